/-
  Part 8 of the proof: how the calls of this program run, over values instead of memory, and what each function computes.
-/
import Derived.Test.YtglokgacghadbaaKg
set_option linter.unusedVariables false
set_option linter.unusedSimpArgs false

namespace Go.Ab

theorem RA.nx {E : Adj} {X : Nat → Prop} {a b : Nat} (h : RA E X a b) : ¬ X b := by
  cases h with
  | refl h => exact h
  | step _ _ h => exact h

theorem RA.head {E : Adj} {X : Nat → Prop} {a b c : Nat} (ha : ¬ X a) (hb : b ∈ suc E a) (h : RA E X b c) : RA E X a c := by
  induction h with
  | refl h => exact (RA.refl ha).step hb h
  | step _ h2 h3 ih => exact ih.step h2 h3

theorem tLL_lenM {A : Adj} {M : Nat} (hA : ∀ k, (suc A k).length ≤ M) (k n : Nat) : (tLL A k n).length ≤ k * M := by
  induction k with
  | zero => simp [tLL]
  | succ k ih =>
    have e : tLL A (k + 1) n = tLL A k n ++ List.replicate ((suc A k).count n) k := by
      unfold tLL
      rw [List.range_succ, List.flatMap_append]
      simp
    rw [e, List.length_append, List.length_replicate, Nat.add_mul]
    have := List.count_le_length (a := n) (l := suc A k)
    have := hA k
    omega

theorem Gr.E_row {g : Gr} (hg : g.small) (k : Nat) : (suc g.E k).length ≤ 1000 := by
  unfold suc Gr.E
  rw [List.getD_eq_getElem?_getD, List.getElem?_map]
  cases hb : g.blocks[k]? with
  | none => simp
  | some b =>
    simp only [Option.map_some, Option.getD_some, List.length_map]
    exact Nat.le_trans (List.length_filter_le _ _) (hg.2 b (List.mem_of_getElem? hb))

/-- The exits. -/
def endsL (E : Adj) : List Nat := filR (fun k => (suc E k).isEmpty) E.length
/-- The graph turned round, and a node that leads to all exits. -/
def postA (E : Adj) : Adj := turnL E ++ [endsL E]

theorem postA_len (E : Adj) : (postA E).length = E.length + 1 := by simp [postA, turnL]
theorem postA_at {E : Adj} {k : Nat} (hk : k < E.length) : suc (postA E) k = tLL E E.length k := by
  unfold suc postA
  rw [List.getD_eq_getElem?_getD, List.getElem?_append_left (by simp [turnL, hk])]
  simp [turnL, hk]
theorem postA_end {E : Adj} : suc (postA E) E.length = endsL E := by
  unfold suc postA
  rw [List.getD_eq_getElem?_getD, List.getElem?_append_right (by simp [turnL])]
  simp [turnL]
theorem postA_out {E : Adj} {k : Nat} (hk : E.length < k) : suc (postA E) k = [] := by
  unfold suc
  rw [List.getD_eq_getElem?_getD, List.getElem?_eq_none (by rw [postA_len]; omega)]
  rfl
theorem mem_ends {E : Adj} {e : Nat} : e ∈ endsL E ↔ e < E.length ∧ suc E e = [] := by
  unfold endsL filR
  rw [List.mem_filter, List.mem_range, List.isEmpty_iff]

theorem postA_ok {E : Adj} : (postA E).ok := by
  intro k n hn
  rw [postA_len]
  rcases Nat.lt_trichotomy k E.length with h | h | h
  · rw [postA_at h] at hn
    have := (tLL_mem.1 hn).1
    omega
  · subst h
    rw [postA_end] at hn
    have := (mem_ends.1 hn).1
    omega
  · rw [postA_out h] at hn; cases hn

theorem postA_small {E : Adj} (hn : E.length ≤ 1000) (hE : ∀ k, (suc E k).length ≤ 1000) : (postA E).small := by
  refine ⟨by rw [postA_len]; omega, fun k => ?_⟩
  rcases Nat.lt_trichotomy k E.length with h | h | h
  · rw [postA_at h]
    have := tLL_lenM hE E.length k
    omega
  · subst h
    rw [postA_end]
    have : (endsL E).length ≤ E.length := filR_le
    omega
  · rw [postA_out h]; simp

theorem post_path {E : Adj} {X : Nat → Prop} (hX : ¬ X E.length) {b : Nat} (hb : b < E.length) : RA (postA E) X E.length b ↔ ∃ e, suc E e = [] ∧ e < E.length ∧ RA E X b e := by
  constructor
  · intro h
    have key : ∀ b, RA (postA E) X E.length b → b = E.length ∨ (b < E.length ∧ ∃ e, suc E e = [] ∧ e < E.length ∧ RA E X b e) := by
      intro b h
      induction h with
      | refl => exact .inl rfl
      | @step b c _ h2 h3 ih =>
        rcases ih with rfl | ⟨hb, e, h4, h5, h6⟩
        · rw [postA_end] at h2
          obtain ⟨h7, h8⟩ := mem_ends.1 h2
          exact .inr ⟨h7, c, h8, h7, .refl h3⟩
        · rw [postA_at hb] at h2
          obtain ⟨h7, h8⟩ := tLL_mem.1 h2
          exact .inr ⟨h7, e, h4, h5, RA.head h3 h8 h6⟩
    rcases key b h with h | h
    · omega
    · exact h.2
  · rintro ⟨e, h1, h2, h3⟩
    have hs : RA (postA E) X E.length e := (RA.refl hX).step (by rw [postA_end]; exact mem_ends.2 ⟨h2, h1⟩) h3.nx
    have key : ∀ m, RA E X b m → m < E.length → RA (postA E) X E.length m → RA (postA E) X E.length b := by
      intro m hm
      induction hm with
      | refl => exact fun _ h => h
      | @step m c h4 h5 h6 ih =>
        intro hc h
        have hml : m < E.length := by
          rcases Nat.lt_or_ge m E.length with h7 | h7
          · exact h7
          · exfalso
            unfold suc at h5
            rw [List.getD_eq_getElem?_getD, List.getElem?_eq_none h7] at h5
            cases h5
        exact ih hml (h.step (by rw [postA_at hc]; exact tLL_mem.2 ⟨hml, h5⟩) h4.nx)
    exact key e h3 h2 hs

theorem leaves_iff {E : Adj} (hE : E.ok) {b : Nat} (hb : b < E.length) {x : Int} : leavesL E (fromL E b x) = true ↔ ∃ e, suc E e = [] ∧ e < E.length ∧ RA E (IsN x) b e := by
  unfold leavesL
  rw [List.any_eq_true]
  constructor
  · rintro ⟨e, h1, h2⟩
    exact ⟨e, List.isEmpty_iff.1 h2, (fromL_nd hE b x).lt e h1, (fromL_mem hE hb).1 h1⟩
  · rintro ⟨e, h1, _, h3⟩
    exact ⟨e, (fromL_mem hE hb).2 h3, List.isEmpty_iff.2 h1⟩

theorem pdomP_iff {E : Adj} (hE : E.ok) {a b : Nat} (hb : b < E.length) (ha : a < E.length) : pdomP E b a = true ↔ RA (postA E) (fun _ => False) E.length b ∧ a ≠ b ∧ Dm (postA E) E.length a b := by
  unfold pdomP
  simp only [Bool.and_eq_true, decide_eq_true_eq, Bool.not_eq_true']
  have h1 := leaves_iff hE hb (x := -1)
  have h2 := leaves_iff hE hb (x := a)
  have e1 : IsN (-1) = fun _ => False := by
    funext y
    refine eq_false fun h => ?_
    unfold IsN at h
    omega
  have e2 : IsN (a : Int) = (· = a) := by
    funext y
    refine propext ⟨fun h => ?_, fun h => ?_⟩
    · unfold IsN at h; show y = a; omega
    · subst h; rfl
  rw [e1, ← post_path id hb] at h1
  rw [e2, ← post_path (X := (· = a)) (fun h => by omega) hb] at h2
  rw [h1]
  have h3 : leavesL E (fromL E b a) = false ↔ Dm (postA E) E.length a b := by
    unfold Dm
    rw [← h2]
    cases leavesL E (fromL E b a) <;> simp
  rw [h3]
  exact ⟨fun ⟨⟨h4, h5⟩, h6⟩ => ⟨h4, h5, h6⟩, fun ⟨h4, h5, h6⟩ => ⟨⟨h4, h5⟩, h6⟩⟩

/-- A tree of numbers, without the last one. -/
def postI (n : Nat) (T : Nat → Option Nat) (k : Nat) : List Int := (List.range (n + 1)).map fun i => if i < k ∧ T i = some n then -1 else tI (T i)

theorem postL_eq {E : Adj} (hE : E.ok) {T : Nat → Option Nat} (D : DTree' (postA E) E.length (ordL (postA E) E.length) T) : (postI E.length T E.length).take E.length = postL E := by
  have hr : E.length < (postA E).length := by rw [postA_len]; omega
  obtain ⟨f, L⟩ := (rpo postA_ok hr).lay
  have hlen : ∀ x ∈ ordL (postA E) E.length, x ≠ E.length ∨ false = true → x < E.length := by
    intro x hx h
    have := (rpo postA_ok hr).lt x hx
    rw [postA_len] at this
    rcases h with h | h
    · omega
    · cases h
  have hS : SL (postA E) E.length (ordL (postA E) E.length) false (postsL E) E.length := by
    have hrow : ∀ b, b < E.length → suc (postsL E) b = (List.range E.length).filter (pdomP E b) := fun b hb => by
      simp [suc, postsL, List.getD_eq_getElem?_getD, hb]
    refine ⟨fun b hb => by rw [hrow b hb]; exact List.Pairwise.filter _ List.nodup_range, fun a b hb => ?_⟩
    rw [hrow b hb, List.mem_filter, List.mem_range, mem_ordL postA_ok hr, mem_ordL postA_ok hr]
    constructor
    · rintro ⟨h1, h2⟩
      obtain ⟨h3, h4, h5⟩ := (pdomP_iff hE hb h1).1 h2
      exact ⟨h3, dm_reach h3 h5, h4, .inl (by omega), h5⟩
    · rintro ⟨h1, h2, h3, h4, h5⟩
      have ha := hlen a ((mem_ordL postA_ok hr).2 h2) h4
      exact ⟨ha, (pdomP_iff hE hb ha).2 ⟨h1, h3, h5⟩⟩
  unfold postI postL
  rw [← List.map_take, List.take_range, Nat.min_eq_left (by omega)]
  refine List.map_congr_left fun b hb => ?_
  have hb' := List.mem_range.1 hb
  rw [near_tree L D hS hlen hb' (fun v hv => D.out hv)]
  cases hT : T b with
  | none => simp [tI]
  | some c =>
    by_cases hc : c = E.length
    · subst hc; simp [hb']
    · simp [tI, hc]

end Go.Ab

namespace Go.Ab
open Go.RowKit Go.Proofs

theorem keepL_congr {l : List Nat} {x : Nat} : keepL (l ++ [x]) l.length = keepL l l.length := by
  unfold keepL
  have h : ∀ j, j < l.length → (l ++ [x]).getD j 0 = l.getD j 0 := fun j hj => by
    rw [List.getD_eq_getElem?_getD, List.getD_eq_getElem?_getD, List.getElem?_append_left hj]
  have hf : filR (keepP (l ++ [x])) l.length = filR (keepP l) l.length := by
    unfold filR
    refine List.filter_congr fun j hj => ?_
    have hj' := List.mem_range.1 hj
    unfold keepP
    rw [h j hj', h (j - 1) (by omega)]
  rw [hf]
  refine List.map_congr_left fun j hj => h j ?_
  exact List.mem_range.1 (List.mem_filter.1 hj).1

theorem compactL_new {l : List Nat} {x : Nat} (h : l.getLast? ≠ some x) : compactL (l ++ [x]) = compactL l ++ [x] := by
  unfold compactL
  have hl : (l ++ [x]).length = l.length + 1 := by simp
  have hk : keepP (l ++ [x]) l.length = true := by
    unfold keepP
    cases hn : l.length with
    | zero => rfl
    | succ m =>
      rw [List.getLast?_eq_getElem?, hn] at h
      have h1 : (l ++ [x]).getD (m + 1) 0 = x := by
        rw [List.getD_eq_getElem?_getD, List.getElem?_append_right (by omega), hn, Nat.sub_self]
        rfl
      have hm : m < l.length := by omega
      have h2 : (l ++ [x]).getD (m + 1 - 1) 0 = l[m] := by
        rw [Nat.add_sub_cancel, List.getD_eq_getElem?_getD, List.getElem?_append_left hm, List.getElem?_eq_getElem hm]
        rfl
      rw [h1, h2]
      rw [Nat.add_sub_cancel, List.getElem?_eq_getElem hm] at h
      have : x ≠ l[m] := fun e => h (by rw [e])
      simp [this]
  rw [hl, keepL_yes (by omega) hk, keepL_congr]
  simp

theorem compactL_old {l : List Nat} {x : Nat} (h : l.getLast? = some x) : compactL (l ++ [x]) = compactL l := by
  unfold compactL
  have hl : (l ++ [x]).length = l.length + 1 := by simp
  have hk : keepP (l ++ [x]) l.length = false := by
    unfold keepP
    cases hn : l.length with
    | zero =>
      rw [List.eq_nil_of_length_eq_zero hn] at h
      cases h
    | succ m =>
      rw [List.getLast?_eq_getElem?, hn] at h
      have h1 : (l ++ [x]).getD (m + 1) 0 = x := by
        rw [List.getD_eq_getElem?_getD, List.getElem?_append_right (by omega), hn, Nat.sub_self]
        rfl
      have hm : m < l.length := by omega
      have h2 : (l ++ [x]).getD (m + 1 - 1) 0 = l[m] := by
        rw [Nat.add_sub_cancel, List.getD_eq_getElem?_getD, List.getElem?_append_left hm, List.getElem?_eq_getElem hm]
        rfl
      rw [h1, h2]
      rw [Nat.add_sub_cancel, List.getElem?_eq_getElem hm] at h
      have : x = l[m] := (Option.some.inj h).symm
      simp [this]
  rw [hl, keepL_no hk, keepL_congr]

theorem compactL_rep {l : List Nat} {x : Nat} (h : x ∉ l) : ∀ c, compactL (l ++ List.replicate c x) = compactL l ++ if c = 0 then [] else [x]
  | 0 => by simp
  | c + 1 => by
    rw [List.replicate_succ', ← List.append_assoc]
    cases c with
    | zero =>
      rw [List.replicate_zero, List.append_nil, compactL_new (fun h2 => h (List.mem_of_getLast? h2))]
      rfl
    | succ c =>
      rw [compactL_old (by rw [List.getLast?_append]; simp [List.replicate_succ']), compactL_rep h (c + 1)]
      rfl

theorem compact_tLL {A : Adj} {b : Nat} : ∀ k, compactL (tLL A k b) = filR (fun a => decide (b ∈ suc A a)) k
  | 0 => rfl
  | k + 1 => by
    have h1 : tLL A (k + 1) b = tLL A k b ++ List.replicate ((suc A k).count b) k := by
      unfold tLL
      rw [List.range_succ, List.flatMap_append]
      simp
    have h2 : k ∉ tLL A k b := by
      unfold tLL
      rw [List.mem_flatMap]
      rintro ⟨a, h3, h4⟩
      have h5 := List.mem_range.1 h3
      have h6 := List.eq_of_mem_replicate h4
      omega
    rw [h1, compactL_rep h2, compact_tLL k]
    by_cases h3 : b ∈ suc A k
    · have := List.count_pos_iff.2 h3
      rw [if_neg (by omega), filR_pos (decide_eq_true h3)]
    · rw [if_pos (List.count_eq_zero.2 h3), filR_neg (decide_eq_false h3), List.append_nil]

theorem compact_predL (E : Adj) : ((List.range E.length).map fun i => compactL (tLL E E.length i)) = predL E := by
  unfold predL
  refine List.map_congr_left fun b _ => ?_
  rw [compact_tLL]
  rfl

theorem mem_predL {E : Adj} {a b : Nat} (hb : b < E.length) : a ∈ suc (predL E) b ↔ a < E.length ∧ b ∈ suc E a := by
  simp [suc, predL, List.getD_eq_getElem?_getD, hb]

theorem mem_strictL {E : Adj} {a b : Nat} (hb : b < E.length) : a ∈ suc (strictL E) b ↔ a < E.length ∧ sdomP E a b = true := by
  simp [suc, strictL, List.getD_eq_getElem?_getD, hb]

/-- The frontier, in words of a tree. -/
theorem frontP_iff {E : Adj} (hE : E.ok) (hn : 0 < E.length) {T : Nat → Option Nat} (D : DTree' E 0 (ordL E 0) T) {b w : Nat} (hw : w < E.length) :
    frontP E b w = true ↔ ∃ p, w ∈ suc E p ∧ p ∈ ordL E 0 ∧ Ch T p b ∧ ¬ (b ≠ w ∧ Ch T w b) := by
  have hm : ∀ x, x ∈ fromL E 0 (-1) ↔ x ∈ ordL E 0 := fun x => (fromL_all hE hn).trans (mem_ordL hE hn).symm
  have hlt := (rpo hE hn).lt
  have h0 : (0 : Nat) ∈ ordL E 0 := (mem_ordL hE hn).2 (.refl (by simp))
  have hs : ∀ a v, v ∈ ordL E 0 → a ∈ ordL E 0 → (a ∈ suc (strictL E) v ↔ v ≠ a ∧ Ch T v a) := fun a v hv ha => by
    rw [mem_strictL (hlt v hv), sdomP_iff hE hn, D.ch v hv a ha, ← mem_ordL hE hn]
    exact ⟨fun h => h.2.2, fun h => ⟨hlt a ha, hv, h⟩⟩
  unfold frontP
  simp only [Bool.and_eq_true, decide_eq_true_eq, List.any_eq_true, Bool.or_eq_true, beq_iff_eq, hm]
  constructor
  · rintro ⟨⟨hb, v, hv, hvl, h1⟩, h2⟩
    obtain ⟨_, hwv⟩ := (mem_predL hw).1 hv
    have hwl : w ∈ ordL E 0 := (mem_ordL hE hn).2 (((mem_ordL hE hn).1 hvl).step hwv (by simp))
    refine ⟨v, hwv, hvl, ?_, fun ⟨h3, h4⟩ => h2 ((hs b w hwl hb).2 ⟨fun e => h3 e.symm, h4⟩)⟩
    rcases h1 with rfl | h1
    · exact .refl _
    · exact ((hs b v hvl hb).1 h1).2
  · rintro ⟨p, hp, hpl, hc, hno⟩
    have hwl : w ∈ ordL E 0 := (mem_ordL hE hn).2 (((mem_ordL hE hn).1 hpl).step hp (by simp))
    have hb := (D.wt.mem h0 hpl hc).1
    refine ⟨⟨hb, p, (mem_predL hw).2 ⟨hlt p hpl, hp⟩, hpl, ?_⟩, fun h3 => ?_⟩
    · by_cases h4 : p = b
      · exact .inl h4
      · exact .inr ((hs b p hpl hb).2 ⟨h4, hc⟩)
    · obtain ⟨h5, h6⟩ := (hs b w hwl hb).1 h3
      exact hno ⟨fun e => h5 e.symm, h6⟩

theorem Ch.anti {r : Nat} {l : List Nat} {T : Nat → Option Nat} (w : WT r l T) (hr : r ∈ l) {a b : Nat} (ha : a ∈ l) (hb : b ∈ l) (h1 : Ch T a b) (h2 : Ch T b a) : a = b := by
  obtain ⟨_, h3, h4⟩ := w.mem hr ha h1
  obtain ⟨_, h5, _⟩ := w.mem hr hb h2
  exact (h4 (by omega)).symm

/-- The dominators that the given tree tells. -/
theorem domGo_ch {r : Nat} {l : List Nat} {T : Nat → Option Nat} (w : WT r l T) {n : Nat} (hlt : ∀ x ∈ l, x < n) (a : Nat) : ∀ (f b : Nat), b ∈ l → l.idxOf b < f → (domGo (outI n T) a f b = true ↔ Ch T b a)
  | 0, b, hb, h => by omega
  | f + 1, b, hb, h => by
    have hbn := hlt b hb
    simp only [domGo]
    rw [if_pos ⟨by omega, by rw [outI_len]; omega⟩]
    by_cases hab : a = b
    · subst hab
      rw [if_pos rfl]
      exact ⟨fun _ => .refl _, fun _ => rfl⟩
    · rw [if_neg (by omega)]
      have hg : (outI n T).getD (b : Int).toNat 0 = tI (T b) := by simp [outI, List.getD_eq_getElem?_getD, hbn]
      rw [hg]
      cases hT : T b with
      | none =>
        have : domGo (outI n T) a f (tI none) = false := by
          cases f with
          | zero => rfl
          | succ f => simp [domGo, tI]
        rw [this]
        refine ⟨fun h => (by cases h), fun h => ?_⟩
        rcases h.cases' with h | ⟨j, h, _⟩
        · exact absurd h hab
        · rw [hT] at h; cases h
      | some c =>
        obtain ⟨_, h2, h3, _⟩ := w.up _ _ hT
        show domGo (outI n T) a f (c : Int) = true ↔ _
        rw [domGo_ch w hlt a f c h2 (by omega)]
        refine ⟨fun h => .up hT h, fun h => ?_⟩
        rcases h.cases' with h | ⟨j, h, h4⟩
        · exact absurd h hab
        · rw [hT] at h; cases h; exact h4

theorem domL_ch {E : Adj} (hE : E.ok) (hn : 0 < E.length) {T : Nat → Option Nat} (D : DTree' E 0 (ordL E 0) T) {a b : Nat} (ha : a ∈ ordL E 0) (hb : b ∈ ordL E 0) : domL (treeL E) a b = true ↔ Ch T b a := by
  have hR := rpo hE hn
  have hN : NdL E.length (ordL E 0) := ⟨hR.nd, hR.lt⟩
  rw [← treeL_eq hE hn D]
  unfold domL
  have h1 := hR.lt a ha
  rw [outI_len, if_neg (by omega)]
  refine domGo_ch D.wt hR.lt a _ b hb ?_
  have h2 := idxOf_lt' hb
  have h3 := hN.len
  omega

/-! ### The walk up from a predecessor -/

def addS (S : Nat → Bool) (c : Nat) : Nat → Bool := fun x => S x || x == c

structure FrP (E : Adj) (T : Nat → Option Nat) (w j : Nat) (S : Nat → Bool) : Prop where
  sub : ∀ x, S x = true → frontP E x w = true
  all : ∀ i p, i < j → (suc (predL E) w)[i]? = some p → p ∈ ordL E 0 → ∀ x, Ch T p x → frontP E x w = true → S x = true
structure FrB (E : Adj) (T : Nat → Option Nat) (w j p : Nat) (b : Option Nat) (S : Nat → Bool) : Prop extends FrP E T w j S where
  at_ : (suc (predL E) w)[j]? = some p
  pl : p ∈ ordL E 0
  here : ∀ c, b = some c → Ch T p c
  rest : ∀ x, Ch T p x → frontP E x w = true → S x = true ∨ ∃ c, b = some c ∧ Ch T c x

theorem FrP.zero {E : Adj} {T : Nat → Option Nat} {w : Nat} : FrP E T w 0 (fun _ => false) := ⟨fun _ h => (by cases h), fun _ _ h => (by omega)⟩
theorem FrP.skip {E : Adj} {T : Nat → Option Nat} {w j p : Nat} {S : Nat → Bool} (h : FrP E T w j S) (hp : (suc (predL E) w)[j]? = some p) (hl : p ∉ ordL E 0) : FrP E T w (j + 1) S := by
  refine ⟨h.sub, fun i q hi hq hql => ?_⟩
  by_cases h1 : i = j
  · subst h1; rw [hp] at hq; cases hq; exact absurd hql hl
  · exact h.all i q (by omega) hq hql
theorem FrP.into {E : Adj} {T : Nat → Option Nat} {w j p : Nat} {S : Nat → Bool} (h : FrP E T w j S) (hp : (suc (predL E) w)[j]? = some p) (hl : p ∈ ordL E 0) : FrB E T w j p (some p) S :=
  ⟨h, hp, hl, fun c hc => by cases hc; exact .refl _, fun x hx _ => .inr ⟨p, rfl, hx⟩⟩
theorem FrB.done {E : Adj} {T : Nat → Option Nat} {w j p : Nat} {S : Nat → Bool} (h : FrB E T w j p none S) : FrP E T w (j + 1) S := by
  refine ⟨h.sub, fun i q hi hq hql x hx hf => ?_⟩
  by_cases h1 : i = j
  · subst h1
    rw [h.at_] at hq
    cases hq
    rcases h.rest x hx hf with h2 | ⟨c, h2, _⟩
    · exact h2
    · cases h2
  · exact h.all i q (by omega) hq hql x hx hf
section
variable {E : Adj} {T : Nat → Option Nat} {w j p : Nat} {S : Nat → Bool} (hE : E.ok) (hn : 0 < E.length) (D : DTree' E 0 (ordL E 0) T) (hw : w < E.length)
include hE hn
theorem z_mem : (0 : Nat) ∈ ordL E 0 := (mem_ordL hE hn).2 (.refl (by simp))
include D
theorem FrB.mem {c : Nat} (h : FrB E T w j p (some c) S) : c ∈ ordL E 0 := (D.wt.mem (z_mem hE hn) h.pl (h.here c rfl)).1
include hw
omit hE hn D in
theorem FrB.edge {b : Option Nat} (h : FrB E T w j p b S) : w ∈ suc E p := ((mem_predL hw).1 (List.mem_of_getElem? h.at_)).2
omit D in
theorem FrB.wl {b : Option Nat} (h : FrB E T w j p b S) : w ∈ ordL E 0 := (mem_ordL hE hn).2 (((mem_ordL hE hn).1 h.pl).step (h.edge hw) (by simp))
theorem FrB.stop {c : Nat} (h : FrB E T w j p (some c) S) (hc : c ≠ w) (hd : Ch T w c) : FrP E T w (j + 1) S := by
  have hwl := h.wl hE hn hw
  have hcl := h.mem hE hn D
  refine FrB.done (p := p) ⟨h.toFrP, h.at_, h.pl, fun c hc => (by cases hc), fun x hx hf => ?_⟩
  rcases h.rest x hx hf with h2 | ⟨c', h2, h3⟩
  · exact .inl h2
  · cases h2
    exfalso
    obtain ⟨q, _, _, _, h4⟩ := (frontP_iff hE hn D hw).1 hf
    refine h4 ⟨?_, hd.trans h3⟩
    rintro rfl
    exact hc (Ch.anti D.wt (z_mem hE hn) hcl hwl h3 hd)
theorem FrB.next {c : Nat} (h : FrB E T w j p (some c) S) (hno : ¬ (c ≠ w ∧ Ch T w c)) : FrB E T w j p (T c) (addS S c) := by
  have hf : frontP E c w = true := (frontP_iff hE hn D hw).2 ⟨p, h.edge hw, h.pl, h.here c rfl, hno⟩
  refine ⟨⟨fun x hx => ?_, fun i q hi hq hql x hx hfx => ?_⟩, h.at_, h.pl, fun d hd => (h.here c rfl).trans (.up hd (.refl _)), fun x hx hfx => ?_⟩
  · rcases Bool.or_eq_true_iff.1 hx with h1 | h1
    · exact h.sub x h1
    · rw [beq_iff_eq.1 h1]; exact hf
  · unfold addS; rw [h.all i q hi hq hql x hx hfx]; rfl
  · rcases h.rest x hx hfx with h2 | ⟨c', h2, h3⟩
    · exact .inl (by unfold addS; rw [h2]; rfl)
    · cases h2
      rcases h3.cases' with rfl | ⟨d, h4, h5⟩
      · exact .inl (by simp [addS])
      · exact .inr ⟨d, h4, h5⟩
theorem FrP.end_ (h : FrP E T w (suc (predL E) w).length S) (x : Nat) : S x = frontP E x w := by
  rw [Bool.eq_iff_iff]
  refine ⟨h.sub x, fun hf => ?_⟩
  obtain ⟨q, h1, h2, h3, _⟩ := (frontP_iff hE hn D hw).1 hf
  obtain ⟨i, hi, rfl⟩ := List.mem_iff_getElem.1 ((mem_predL hw).2 ⟨(rpo hE hn).lt q h2, h1⟩)
  exact h.all i _ hi (List.getElem?_eq_getElem hi) h2 x h3 hf
theorem front_out (hwl : w ∉ ordL E 0) (x : Nat) : frontP E x w = false := by
  rw [Bool.eq_false_iff]
  intro hf
  obtain ⟨q, h1, h2, h3, _⟩ := (frontP_iff hE hn D hw).1 hf
  exact hwl ((mem_ordL hE hn).2 (((mem_ordL hE hn).1 h2).step h1 (by simp)))
end

end Go.Ab

namespace Go.Ab
open Go.RowKit Go.Proofs

def isEnd (E : Adj) (k : Nat) : Bool := (suc E k).isEmpty

theorem vw_post {H HH : AH} {σ : Nat → Nat → Option (Nat × Nat × Nat)} {D : Nat → Nat → Prop} {t : Bool} {E : Adj} {gs : Nat → Nat} {g0 g1 : Nat} {F r : Nat} (hD : ∀ r q, D r q) (hE : (postA E).small) (hg : H.get r 0 = some (.row 1 ((fe F E.length (tLL E E.length) gs).take E.length ++ [[.own 0 0 g0 0 (endsL E).length]]) g1))
    (hF : H.look F = some (.fam 1 (fi cN E.length (tLL E E.length) gs))) (h0 : H.get 0 0 = some (.row 1 ((endsL E).map cN) g0)) : Vw H HH σ D t (.own r 0 g1 0 (E.length + 1)) (encNN (postA E)) := by
  have hB : big = 9223372036854775807 := rfl
  have hrow : ∀ k, (suc (postA E) k).length ≤ big := fun k => Nat.le_trans (hE.row k) (by omega)
  have hl := hE.len
  rw [postA_len] at hl
  have e : encNN (postA E) = .sl 1 (E.length + 1) (fun i j => (((postA E).map (fun l => [encNats l])).getD i []).getD j .undef) := by
    show encL _ _ _ = _
    unfold encL
    rw [postA_len]
  rw [e]
  have hfl : ((fe F E.length (tLL E E.length) gs).take E.length).length = E.length := by rw [List.length_take, fe_len]; omega
  refine .frz t r 0 g1 0 (E.length + 1) 1 _ _ (hD _ _) hg (by omega) (by rw [List.length_append, hfl]; simp) (fun i j hi hj => ?_)
  obtain rfl : j = 0 := by omega
  have h1 : ((postA E).map (fun l => [encNats l])).getD i [] = [encNats (suc (postA E) i)] := by
    rw [getD_map (by rw [postA_len]; omega)]
    simp [suc, List.getD_eq_getElem?_getD, show i < (postA E).length by rw [postA_len]; omega]
  rw [h1, Nat.zero_add]
  by_cases hi2 : i < E.length
  · rw [postA_at hi2]
    have h2 : ((fe F E.length (tLL E E.length) gs).take E.length ++ [[AV.own 0 0 g0 0 (endsL E).length]]).getD i [] = (fe F E.length (tLL E E.length) gs).getD i [] := by
      rw [List.getD_eq_getElem?_getD, List.getD_eq_getElem?_getD, List.getElem?_append_left (by omega), List.getElem?_take_of_lt hi2]
    rw [h2, fe_get hi2]
    have h3 := hrow i
    rw [postA_at hi2] at h3
    exact vw_nats (hD _ _) (fi_part hF hi2) h3
  · obtain rfl : i = E.length := by omega
    have h2 : ((fe F E.length (tLL E E.length) gs).take E.length ++ [[AV.own 0 0 g0 0 (endsL E).length]]).getD E.length [] = [AV.own 0 0 g0 0 (endsL E).length] := by
      rw [List.getD_eq_getElem?_getD, List.getElem?_append_right (by omega), hfl, Nat.sub_self]
      rfl
    rw [h2, postA_end]
    have h3 := hrow E.length
    rw [postA_end] at h3
    exact vw_nats (hD _ _) h0 h3

theorem postI_len {n k : Nat} {T : Nat → Option Nat} : (postI n T k).length = n + 1 := by simp [postI]
theorem postI_zero {n : Nat} {T : Nat → Option Nat} : postI n T 0 = outI (n + 1) T := by simp [postI, outI]
theorem postI_get {n k i : Nat} {T : Nat → Option Nat} (h : k ≤ i) (hi : i < n) : ((postI n T k).map cI).getD i [] = [.int .i64 (tI (T i))] := by
  have h2 : i < n + 1 := by omega
  have h3 : ¬ i < k := by omega
  simp [postI, List.getD_eq_getElem?_getD, h2, h3]
theorem postI_set {n k : Nat} {T : Nat → Option Nat} (h : T k = some n) : ((postI n T k).map cI).set k [.int .i64 (-1)] = (postI n T (k + 1)).map cI := by
  unfold postI
  rw [List.map_map, List.map_map, map_range_set]
  refine List.map_congr_left fun i hi => ?_
  simp only [Function.comp]
  by_cases h1 : i = k
  · subst h1; rw [updF_same, if_pos ⟨by omega, h⟩]
  · rw [updF_ne h1]
    simp only [Function.comp]
    congr 1
    by_cases h2 : i < k
    · by_cases h3 : T i = some n
      · rw [if_pos ⟨h2, h3⟩, if_pos ⟨by omega, h3⟩]
      · rw [if_neg (fun h => h3 h.2), if_neg (fun h => h3 h.2)]
    · rw [if_neg (fun h => h2 h.1), if_neg (fun h => h2 (by omega))]
theorem postI_no {n k : Nat} {T : Nat → Option Nat} (h : T k ≠ some n) : postI n T (k + 1) = postI n T k := by
  unfold postI
  refine List.map_congr_left fun i hi => ?_
  by_cases h3 : T i = some n
  · have : i ≠ k := fun h4 => h (h4 ▸ h3)
    by_cases h2 : i < k
    · rw [if_pos ⟨by omega, h3⟩, if_pos ⟨h2, h3⟩]
    · rw [if_neg (fun h => h2 (by omega)), if_neg (fun h => h2 h.1)]
  · rw [if_neg (fun h => h3 h.2), if_neg (fun h => h3 h.2)]

theorem dominator_PostTree_ok (g : Gr) (hg : g.small) : PureFn Try.prog f_dominator_PostTree [.agg g.cells] (· = encInts (postL g.E)) := by
  refine fn_x cf_dominator_PostTree rfl ?_
  unfold ac_dominator_PostTree
  have hB : big = 9223372036854775807 := rfl
  have hn := hg.1
  have hlen := g.E_len
  have hsm := Gr.E_small hg
  have hpsm : (postA g.E).small := postA_small (by omega) (Gr.E_row hg)
  have hpo := postA_ok (E := g.E)
  have hpl := postA_len g.E
  have hlaw : ∀ T, DTree' (postA g.E) g.E.length (ordL (postA g.E) g.E.length) T → _ := fun T hT => postL_eq g.E_ok hT
  have htr := dominator_tree_ok (postA g.E) hpsm hpo g.E.length (by omega)
  (repeat (first | (simp (disch := (first | omega | (simp only [evF, evL, implies_true, and_self]; done) | fail)) only [evS, evZ, evK, evB, evL, evR, Nat.reduceBEq, Nat.reduceAdd, Nat.reduceLeDiff, boxR, rboxR, allocR, fldR, binI, unR, pickR, mknilR, mkslR, buildSlR, buildR, extR, convI, eqB, evU, wrap64, Gr.cells, Gr.two]) | (with_reducible intro _) | ((with_reducible apply And.intro); omega)))
  refine callX_fix (call_flat (dominator_all_ok g hg) rfl) ?_
  (repeat (first | (simp (disch := (first | omega | (simp only [evF, evL, implies_true, and_self]; done) | fail)) only [evS, evZ, evK, evB, evL, evR, Nat.reduceBEq, Nat.reduceAdd, Nat.reduceLeDiff, boxR, rboxR, allocR, fldR, binI, unR, pickR, mknilR, mkslR, buildSlR, buildR, extR, convI, eqB, evU, wrap64]) | (with_reducible intro _) | ((with_reducible apply And.intro); omega)))
  rw [← hlen]
  have hends : endsL g.E = filR (isEnd g.E) g.E.length := rfl
  refine loopX_intro (fun s : Nat => ([(3, .int .i64 g.E.length), (4, encNN g.E), (5, .own 0 0 0 0 (filR (isEnd g.E) s).length), (16, .int .i64 g.E.length), (17, .int .i64 s)], [(0, .row 1 ((filR (isEnd g.E) s).map cN) 0)])) 1
    (fun s => s ≤ g.E.length) (fun s => g.E.length - s) 0 (Nat.zero_le _) (Ent.tab [(0, 1, 0)] [] rfl ?_ ?_) ?_
  · simp only [evW, evK, evB, evL, Nat.reduceBEq, Nat.reduceAdd, Nat.reduceSub, Nat.reduceLeDiff, Nat.reduceLT, implies_true, and_self, Int.natCast_zero, Int.natCast_one, Int.cast_ofNat_Int, evV, encInts, encNats, encBools, encP]
    exact rowV_nats (l := [])
  · simp only [evW, evK, evB, evL, Nat.reduceBEq, Nat.reduceAdd, Nat.reduceSub, Nat.reduceLeDiff, Nat.reduceLT, implies_true, and_self, Int.natCast_zero, Int.natCast_one, Int.cast_ofNat_Int, evV, encInts, encNats, encBools, encP, filR_zero, encNN]
    rfl
  intro k hk wf
  unfold ac_dominator_PostTree_l0
  (repeat (first | (simp (disch := (first | omega | (simp only [evF, evL, implies_true, and_self]; done) | fail)) only [evS, evZ, evK, evB, evL, evR, Nat.reduceBEq, Nat.reduceAdd, Nat.reduceLeDiff, boxR, rboxR, allocR, fldR, binI, unR, pickR, mknilR, mkslR, buildSlR, buildR, extR, convI, eqB, evU, wrap64, encNN]) | (with_reducible intro _) | ((with_reducible apply And.intro); omega)))
  (refine condX_intro (fun h => ?_) (fun h => ?_)) <;> (try simp only [decide_eq_true_eq, decide_eq_false_iff_not, Bool.not_eq_true', Bool.not_eq_false', Bool.and_eq_true, Bool.or_eq_true, not_true_eq_false, not_false_eq_true] at h)
  · have hk' : k < g.E.length := by omega
    have hle : (filR (isEnd g.E) k).length ≤ k := filR_le
    have hrow : (suc g.E k).length = (g.E[k]).length := by simp [suc, List.getD_eq_getElem?_getD, hk']
    (repeat (first | (simp (disch := (first | omega | (simp only [evF, evL, implies_true, and_self]; done) | fail)) only [evS, evZ, evK, evB, evL, evR, Nat.reduceBEq, Nat.reduceAdd, Nat.reduceLeDiff, boxR, rboxR, allocR, fldR, binI, unR, pickR, mknilR, mkslR, buildSlR, buildR, extR, convI, eqB, evU, wrap64, getD_map hk', encNats]) | (with_reducible intro _) | ((with_reducible apply And.intro); omega)))
    (refine condX_intro (fun h2 => ?_) (fun h2 => ?_)) <;> (try simp only [decide_eq_true_eq, decide_eq_false_iff_not, Bool.not_eq_true', Bool.not_eq_false', Bool.and_eq_true, Bool.or_eq_true, not_true_eq_false, not_false_eq_true] at h2)
    · have hy : isEnd g.E k = true := by unfold isEnd; rw [List.isEmpty_iff_length_eq_zero]; omega
      have hst := filR_pos (n := k) hy
      (repeat (first | (simp (disch := (first | omega | (simp only [evF, evL, implies_true, and_self]; done) | fail)) only [evS, evZ, evK, evB, evL, evR, Nat.reduceBEq, Nat.reduceAdd, Nat.reduceLeDiff, boxR, rboxR, allocR, fldR, binI, unR, pickR, mknilR, mkslR, buildSlR, buildR, extR, convI, eqB, evU, wrap64]) | (with_reducible intro _) | ((with_reducible apply And.intro); omega)))
      exact ⟨k + 1, by omega, by omega, (Ent.tab [(0, 0, 1)] [] rfl (by (try simp only [evW, evK, evB, evL, Nat.reduceBEq, Nat.reduceAdd, Nat.reduceSub, Nat.reduceLeDiff, Nat.reduceLT, implies_true, and_self, Int.natCast_zero, Int.natCast_one, Int.cast_ofNat_Int, evV, encInts, encNats, encBools, encP, hst, List.map_append]) <;> (repeat' with_reducible apply And.intro) <;> first | omega | exact vw_nats rfl rfl (by omega) | exact vw_ints rfl rfl (by omega) | exact vw_bools rfl rfl (by omega) | exact rowV_fe (fun _ => rfl) | exact rowV_fe_start (c := cN) (fun _ => rfl) rfl | exact rowsV_fam (fun _ => rfl) (by decide) ⟨rfl, rfl⟩ trivial | exact rowsV_fam (fun _ => rfl) (by decide) (fun _ _ => ⟨rfl, rfl⟩) trivial | (simp; done)) (by (try simp only [evW, evK, evB, evL, Nat.reduceBEq, Nat.reduceAdd, Nat.reduceSub, Nat.reduceLeDiff, Nat.reduceLT, implies_true, and_self, Int.natCast_zero, Int.natCast_one, Int.cast_ofNat_Int, evV, encInts, encNats, encBools, encP, hst, List.map_append]) <;> (repeat' with_reducible apply And.intro) <;> first | omega | exact vw_nats rfl rfl (by omega) | exact vw_ints rfl rfl (by omega) | exact vw_bools rfl rfl (by omega) | exact rowV_fe (fun _ => rfl) | exact rowV_fe_start (c := cN) (fun _ => rfl) rfl | exact rowsV_fam (fun _ => rfl) (by decide) ⟨rfl, rfl⟩ trivial | exact rowsV_fam (fun _ => rfl) (by decide) (fun _ _ => ⟨rfl, rfl⟩) trivial | (simp; done)))⟩
    · have hst : filR (isEnd g.E) (k + 1) = filR (isEnd g.E) k := filR_neg (by unfold isEnd; rw [Bool.eq_false_iff, Ne, List.isEmpty_iff_length_eq_zero]; omega)
      (repeat (first | (simp (disch := (first | omega | (simp only [evF, evL, implies_true, and_self]; done) | fail)) only [evS, evZ, evK, evB, evL, evR, Nat.reduceBEq, Nat.reduceAdd, Nat.reduceLeDiff, boxR, rboxR, allocR, fldR, binI, unR, pickR, mknilR, mkslR, buildSlR, buildR, extR, convI, eqB, evU, wrap64]) | (with_reducible intro _) | ((with_reducible apply And.intro); omega)))
      exact ⟨k + 1, by omega, by omega, (Ent.tab [(0, 0, 0)] [] rfl (by (try simp only [evW, evK, evB, evL, Nat.reduceBEq, Nat.reduceAdd, Nat.reduceSub, Nat.reduceLeDiff, Nat.reduceLT, implies_true, and_self, Int.natCast_zero, Int.natCast_one, Int.cast_ofNat_Int, evV, encInts, encNats, encBools, encP, hst]) <;> (repeat' with_reducible apply And.intro) <;> first | omega | exact vw_nats rfl rfl (by omega) | exact vw_ints rfl rfl (by omega) | exact vw_bools rfl rfl (by omega) | exact rowV_fe (fun _ => rfl) | exact rowV_fe_start (c := cN) (fun _ => rfl) rfl | exact rowsV_fam (fun _ => rfl) (by decide) ⟨rfl, rfl⟩ trivial | exact rowsV_fam (fun _ => rfl) (by decide) (fun _ _ => ⟨rfl, rfl⟩) trivial | (simp; done)) (by (try simp only [evW, evK, evB, evL, Nat.reduceBEq, Nat.reduceAdd, Nat.reduceSub, Nat.reduceLeDiff, Nat.reduceLT, implies_true, and_self, Int.natCast_zero, Int.natCast_one, Int.cast_ofNat_Int, evV, encInts, encNats, encBools, encP, hst]) <;> (repeat' with_reducible apply And.intro) <;> first | omega | exact vw_nats rfl rfl (by omega) | exact vw_ints rfl rfl (by omega) | exact vw_bools rfl rfl (by omega) | exact rowV_fe (fun _ => rfl) | exact rowV_fe_start (c := cN) (fun _ => rfl) rfl | exact rowsV_fam (fun _ => rfl) (by decide) ⟨rfl, rfl⟩ trivial | exact rowsV_fam (fun _ => rfl) (by decide) (fun _ _ => ⟨rfl, rfl⟩) trivial | (simp; done)))⟩
  · obtain rfl : k = g.E.length := by omega
    unfold ac_dominator_PostTree_k3
    (repeat (first | (simp (disch := (first | omega | (simp only [evF, evL, implies_true, and_self]; done) | fail)) only [evS, evZ, evK, evB, evL, evR, Nat.reduceBEq, Nat.reduceAdd, Nat.reduceLeDiff, boxR, rboxR, allocR, fldR, binI, unR, pickR, mknilR, mkslR, buildSlR, buildR, extR, convI, eqB, evU, wrap64]) | (with_reducible intro _) | ((with_reducible apply And.intro); omega)))
    refine call_own [] 0 _ (dominator_turned_ok g.E hsm g.E_ok) rfl rfl (by (try simp only [evW, evK, evB, evL, Nat.reduceBEq, Nat.reduceAdd, Nat.reduceSub, Nat.reduceLeDiff, Nat.reduceLT, implies_true, and_self, Int.natCast_zero, Int.natCast_one, Int.cast_ofNat_Int, evV, encInts, encNats, encBools, encP, encNN]) <;> (repeat' with_reducible apply And.intro) <;> first | omega | exact vw_nats rfl rfl (by omega) | exact vw_ints rfl rfl (by omega) | exact vw_bools rfl rfl (by omega) | exact rowV_fe (fun _ => rfl) | exact rowV_fe_start (c := cN) (fun _ => rfl) rfl | exact rowsV_fam (fun _ => rfl) (by decide) ⟨rfl, rfl⟩ trivial | exact rowsV_fam (fun _ => rfl) (by decide) (fun _ _ => ⟨rfl, rfl⟩) trivial | (simp; done)) (by (try simp only [evW, evK, evB, evL, Nat.reduceBEq, Nat.reduceAdd, Nat.reduceSub, Nat.reduceLeDiff, Nat.reduceLT, implies_true, and_self, Int.natCast_zero, Int.natCast_one, Int.cast_ofNat_Int, evV, encInts, encNats, encBools, encP, encNN]) <;> (repeat' with_reducible apply And.intro) <;> first | omega | exact vw_nats rfl rfl (by omega) | exact vw_ints rfl rfl (by omega) | exact vw_bools rfl rfl (by omega) | exact rowV_fe (fun _ => rfl) | exact rowV_fe_start (c := cN) (fun _ => rfl) rfl | exact rowsV_fam (fun _ => rfl) (by decide) ⟨rfl, rfl⟩ trivial | exact rowsV_fam (fun _ => rfl) (by decide) (fun _ _ => ⟨rfl, rfl⟩) trivial | (simp; done)) ?_
    rintro v H' nx' ⟨gs, rfl, rfl, rfl⟩
    have hfl : ∀ F, (fe F g.E.length (tLL g.E g.E.length) gs).length = g.E.length := fun F => fe_len
    (repeat (first | (simp (disch := (first | omega | (simp only [evF, evL, implies_true, and_self]; done) | fail)) only [evS, evZ, evK, evB, evL, evR, Nat.reduceBEq, Nat.reduceAdd, Nat.reduceLeDiff, boxR, rboxR, allocR, fldR, binI, unR, pickR, mknilR, mkslR, buildSlR, buildR, extR, convI, eqB, evU, wrap64, fi_ren, fe_ren]) | (with_reducible intro _) | ((with_reducible apply And.intro); omega)))
    refine ⟨⟨by rw [hfl]; exact Nat.le_refl _, by omega⟩, ?_⟩
    rw [← hends]
    refine call_lend (D := allR) htr (.cons (vw_post (fun _ _ => trivial) hpsm rfl rfl rfl) (.cons (.int _ _ _) .nil)) ?_ ?_
    · rintro v H' nx' ⟨T, hT, rfl, rfl, rfl⟩
      exact ⟨rfl, noMemH_one noMem_ints⟩
    rintro v H' nx' ⟨T, hT, rfl, rfl, rfl⟩
    have hl := hlaw T hT
    rw [hpl, ← postI_zero]
    rw [← hl]
    generalize g.E.length = n at *
    (repeat (first | (simp (disch := (first | omega | (simp only [evF, evL, implies_true, and_self]; done) | fail)) only [evS, evZ, evK, evB, evL, evR, Nat.reduceBEq, Nat.reduceAdd, Nat.reduceLeDiff, boxR, rboxR, allocR, fldR, binI, unR, pickR, mknilR, mkslR, buildSlR, buildR, extR, convI, eqB, evU, wrap64, evP]) | (with_reducible intro _) | ((with_reducible apply And.intro); omega)))
    refine loopX_intro (fun k : Nat => ([(3, .int .i64 n), (7, .own 0 0 0 0 n), (41, .int .i64 n), (42, .int .i64 k)], [(0, .row 1 ((postI n T k).map cI) 0)])) 1
      (fun k => k ≤ n) (fun k => n - k) 0 (Nat.zero_le _) (Ent.tab [(0, 4, 0)] [] rfl (by (try simp only [evW, evK, evB, evL, Nat.reduceBEq, Nat.reduceAdd, Nat.reduceSub, Nat.reduceLeDiff, Nat.reduceLT, implies_true, and_self, Int.natCast_zero, Int.natCast_one, Int.cast_ofNat_Int, evV, encInts, encNats, encBools, encP]) <;> (repeat' with_reducible apply And.intro) <;> first | omega | exact vw_nats rfl rfl (by omega) | exact vw_ints rfl rfl (by omega) | exact vw_bools rfl rfl (by omega) | exact rowV_fe (fun _ => rfl) | exact rowV_fe_start (c := cN) (fun _ => rfl) rfl | exact rowsV_fam (fun _ => rfl) (by decide) ⟨rfl, rfl⟩ trivial | exact rowsV_fam (fun _ => rfl) (by decide) (fun _ _ => ⟨rfl, rfl⟩) trivial | (simp; done)) (by (try simp only [evW, evK, evB, evL, Nat.reduceBEq, Nat.reduceAdd, Nat.reduceSub, Nat.reduceLeDiff, Nat.reduceLT, implies_true, and_self, Int.natCast_zero, Int.natCast_one, Int.cast_ofNat_Int, evV, encInts, encNats, encBools, encP]) <;> (repeat' with_reducible apply And.intro) <;> first | omega | exact vw_nats rfl rfl (by omega) | exact vw_ints rfl rfl (by omega) | exact vw_bools rfl rfl (by omega) | exact rowV_fe (fun _ => rfl) | exact rowV_fe_start (c := cN) (fun _ => rfl) rfl | exact rowsV_fam (fun _ => rfl) (by decide) ⟨rfl, rfl⟩ trivial | exact rowsV_fam (fun _ => rfl) (by decide) (fun _ _ => ⟨rfl, rfl⟩) trivial | (simp; done))) ?_
    intro k hk wf
    unfold ac_dominator_PostTree_l1
    (repeat (first | (simp (disch := (first | omega | (simp only [evF, evL, implies_true, and_self]; done) | fail)) only [evS, evZ, evK, evB, evL, evR, Nat.reduceBEq, Nat.reduceAdd, Nat.reduceLeDiff, boxR, rboxR, allocR, fldR, binI, unR, pickR, mknilR, mkslR, buildSlR, buildR, extR, convI, eqB, evU, wrap64]) | (with_reducible intro _) | ((with_reducible apply And.intro); omega)))
    (refine condX_intro (fun h2 => ?_) (fun h2 => ?_)) <;> (try simp only [decide_eq_true_eq, decide_eq_false_iff_not, Bool.not_eq_true', Bool.not_eq_false', Bool.and_eq_true, Bool.or_eq_true, not_true_eq_false, not_false_eq_true] at h2)
    · have hk' : k < n := by omega
      have hpil : (postI n T k).length = n + 1 := postI_len
      (repeat (first | (simp (disch := (first | omega | (simp only [evF, evL, implies_true, and_self]; done) | fail)) only [evS, evZ, evK, evB, evL, evR, Nat.reduceBEq, Nat.reduceAdd, Nat.reduceLeDiff, boxR, rboxR, allocR, fldR, binI, unR, pickR, mknilR, mkslR, buildSlR, buildR, extR, convI, eqB, evU, wrap64, postI_get (Nat.le_refl k) hk', hpil]) | (with_reducible intro _) | ((with_reducible apply And.intro); omega)))
      (refine condX_intro (fun h3 => ?_) (fun h3 => ?_)) <;> (try simp only [decide_eq_true_eq, decide_eq_false_iff_not, Bool.not_eq_true', Bool.not_eq_false', Bool.and_eq_true, Bool.or_eq_true, not_true_eq_false, not_false_eq_true] at h3)
      · have hT2 : T k = some n := by
          cases hk2 : T k with
          | none => rw [hk2] at h3; simp only [tI] at h3; omega
          | some c => rw [hk2] at h3; simp only [tI] at h3; rw [show c = n by omega]
        (repeat (first | (simp (disch := (first | omega | (simp only [evF, evL, implies_true, and_self]; done) | fail)) only [evS, evZ, evK, evB, evL, evR, Nat.reduceBEq, Nat.reduceAdd, Nat.reduceLeDiff, boxR, rboxR, allocR, fldR, binI, unR, pickR, mknilR, mkslR, buildSlR, buildR, extR, convI, eqB, evU, wrap64, postI_len, postI_set hT2]) | (with_reducible intro _) | ((with_reducible apply And.intro); omega)))
        exact ⟨k + 1, by omega, by omega, (Ent.tab [(0, 0, 0)] [] rfl (by (try simp only [evW, evK, evB, evL, Nat.reduceBEq, Nat.reduceAdd, Nat.reduceSub, Nat.reduceLeDiff, Nat.reduceLT, implies_true, and_self, Int.natCast_zero, Int.natCast_one, Int.cast_ofNat_Int, evV, encInts, encNats, encBools, encP]) <;> (repeat' with_reducible apply And.intro) <;> first | omega | exact vw_nats rfl rfl (by omega) | exact vw_ints rfl rfl (by omega) | exact vw_bools rfl rfl (by omega) | exact rowV_fe (fun _ => rfl) | exact rowV_fe_start (c := cN) (fun _ => rfl) rfl | exact rowsV_fam (fun _ => rfl) (by decide) ⟨rfl, rfl⟩ trivial | exact rowsV_fam (fun _ => rfl) (by decide) (fun _ _ => ⟨rfl, rfl⟩) trivial | (simp; done)) (by (try simp only [evW, evK, evB, evL, Nat.reduceBEq, Nat.reduceAdd, Nat.reduceSub, Nat.reduceLeDiff, Nat.reduceLT, implies_true, and_self, Int.natCast_zero, Int.natCast_one, Int.cast_ofNat_Int, evV, encInts, encNats, encBools, encP]) <;> (repeat' with_reducible apply And.intro) <;> first | omega | exact vw_nats rfl rfl (by omega) | exact vw_ints rfl rfl (by omega) | exact vw_bools rfl rfl (by omega) | exact rowV_fe (fun _ => rfl) | exact rowV_fe_start (c := cN) (fun _ => rfl) rfl | exact rowsV_fam (fun _ => rfl) (by decide) ⟨rfl, rfl⟩ trivial | exact rowsV_fam (fun _ => rfl) (by decide) (fun _ _ => ⟨rfl, rfl⟩) trivial | (simp; done)))⟩
      · have hT2 : T k ≠ some n := fun h => h3 (by rw [h]; rfl)
        rw [← postI_no hT2]
        (repeat (first | (simp (disch := (first | omega | (simp only [evF, evL, implies_true, and_self]; done) | fail)) only [evS, evZ, evK, evB, evL, evR, Nat.reduceBEq, Nat.reduceAdd, Nat.reduceLeDiff, boxR, rboxR, allocR, fldR, binI, unR, pickR, mknilR, mkslR, buildSlR, buildR, extR, convI, eqB, evU, wrap64]) | (with_reducible intro _) | ((with_reducible apply And.intro); omega)))
        exact ⟨k + 1, by omega, by omega, (Ent.tab [(0, 0, 0)] [] rfl (by (try simp only [evW, evK, evB, evL, Nat.reduceBEq, Nat.reduceAdd, Nat.reduceSub, Nat.reduceLeDiff, Nat.reduceLT, implies_true, and_self, Int.natCast_zero, Int.natCast_one, Int.cast_ofNat_Int, evV, encInts, encNats, encBools, encP]) <;> (repeat' with_reducible apply And.intro) <;> first | omega | exact vw_nats rfl rfl (by omega) | exact vw_ints rfl rfl (by omega) | exact vw_bools rfl rfl (by omega) | exact rowV_fe (fun _ => rfl) | exact rowV_fe_start (c := cN) (fun _ => rfl) rfl | exact rowsV_fam (fun _ => rfl) (by decide) ⟨rfl, rfl⟩ trivial | exact rowsV_fam (fun _ => rfl) (by decide) (fun _ _ => ⟨rfl, rfl⟩) trivial | (simp; done)) (by (try simp only [evW, evK, evB, evL, Nat.reduceBEq, Nat.reduceAdd, Nat.reduceSub, Nat.reduceLeDiff, Nat.reduceLT, implies_true, and_self, Int.natCast_zero, Int.natCast_one, Int.cast_ofNat_Int, evV, encInts, encNats, encBools, encP]) <;> (repeat' with_reducible apply And.intro) <;> first | omega | exact vw_nats rfl rfl (by omega) | exact vw_ints rfl rfl (by omega) | exact vw_bools rfl rfl (by omega) | exact rowV_fe (fun _ => rfl) | exact rowV_fe_start (c := cN) (fun _ => rfl) rfl | exact rowsV_fam (fun _ => rfl) (by decide) ⟨rfl, rfl⟩ trivial | exact rowsV_fam (fun _ => rfl) (by decide) (fun _ _ => ⟨rfl, rfl⟩) trivial | (simp; done)))⟩
    · obtain rfl : k = n := by omega
      unfold ac_dominator_PostTree_k2
      (repeat (first | (simp (disch := (first | omega | (simp only [evF, evL, implies_true, and_self]; done) | fail)) only [evS, evZ, evK, evB, evL, evR, Nat.reduceBEq, Nat.reduceAdd, Nat.reduceLeDiff, boxR, rboxR, allocR, fldR, binI, unR, pickR, mknilR, mkslR, buildSlR, buildR, extR, convI, eqB, evU, wrap64, rs_dominator_PostTree]) | (with_reducible intro _) | ((with_reducible apply And.intro); omega)))
      refine ⟨_, ?_, rfl⟩
      have e : (postI k T k).take k ++ (postI k T k).drop k = postI k T k := List.take_append_drop _ _
      have e2 : ((postI k T k).take k).length = k := by rw [List.length_take, postI_len]; omega
      have := vw_prefI (H := [(0, .row 1 (((postI k T k).take k ++ (postI k T k).drop k).map cI) 0)]) (H2 := []) (σ := nos) (D := allR) (t := false) (r := 0) (q := 0) (g := 0) (l := (postI k T k).take k) (m := (postI k T k).drop k) trivial rfl (by omega)
      rw [e, e2] at this
      exact this

end Go.Ab

namespace Go.Ab
open Go.RowKit Go.Proofs

theorem dominator_Predecessors_ok (g : Gr) (hg : g.small) : PureFn Try.prog f_dominator_Predecessors [.agg g.cells] (· = encNN (predL g.E)) := by
  rw [← compact_predL]
  exact dominator_Predecessors_ok0 g hg

theorem dominator_Tree_ok2 (g : Gr) (hg : g.small) : PureFn Try.prog f_dominator_Tree [.agg g.cells] (fun v => v = encInts (treeL g.E) ∧ (0 < g.E.length → ∃ T, DTree' g.E 0 (ordL g.E 0) T)) := by
  refine fn_x cf_dominator_Tree rfl ?_
  unfold ac_dominator_Tree
  have hB : big = 9223372036854775807 := rfl
  have hlen := g.E_len
  have hn := hg.1
  (repeat (first | (simp (disch := (first | omega | (simp only [evF, evL, implies_true, and_self]; done) | fail)) only [evS, evZ, evK, evB, evL, evR, Nat.reduceBEq, Nat.reduceAdd, Nat.reduceLeDiff, boxR, rboxR, allocR, fldR, binI, unR, pickR, mknilR, mkslR, buildSlR, buildR, extR, convI, eqB, evU, wrap64, Gr.cells]) | (with_reducible intro _) | ((with_reducible apply And.intro); omega)))
  (refine condX_intro (fun h => ?_) (fun h => ?_)) <;> (try simp only [decide_eq_true_eq, decide_eq_false_iff_not, Bool.not_eq_true', Bool.not_eq_false', Bool.and_eq_true, Bool.or_eq_true, not_true_eq_false, not_false_eq_true] at h)
  · (repeat (first | (simp (disch := (first | omega | (simp only [evF, evL, implies_true, and_self]; done) | fail)) only [evS, evZ, evK, evB, evL, evR, Nat.reduceBEq, Nat.reduceAdd, Nat.reduceLeDiff, boxR, rboxR, allocR, fldR, binI, unR, pickR, mknilR, mkslR, buildSlR, buildR, extR, convI, eqB, evU, wrap64, rs_dominator_Tree]) | (with_reducible intro _) | ((with_reducible apply And.intro); omega)))
    refine ⟨_, ?_, rfl, fun h => by omega⟩
    have : treeL g.E = [] := by unfold treeL; rw [show g.E.length = 0 by omega]; rfl
    rw [this]
    exact vw_ints (l := []) trivial rfl (Nat.zero_le _)
  · (repeat (first | (simp (disch := (first | omega | (simp only [evF, evL, implies_true, and_self]; done) | fail)) only [evS, evZ, evK, evB, evL, evR, Nat.reduceBEq, Nat.reduceAdd, Nat.reduceLeDiff, boxR, rboxR, allocR, fldR, binI, unR, pickR, mknilR, mkslR, buildSlR, buildR, extR, convI, eqB, evU, wrap64, Gr.two]) | (with_reducible intro _) | ((with_reducible apply And.intro); omega)))
    refine callX_fix (call_flat (dominator_all_ok g hg) rfl) ?_
    (repeat (first | (simp (disch := (first | omega | (simp only [evF, evL, implies_true, and_self]; done) | fail)) only [evS, evZ, evK, evB, evL, evR, Nat.reduceBEq, Nat.reduceAdd, Nat.reduceLeDiff, boxR, rboxR, allocR, fldR, binI, unR, pickR, mknilR, mkslR, buildSlR, buildR, extR, convI, eqB, evU, wrap64]) | (with_reducible intro _) | ((with_reducible apply And.intro); omega)))
    refine call_own [] 0 _ (dominator_tree_ok g.E (Gr.E_small hg) g.E_ok 0 (by omega)) rfl rfl (by (try simp only [evW, evK, evB, evL, Nat.reduceBEq, Nat.reduceAdd, Nat.reduceSub, Nat.reduceLeDiff, Nat.reduceLT, implies_true, and_self, Int.natCast_zero, Int.natCast_one, Int.cast_ofNat_Int, evV, encInts, encNats, encBools, encP, encNN]) <;> (repeat' with_reducible apply And.intro) <;> first | omega | exact vw_nats rfl rfl (by omega) | exact vw_ints rfl rfl (by omega) | exact vw_bools rfl rfl (by omega) | exact rowV_fe (fun _ => rfl) | exact rowV_fe_start (c := cN) (fun _ => rfl) rfl | exact rowsV_fam (fun _ => rfl) (by decide) ⟨rfl, rfl⟩ trivial | exact rowsV_fam (fun _ => rfl) (by decide) (fun _ _ => ⟨rfl, rfl⟩) trivial | (simp; done)) (by (try simp only [evW, evK, evB, evL, Nat.reduceBEq, Nat.reduceAdd, Nat.reduceSub, Nat.reduceLeDiff, Nat.reduceLT, implies_true, and_self, Int.natCast_zero, Int.natCast_one, Int.cast_ofNat_Int, evV, encInts, encNats, encBools, encP, encNN]) <;> (repeat' with_reducible apply And.intro) <;> first | omega | exact vw_nats rfl rfl (by omega) | exact vw_ints rfl rfl (by omega) | exact vw_bools rfl rfl (by omega) | exact rowV_fe (fun _ => rfl) | exact rowV_fe_start (c := cN) (fun _ => rfl) rfl | exact rowsV_fam (fun _ => rfl) (by decide) ⟨rfl, rfl⟩ trivial | exact rowsV_fam (fun _ => rfl) (by decide) (fun _ _ => ⟨rfl, rfl⟩) trivial | (simp; done)) ?_
    rintro v H' nx' ⟨T, hT, rfl, rfl, rfl⟩
    (repeat (first | (simp (disch := (first | omega | (simp only [evF, evL, implies_true, and_self]; done) | fail)) only [evS, evZ, evK, evB, evL, evR, Nat.reduceBEq, Nat.reduceAdd, Nat.reduceLeDiff, boxR, rboxR, allocR, fldR, binI, unR, pickR, mknilR, mkslR, buildSlR, buildR, extR, convI, eqB, evU, wrap64, rs_dominator_Tree]) | (with_reducible intro _) | ((with_reducible apply And.intro); omega)))
    refine ⟨_, ?_, rfl, fun _ => ⟨T, hT⟩⟩
    rw [← treeL_eq g.E_ok (by omega) hT]
    have e := outI_len (n := g.E.length) (T := T)
    have := vw_ints (H := [(0, .row 1 [] 0), (1, .row 1 ((outI g.E.length T).map cI) 0)]) (H2 := []) (σ := nos) (D := allR) (t := false) (r := 1) (q := 0) (g := 0) (l := outI g.E.length T) trivial rfl (by omega)
    rwa [e] at this

theorem tI_some {c : Nat} : tI (some c) = (c : Int) := rfl
theorem tI_none : tI none = -1 := rfl

def frL (E : Adj) (S : Nat → Bool) (w : Nat) (b : Nat) : List Nat := filR (frontP E b) w ++ bif S b then [w] else []

theorem frL_none {E : Adj} {w : Nat} : frL E (fun _ => false) w = fun b => filR (frontP E b) w := by funext b; simp [frL]
theorem frL_next {E : Adj} {w : Nat} {S : Nat → Bool} (h : ∀ x, S x = frontP E x w) : frL E S w = frL E (fun _ => false) (w + 1) := by
  funext b
  unfold frL
  rw [h b]
  cases hf : frontP E b w with
  | true => rw [filR_pos hf]; simp
  | false => rw [filR_neg hf]; simp
theorem frL_mem {E : Adj} {w b : Nat} {S : Nat → Bool} : w ∈ frL E S w b ↔ S b = true := by
  unfold frL filR
  rw [List.mem_append, List.mem_filter, List.mem_range]
  cases S b <;> simp
theorem frL_add {E : Adj} {w b : Nat} {S : Nat → Bool} (h : S b = false) : updF (frL E S w) b (frL E S w b ++ [w]) = frL E (addS S b) w := by
  funext x
  by_cases hx : x = b
  · subst hx
    rw [updF_same]
    unfold frL
    simp [h, addS]
  · rw [updF_ne hx]
    unfold frL
    have : (x == b) = false := by simpa using hx
    unfold addS
    show _ = _ ++ bif S x || x == b then [w] else []
    rw [this, Bool.or_false]
theorem frL_old {E : Adj} {w b : Nat} {S : Nat → Bool} (h : S b = true) : frL E S w = frL E (addS S b) w := by
  funext x
  unfold frL
  by_cases hx : x = b
  · subst hx; simp [h, addS]
  · have : (x == b) = false := by simpa using hx
    unfold addS
    show _ = _ ++ bif S x || x == b then [w] else []
    rw [this, Bool.or_false]
theorem frL_len {E : Adj} {w b : Nat} {S : Nat → Bool} : (frL E S w b).length ≤ w + 1 := by
  unfold frL
  have : (filR (frontP E b) w).length ≤ w := filR_le
  cases S b <;> simp <;> omega

theorem dominator_Frontier_ok (g : Gr) (hg : g.small) : PureFn Try.prog f_dominator_Frontier [.agg g.cells] (· = encNN (frontL g.E)) := by
  refine fn_x cf_dominator_Frontier rfl ?_
  unfold ac_dominator_Frontier
  have hB : big = 9223372036854775807 := rfl
  have hlen := g.E_len
  have hn := hg.1
  have hok := g.E_ok
  (repeat (first | (simp (disch := (first | omega | (simp only [evF, evL, implies_true, and_self]; done) | fail)) only [evS, evZ, evK, evB, evL, evR, Nat.reduceBEq, Nat.reduceAdd, Nat.reduceLeDiff, boxR, rboxR, allocR, fldR, binI, unR, pickR, mknilR, mkslR, buildSlR, buildR, extR, convI, eqB, evU, wrap64, Gr.cells, Gr.two]) | (with_reducible intro _) | ((with_reducible apply And.intro); omega)))
  refine call_read (D := noR) (dominator_Tree_ok2 g hg) (lend_flat rfl) (fun _ h => .inr fun _ _ h => h) ?_
  rintro v ⟨rfl, hT⟩
  (repeat (first | (simp (disch := (first | omega | (simp only [evF, evL, implies_true, and_self]; done) | fail)) only [evS, evZ, evK, evB, evL, evR, Nat.reduceBEq, Nat.reduceAdd, Nat.reduceLeDiff, boxR, rboxR, allocR, fldR, binI, unR, pickR, mknilR, mkslR, buildSlR, buildR, extR, convI, eqB, evU, wrap64, Gr.two]) | (with_reducible intro _) | ((with_reducible apply And.intro); omega)))
  refine callX_fix (call_flat (dominator_Reachable_ok g hg) rfl) ?_
  (repeat (first | (simp (disch := (first | omega | (simp only [evF, evL, implies_true, and_self]; done) | fail)) only [evS, evZ, evK, evB, evL, evR, Nat.reduceBEq, Nat.reduceAdd, Nat.reduceLeDiff, boxR, rboxR, allocR, fldR, binI, unR, pickR, mknilR, mkslR, buildSlR, buildR, extR, convI, eqB, evU, wrap64, Gr.two]) | (with_reducible intro _) | ((with_reducible apply And.intro); omega)))
  refine callX_fix (call_flat (dominator_Predecessors_ok g hg) rfl) ?_
  have hres : frontL g.E = (List.range g.E.length).map fun b => filR (frontP g.E b) g.E.length := rfl
  rw [hres, encNN_L]
  obtain ⟨T, hT, hT0⟩ : ∃ T : Nat → Option Nat, (0 < g.E.length → DTree' g.E 0 (ordL g.E 0) T) ∧ (¬ 0 < g.E.length → ∀ c, T c = none) := by
    by_cases h : 0 < g.E.length
    · obtain ⟨T, h1⟩ := hT h
      exact ⟨T, fun _ => h1, fun h2 => absurd h h2⟩
    · exact ⟨fun _ => none, fun h2 => absurd h2 h, fun _ _ => rfl⟩
  have hend : ∀ {w S}, w < g.E.length → FrP g.E T w (suc (predL g.E) w).length S → ∀ x, S x = frontP g.E x w := fun hw h => h.end_ hok (by omega) (hT (by omega)) hw
  have hout : ∀ {w}, w < g.E.length → w ∉ ordL g.E 0 → ∀ x, frontP g.E x w = false := fun hw h => front_out hok (by omega) (hT (by omega)) hw h
  have hstop : ∀ {w j p c S}, w < g.E.length → FrB g.E T w j p (some c) S → c ≠ w → Ch T w c → FrP g.E T w (j + 1) S := fun hw h => h.stop hok (by omega) (hT (by omega)) hw
  have hnext : ∀ {w j p c S}, w < g.E.length → FrB g.E T w j p (some c) S → ¬ (c ≠ w ∧ Ch T w c) → FrB g.E T w j p (T c) (addS S c) := fun hw h => h.next hok (by omega) (hT (by omega)) hw
  have hmem : ∀ {w j p c S}, w < g.E.length → FrB g.E T w j p (some c) S → c ∈ ordL g.E 0 ∧ w ∈ ordL g.E 0 := fun hw h => ⟨h.mem hok (by omega) (hT (by omega)), h.wl hok (by omega) hw⟩
  have hidx : ∀ {c d}, T c = some d → (ordL g.E 0).idxOf d < (ordL g.E 0).idxOf c ∧ c ∈ ordL g.E 0 := fun {c d} h => by
    by_cases h0 : 0 < g.E.length
    · have := (hT h0).wt.up _ _ h; exact ⟨this.2.2.1, this.1⟩
    · rw [hT0 h0] at h; cases h
  have hlt : ∀ c, 0 < g.E.length → c ∈ ordL g.E 0 → c < g.E.length := fun c h h2 => (rpo hok h).lt c h2
  have hplt : ∀ w v, v ∈ suc (predL g.E) w → v < g.E.length := fun w v h => predL_lt h
  have htl : (treeL g.E).length = g.E.length := by simp [treeL]
  have hrl : (reachL g.E).length = g.E.length := by simp [reachL]
  have hpl : (predL g.E).length = g.E.length := by simp [predL]
  have htg : ∀ b (h : b < (treeL g.E).length), (treeL g.E)[b] = tI (T b) := fun b h => by
    have h0 : 0 < g.E.length := by omega
    have e := treeL_eq hok h0 (hT h0)
    have : (outI g.E.length T)[b]? = some (tI (T b)) := by simp [outI, show b < g.E.length by omega]
    rw [e, List.getElem?_eq_getElem h] at this
    exact Option.some.inj this
  have hrg : ∀ b (h : b < (reachL g.E).length), (reachL g.E)[b] = decide (b ∈ ordL g.E 0) := fun b h => by
    simp only [reachL, List.getElem_map, List.getElem_range]
    have h0 : 0 < g.E.length := by omega
    exact decide_eq_decide.2 ((fromL_all hok h0).trans (mem_ordL hok h0).symm)
  have hdom : ∀ {a b}, 0 < g.E.length → a ∈ ordL g.E 0 → b ∈ ordL g.E 0 → (domL (treeL g.E) a b = true ↔ Ch T b a) := fun h0 ha hb => domL_ch hok h0 (hT h0) ha hb
  have hdm := fun (a b : Int) => dominator_Dominates_ok (treeL g.E) a b (by omega)
  generalize treeL g.E = t at *
  generalize reachL g.E = rr at *
  generalize hP : predL g.E = P at *
  generalize hl : ordL g.E 0 = l at *
  rw [← hlen]
  generalize hE : g.E = E at *
  generalize E.length = n at *
  (repeat (first | (simp (disch := (first | omega | (simp only [evF, evL, implies_true, and_self]; done) | fail)) only [evS, evZ, evK, evB, evL, evR, Nat.reduceBEq, Nat.reduceAdd, Nat.reduceLeDiff, boxR, rboxR, allocR, fldR, binI, unR, pickR, mknilR, mkslR, buildSlR, buildR, extR, convI, eqB, evU, wrap64]) | (with_reducible intro _) | ((with_reducible apply And.intro); omega)))
  refine loopX_intro (fun s : Nat × (Nat → Nat) => ([(3, .own 0 0 0 0 n), (4, encInts t), (5, encBools rr), (6, encNN P), (23, .int .i64 n), (24, .int .i64 s.1)], [(0, .row 1 (fe 1 n (frL E (fun _ => false) s.1) s.2) 0), (1, .fam 1 (fi cN n (frL E (fun _ => false) s.1) s.2))])) 2
    (fun s => s.1 ≤ n) (fun s => n - s.1) (0, fun _ => 0) (Nat.zero_le _) (Ent.tab [(0, 1, 0)] [] rfl (by (try simp only [evW, evK, evB, evL, Nat.reduceBEq, Nat.reduceAdd, Nat.reduceSub, Nat.reduceLeDiff, Nat.reduceLT, implies_true, and_self, Int.natCast_zero, Int.natCast_one, Int.cast_ofNat_Int, evV, encInts, encNats, encBools, encP, encNN, encInts, encBools, frL_none, filR_zero]) <;> (repeat' with_reducible apply And.intro) <;> first | omega | exact vw_nats rfl rfl (by omega) | exact vw_ints rfl rfl (by omega) | exact vw_bools rfl rfl (by omega) | exact rowV_fe (fun _ => rfl) | exact rowV_fe_start (c := cN) (fun _ => rfl) rfl | exact rowsV_fam (fun _ => rfl) (by decide) ⟨rfl, rfl⟩ trivial | exact rowsV_fam (fun _ => rfl) (by decide) (fun _ _ => ⟨rfl, rfl⟩) trivial | (simp; done)) (by (try simp only [evW, evK, evB, evL, Nat.reduceBEq, Nat.reduceAdd, Nat.reduceSub, Nat.reduceLeDiff, Nat.reduceLT, implies_true, and_self, Int.natCast_zero, Int.natCast_one, Int.cast_ofNat_Int, evV, encInts, encNats, encBools, encP, encNN, encInts, encBools, frL_none, filR_zero]) <;> (repeat' with_reducible apply And.intro) <;> first | omega | exact vw_nats rfl rfl (by omega) | exact vw_ints rfl rfl (by omega) | exact vw_bools rfl rfl (by omega) | exact rowV_fe (fun _ => rfl) | exact rowV_fe_start (c := cN) (fun _ => rfl) rfl | exact rowsV_fam (fun _ => rfl) (by decide) ⟨rfl, rfl⟩ trivial | exact rowsV_fam (fun _ => rfl) (by decide) (fun _ _ => ⟨rfl, rfl⟩) trivial | (simp; done))) ?_
  rintro ⟨w, gs⟩ hw wf
  simp only at hw
  unfold ac_dominator_Frontier_l4
  (repeat (first | (simp (disch := (first | omega | (simp only [evF, evL, implies_true, and_self]; done) | fail)) only [evS, evZ, evK, evB, evL, evR, Nat.reduceBEq, Nat.reduceAdd, Nat.reduceLeDiff, boxR, rboxR, allocR, fldR, binI, unR, pickR, mknilR, mkslR, buildSlR, buildR, extR, convI, eqB, evU, wrap64, encNN, encInts, encBools]) | (with_reducible intro _) | ((with_reducible apply And.intro); omega)))
  (refine condX_intro (fun h => ?_) (fun h => ?_)) <;> (try simp only [decide_eq_true_eq, decide_eq_false_iff_not, Bool.not_eq_true', Bool.not_eq_false', Bool.and_eq_true, Bool.or_eq_true, not_true_eq_false, not_false_eq_true] at h)
  · have hwn : w < n := by omega
    have hwr : w < rr.length := by omega
    (repeat (first | (simp (disch := (first | omega | (simp only [evF, evL, implies_true, and_self]; done) | fail)) only [evS, evZ, evK, evB, evL, evR, Nat.reduceBEq, Nat.reduceAdd, Nat.reduceLeDiff, boxR, rboxR, allocR, fldR, binI, unR, pickR, mknilR, mkslR, buildSlR, buildR, extR, convI, eqB, evU, wrap64, getD_map hwr, hrg]) | (with_reducible intro _) | ((with_reducible apply And.intro); omega)))
    (refine condX_intro (fun h2 => ?_) (fun h2 => ?_)) <;> (try simp only [decide_eq_true_eq, decide_eq_false_iff_not, Bool.not_eq_true', Bool.not_eq_false', Bool.and_eq_true, Bool.or_eq_true, not_true_eq_false, not_false_eq_true] at h2)
    · have hwp : w < P.length := by omega
      have h2' : w ∉ l := by simpa using h2
      have e : frL E (fun _ => false) w = frL E (fun _ => false) (w + 1) := frL_next fun x => (hout hwn h2' x).symm
      unfold ac_dominator_Frontier_k3
      rw [e]
      (repeat (first | (simp (disch := (first | omega | (simp only [evF, evL, implies_true, and_self]; done) | fail)) only [evS, evZ, evK, evB, evL, evR, Nat.reduceBEq, Nat.reduceAdd, Nat.reduceLeDiff, boxR, rboxR, allocR, fldR, binI, unR, pickR, mknilR, mkslR, buildSlR, buildR, extR, convI, eqB, evU, wrap64]) | (with_reducible intro _) | ((with_reducible apply And.intro); omega)))
      exact ⟨(w + 1, gs), by simp only; omega, by simp only; omega, (Ent.tab [(0, 0, 0), (1, 1, 0)] [] rfl (by (try simp only [evW, evK, evB, evL, Nat.reduceBEq, Nat.reduceAdd, Nat.reduceSub, Nat.reduceLeDiff, Nat.reduceLT, implies_true, and_self, Int.natCast_zero, Int.natCast_one, Int.cast_ofNat_Int, evV, encInts, encNats, encBools, encP, encNN, encInts, encBools]) <;> (repeat' with_reducible apply And.intro) <;> first | omega | exact vw_nats rfl rfl (by omega) | exact vw_ints rfl rfl (by omega) | exact vw_bools rfl rfl (by omega) | exact rowV_fe (fun _ => rfl) | exact rowV_fe_start (c := cN) (fun _ => rfl) rfl | exact rowsV_fam (fun _ => rfl) (by decide) ⟨rfl, rfl⟩ trivial | exact rowsV_fam (fun _ => rfl) (by decide) (fun _ _ => ⟨rfl, rfl⟩) trivial | (simp; done)) (by (try simp only [evW, evK, evB, evL, Nat.reduceBEq, Nat.reduceAdd, Nat.reduceSub, Nat.reduceLeDiff, Nat.reduceLT, implies_true, and_self, Int.natCast_zero, Int.natCast_one, Int.cast_ofNat_Int, evV, encInts, encNats, encBools, encP, encNN, encInts, encBools]) <;> (repeat' with_reducible apply And.intro) <;> first | omega | exact vw_nats rfl rfl (by omega) | exact vw_ints rfl rfl (by omega) | exact vw_bools rfl rfl (by omega) | exact rowV_fe (fun _ => rfl) | exact rowV_fe_start (c := cN) (fun _ => rfl) rfl | exact rowsV_fam (fun _ => rfl) (by decide) ⟨rfl, rfl⟩ trivial | exact rowsV_fam (fun _ => rfl) (by decide) (fun _ _ => ⟨rfl, rfl⟩) trivial | (simp; done)))⟩
    have hwl : w ∈ l := by simpa using h2
    have hwp : w < P.length := by omega
    (repeat (first | (simp (disch := (first | omega | (simp only [evF, evL, implies_true, and_self]; done) | fail)) only [evS, evZ, evK, evB, evL, evR, Nat.reduceBEq, Nat.reduceAdd, Nat.reduceLeDiff, boxR, rboxR, allocR, fldR, binI, unR, pickR, mknilR, mkslR, buildSlR, buildR, extR, convI, eqB, evU, wrap64, getD_map hwp, encNats]) | (with_reducible intro _) | ((with_reducible apply And.intro); omega)))
    have hsw : suc P w = P[w] := suc_get hwp
    refine loopX_intro (fun s : Nat × (Nat → Nat) × (Nat → Bool) => ([(3, .own 0 0 0 0 n), (4, encInts t), (5, encBools rr), (6, encNN P), (7, .int .i64 w), (23, .int .i64 n), (24, .int .i64 w), (35, encNats P[w]), (36, .int .i64 P[w].length), (37, .int .i64 s.1)], [(0, .row 1 (fe 1 n (frL E s.2.2 w) s.2.1) 0), (1, .fam 1 (fi cN n (frL E s.2.2 w) s.2.1))])) 2
      (fun s => s.1 ≤ P[w].length ∧ FrP E T w s.1 s.2.2) (fun s => P[w].length - s.1) (0, gs, fun _ => false) ⟨Nat.zero_le _, .zero⟩ (Ent.tab [(0, 0, 0), (1, 1, 0)] [] rfl (by (try simp only [evW, evK, evB, evL, Nat.reduceBEq, Nat.reduceAdd, Nat.reduceSub, Nat.reduceLeDiff, Nat.reduceLT, implies_true, and_self, Int.natCast_zero, Int.natCast_one, Int.cast_ofNat_Int, evV, encInts, encNats, encBools, encP, encNN, encInts, encBools, encNats]) <;> (repeat' with_reducible apply And.intro) <;> first | omega | exact vw_nats rfl rfl (by omega) | exact vw_ints rfl rfl (by omega) | exact vw_bools rfl rfl (by omega) | exact rowV_fe (fun _ => rfl) | exact rowV_fe_start (c := cN) (fun _ => rfl) rfl | exact rowsV_fam (fun _ => rfl) (by decide) ⟨rfl, rfl⟩ trivial | exact rowsV_fam (fun _ => rfl) (by decide) (fun _ _ => ⟨rfl, rfl⟩) trivial | (simp; done)) (by (try simp only [evW, evK, evB, evL, Nat.reduceBEq, Nat.reduceAdd, Nat.reduceSub, Nat.reduceLeDiff, Nat.reduceLT, implies_true, and_self, Int.natCast_zero, Int.natCast_one, Int.cast_ofNat_Int, evV, encInts, encNats, encBools, encP, encNN, encInts, encBools, encNats]) <;> (repeat' with_reducible apply And.intro) <;> first | omega | exact vw_nats rfl rfl (by omega) | exact vw_ints rfl rfl (by omega) | exact vw_bools rfl rfl (by omega) | exact rowV_fe (fun _ => rfl) | exact rowV_fe_start (c := cN) (fun _ => rfl) rfl | exact rowsV_fam (fun _ => rfl) (by decide) ⟨rfl, rfl⟩ trivial | exact rowsV_fam (fun _ => rfl) (by decide) (fun _ _ => ⟨rfl, rfl⟩) trivial | (simp; done))) ?_
    rintro ⟨j, gs2, S⟩ ⟨hj, hF⟩ wf
    simp only at hj hF
    unfold ac_dominator_Frontier_l2
    (repeat (first | (simp (disch := (first | omega | (simp only [evF, evL, implies_true, and_self]; done) | fail)) only [evS, evZ, evK, evB, evL, evR, Nat.reduceBEq, Nat.reduceAdd, Nat.reduceLeDiff, boxR, rboxR, allocR, fldR, binI, unR, pickR, mknilR, mkslR, buildSlR, buildR, extR, convI, eqB, evU, wrap64, encNN, encInts, encBools, encNats]) | (with_reducible intro _) | ((with_reducible apply And.intro); omega)))
    (refine condX_intro (fun h3 => ?_) (fun h3 => ?_)) <;> (try simp only [decide_eq_true_eq, decide_eq_false_iff_not, Bool.not_eq_true', Bool.not_eq_false', Bool.and_eq_true, Bool.or_eq_true, not_true_eq_false, not_false_eq_true] at h3)
    · have hj' : j < P[w].length := by omega
      have hpp : (suc (predL E) w)[j]? = some P[w][j] := by rw [hP, hsw, List.getElem?_eq_getElem hj']
      have hpn : P[w][j] < n := hplt w _ (by rw [hsw]; exact List.getElem_mem hj')
      have hpr : P[w][j] < rr.length := by omega
      (repeat (first | (simp (disch := (first | omega | (simp only [evF, evL, implies_true, and_self]; done) | fail)) only [evS, evZ, evK, evB, evL, evR, Nat.reduceBEq, Nat.reduceAdd, Nat.reduceLeDiff, boxR, rboxR, allocR, fldR, binI, unR, pickR, mknilR, mkslR, buildSlR, buildR, extR, convI, eqB, evU, wrap64, getD_map hj', getD_map hpr, hrg]) | (with_reducible intro _) | ((with_reducible apply And.intro); omega)))
      generalize P[w][j] = p at *
      (refine condX_intro (fun h4 => ?_) (fun h4 => ?_)) <;> (try simp only [decide_eq_true_eq, decide_eq_false_iff_not, Bool.not_eq_true', Bool.not_eq_false', Bool.and_eq_true, Bool.or_eq_true, not_true_eq_false, not_false_eq_true] at h4)
      · have h4' : p ∉ l := by simpa using h4
        have hF2 := hF.skip hpp (by rw [hl]; exact h4')
        unfold ac_dominator_Frontier_k1
        (repeat (first | (simp (disch := (first | omega | (simp only [evF, evL, implies_true, and_self]; done) | fail)) only [evS, evZ, evK, evB, evL, evR, Nat.reduceBEq, Nat.reduceAdd, Nat.reduceLeDiff, boxR, rboxR, allocR, fldR, binI, unR, pickR, mknilR, mkslR, buildSlR, buildR, extR, convI, eqB, evU, wrap64]) | (with_reducible intro _) | ((with_reducible apply And.intro); omega)))
        exact ⟨(j + 1, gs2, S), ⟨by simp only; omega, hF2⟩, by simp only; omega, (Ent.tab [(0, 0, 0), (1, 1, 0)] [] rfl (by (try simp only [evW, evK, evB, evL, Nat.reduceBEq, Nat.reduceAdd, Nat.reduceSub, Nat.reduceLeDiff, Nat.reduceLT, implies_true, and_self, Int.natCast_zero, Int.natCast_one, Int.cast_ofNat_Int, evV, encInts, encNats, encBools, encP, encNN, encInts, encBools, encNats]) <;> (repeat' with_reducible apply And.intro) <;> first | omega | exact vw_nats rfl rfl (by omega) | exact vw_ints rfl rfl (by omega) | exact vw_bools rfl rfl (by omega) | exact rowV_fe (fun _ => rfl) | exact rowV_fe_start (c := cN) (fun _ => rfl) rfl | exact rowsV_fam (fun _ => rfl) (by decide) ⟨rfl, rfl⟩ trivial | exact rowsV_fam (fun _ => rfl) (by decide) (fun _ _ => ⟨rfl, rfl⟩) trivial | (simp; done)) (by (try simp only [evW, evK, evB, evL, Nat.reduceBEq, Nat.reduceAdd, Nat.reduceSub, Nat.reduceLeDiff, Nat.reduceLT, implies_true, and_self, Int.natCast_zero, Int.natCast_one, Int.cast_ofNat_Int, evV, encInts, encNats, encBools, encP, encNN, encInts, encBools, encNats]) <;> (repeat' with_reducible apply And.intro) <;> first | omega | exact vw_nats rfl rfl (by omega) | exact vw_ints rfl rfl (by omega) | exact vw_bools rfl rfl (by omega) | exact rowV_fe (fun _ => rfl) | exact rowV_fe_start (c := cN) (fun _ => rfl) rfl | exact rowsV_fam (fun _ => rfl) (by decide) ⟨rfl, rfl⟩ trivial | exact rowsV_fam (fun _ => rfl) (by decide) (fun _ _ => ⟨rfl, rfl⟩) trivial | (simp; done)))⟩
      have hpl2 : p ∈ l := by simpa using h4
      (repeat (first | (simp (disch := (first | omega | (simp only [evF, evL, implies_true, and_self]; done) | fail)) only [evS, evZ, evK, evB, evL, evR, Nat.reduceBEq, Nat.reduceAdd, Nat.reduceLeDiff, boxR, rboxR, allocR, fldR, binI, unR, pickR, mknilR, mkslR, buildSlR, buildR, extR, convI, eqB, evU, wrap64]) | (with_reducible intro _) | ((with_reducible apply And.intro); omega)))
      refine loopX_intro (fun s : Option Nat × (Nat → Nat) × (Nat → Bool) => ([(3, .own 0 0 0 0 n), (4, encInts t), (5, encBools rr), (6, encNN P), (7, .int .i64 w), (10, .int .i64 (tI s.1)), (23, .int .i64 n), (24, .int .i64 w), (35, encNats P[w]), (36, .int .i64 P[w].length), (37, .int .i64 j)], [(0, .row 1 (fe 1 n (frL E s.2.2 w) s.2.1) 0), (1, .fam 1 (fi cN n (frL E s.2.2 w) s.2.1))])) 2
        (fun s => FrB E T w j p s.1 s.2.2) (fun s => match s.1 with | none => 0 | some c => l.idxOf c + 1) (some p, gs2, S) (hF.into hpp (by rw [hl]; exact hpl2)) (Ent.tab [(0, 0, 0), (1, 1, 0)] [] rfl (by (try simp only [evW, evK, evB, evL, Nat.reduceBEq, Nat.reduceAdd, Nat.reduceSub, Nat.reduceLeDiff, Nat.reduceLT, implies_true, and_self, Int.natCast_zero, Int.natCast_one, Int.cast_ofNat_Int, evV, encInts, encNats, encBools, encP, encNN, encInts, encBools, encNats, tI_some]) <;> (repeat' with_reducible apply And.intro) <;> first | omega | exact vw_nats rfl rfl (by omega) | exact vw_ints rfl rfl (by omega) | exact vw_bools rfl rfl (by omega) | exact rowV_fe (fun _ => rfl) | exact rowV_fe_start (c := cN) (fun _ => rfl) rfl | exact rowsV_fam (fun _ => rfl) (by decide) ⟨rfl, rfl⟩ trivial | exact rowsV_fam (fun _ => rfl) (by decide) (fun _ _ => ⟨rfl, rfl⟩) trivial | (simp; done)) (by (try simp only [evW, evK, evB, evL, Nat.reduceBEq, Nat.reduceAdd, Nat.reduceSub, Nat.reduceLeDiff, Nat.reduceLT, implies_true, and_self, Int.natCast_zero, Int.natCast_one, Int.cast_ofNat_Int, evV, encInts, encNats, encBools, encP, encNN, encInts, encBools, encNats, tI_some]) <;> (repeat' with_reducible apply And.intro) <;> first | omega | exact vw_nats rfl rfl (by omega) | exact vw_ints rfl rfl (by omega) | exact vw_bools rfl rfl (by omega) | exact rowV_fe (fun _ => rfl) | exact rowV_fe_start (c := cN) (fun _ => rfl) rfl | exact rowsV_fam (fun _ => rfl) (by decide) ⟨rfl, rfl⟩ trivial | exact rowsV_fam (fun _ => rfl) (by decide) (fun _ _ => ⟨rfl, rfl⟩) trivial | (simp; done))) ?_
      rintro ⟨b, gs3, S2⟩ hB2 wf
      simp only at hB2
      unfold ac_dominator_Frontier_l0
      cases b with
      | none =>
        have hF2 := hB2.done
        unfold ac_dominator_Frontier_k1
        (repeat (first | (simp (disch := (first | omega | (simp only [evF, evL, implies_true, and_self]; done) | fail)) only [evS, evZ, evK, evB, evL, evR, Nat.reduceBEq, Nat.reduceAdd, Nat.reduceLeDiff, boxR, rboxR, allocR, fldR, binI, unR, pickR, mknilR, mkslR, buildSlR, buildR, extR, convI, eqB, evU, wrap64, tI_some, tI_none, encNN, encInts, encBools, encNats]) | (with_reducible intro _) | ((with_reducible apply And.intro); omega)))
        (refine condX_intro (fun h5 => ?_) (fun h5 => ?_)) <;> (try simp only [decide_eq_true_eq, decide_eq_false_iff_not, Bool.not_eq_true', Bool.not_eq_false', Bool.and_eq_true, Bool.or_eq_true, not_true_eq_false, not_false_eq_true] at h5)
        · omega
        (repeat (first | (simp (disch := (first | omega | (simp only [evF, evL, implies_true, and_self]; done) | fail)) only [evS, evZ, evK, evB, evL, evR, Nat.reduceBEq, Nat.reduceAdd, Nat.reduceLeDiff, boxR, rboxR, allocR, fldR, binI, unR, pickR, mknilR, mkslR, buildSlR, buildR, extR, convI, eqB, evU, wrap64, encNN, encInts, encBools, encNats]) | (with_reducible intro _) | ((with_reducible apply And.intro); omega)))
        exact ⟨(j + 1, gs3, S2), ⟨by simp only; omega, hF2⟩, by simp only; omega, (Ent.tab [(0, 0, 0), (1, 1, 0)] [] rfl (by (try simp only [evW, evK, evB, evL, Nat.reduceBEq, Nat.reduceAdd, Nat.reduceSub, Nat.reduceLeDiff, Nat.reduceLT, implies_true, and_self, Int.natCast_zero, Int.natCast_one, Int.cast_ofNat_Int, evV, encInts, encNats, encBools, encP, encNN, encInts, encBools, encNats]) <;> (repeat' with_reducible apply And.intro) <;> first | omega | exact vw_nats rfl rfl (by omega) | exact vw_ints rfl rfl (by omega) | exact vw_bools rfl rfl (by omega) | exact rowV_fe (fun _ => rfl) | exact rowV_fe_start (c := cN) (fun _ => rfl) rfl | exact rowsV_fam (fun _ => rfl) (by decide) ⟨rfl, rfl⟩ trivial | exact rowsV_fam (fun _ => rfl) (by decide) (fun _ _ => ⟨rfl, rfl⟩) trivial | (simp; done)) (by (try simp only [evW, evK, evB, evL, Nat.reduceBEq, Nat.reduceAdd, Nat.reduceSub, Nat.reduceLeDiff, Nat.reduceLT, implies_true, and_self, Int.natCast_zero, Int.natCast_one, Int.cast_ofNat_Int, evV, encInts, encNats, encBools, encP, encNN, encInts, encBools, encNats]) <;> (repeat' with_reducible apply And.intro) <;> first | omega | exact vw_nats rfl rfl (by omega) | exact vw_ints rfl rfl (by omega) | exact vw_bools rfl rfl (by omega) | exact rowV_fe (fun _ => rfl) | exact rowV_fe_start (c := cN) (fun _ => rfl) rfl | exact rowsV_fam (fun _ => rfl) (by decide) ⟨rfl, rfl⟩ trivial | exact rowsV_fam (fun _ => rfl) (by decide) (fun _ _ => ⟨rfl, rfl⟩) trivial | (simp; done)))⟩
      | some c =>
        obtain ⟨hcl, _⟩ := hmem hwn hB2
        have hcn := hlt c (by omega) hcl
        have hct : c < t.length := by omega
        have hd := hdom (by omega) hcl hwl
        (repeat (first | (simp (disch := (first | omega | (simp only [evF, evL, implies_true, and_self]; done) | fail)) only [evS, evZ, evK, evB, evL, evR, Nat.reduceBEq, Nat.reduceAdd, Nat.reduceLeDiff, boxR, rboxR, allocR, fldR, binI, unR, pickR, mknilR, mkslR, buildSlR, buildR, extR, convI, eqB, evU, wrap64, tI_some, tI_none, encNN, encInts, encBools, encNats]) | (with_reducible intro _) | ((with_reducible apply And.intro); omega)))
        (refine condX_intro (fun h5 => ?_) (fun h5 => ?_)) <;> (try simp only [decide_eq_true_eq, decide_eq_false_iff_not, Bool.not_eq_true', Bool.not_eq_false', Bool.and_eq_true, Bool.or_eq_true, not_true_eq_false, not_false_eq_true] at h5)
        · (repeat (first | (simp (disch := (first | omega | (simp only [evF, evL, implies_true, and_self]; done) | fail)) only [evS, evZ, evK, evB, evL, evR, Nat.reduceBEq, Nat.reduceAdd, Nat.reduceLeDiff, boxR, rboxR, allocR, fldR, binI, unR, pickR, mknilR, mkslR, buildSlR, buildR, extR, convI, eqB, evU, wrap64, encNN, encInts, encBools, encNats]) | (with_reducible intro _) | ((with_reducible apply And.intro); omega)))
          generalize h6 : decide ((c : Int) ≠ w) = h6b; cases h6b <;> simp only [decide_eq_true_eq, decide_eq_false_iff_not, ne_eq, Classical.not_not] at h6
          · have hno : ¬ (c ≠ w ∧ Ch T w c) := fun h => (by have := h.1; omega)
            (repeat (first | (simp (disch := (first | omega | (simp only [evF, evL, implies_true, and_self]; done) | fail)) only [evS, evZ, evK, evB, evL, evR, Nat.reduceBEq, Nat.reduceAdd, Nat.reduceLeDiff, boxR, rboxR, allocR, fldR, binI, unR, pickR, mknilR, mkslR, buildSlR, buildR, extR, convI, eqB, evU, wrap64]) | (with_reducible intro _) | ((with_reducible apply And.intro); omega)))
            have hB3 := hnext hwn hB2 hno
            have hfl := frL_len (E := E) (w := w) (b := c) (S := S2)
            have hmeas : (match T c with | none => 0 | some c => l.idxOf c + 1) < l.idxOf c + 1 := by
              cases hTc : T c with
              | none => exact Nat.succ_pos _
              | some d => have := (hidx hTc).1; simp only; omega
            (repeat (first | (simp (disch := (first | omega | (simp only [evF, evL, implies_true, and_self]; done) | fail)) only [evS, evZ, evK, evB, evL, evR, Nat.reduceBEq, Nat.reduceAdd, Nat.reduceLeDiff, boxR, rboxR, allocR, fldR, binI, unR, pickR, mknilR, mkslR, buildSlR, buildR, extR, convI, eqB, evU, wrap64, fe_len, fe_get hcn]) | (with_reducible intro _) | ((with_reducible apply And.intro); omega)))
            refine callX_fix (call_fix (D := allR) (slices_Contains_ok (frL E S2 w c) w) ?_ (.inl rfl)) ?_
            · exact .cons (vw_nats trivial (fi_part rfl hcn) (Nat.le_trans hfl (by omega))) (.cons (.int _ _ _) .nil)
            (repeat (first | (simp (disch := (first | omega | (simp only [evF, evL, implies_true, and_self]; done) | fail)) only [evS, evZ, evK, evB, evL, evR, Nat.reduceBEq, Nat.reduceAdd, Nat.reduceLeDiff, boxR, rboxR, allocR, fldR, binI, unR, pickR, mknilR, mkslR, buildSlR, buildR, extR, convI, eqB, evU, wrap64]) | (with_reducible intro _) | ((with_reducible apply And.intro); omega)))
            (refine condX_intro (fun h7 => ?_) (fun h7 => ?_)) <;> (try simp only [decide_eq_true_eq, decide_eq_false_iff_not, Bool.not_eq_true', Bool.not_eq_false', Bool.and_eq_true, Bool.or_eq_true, not_true_eq_false, not_false_eq_true] at h7)
            · have hS : S2 c = false := by
                rw [Bool.eq_false_iff]
                intro h8
                have := frL_mem (E := E) (w := w) (b := c) (S := S2) |>.2 h8
                simp [this] at h7
              (repeat (first | (simp (disch := (first | omega | (simp only [evF, evL, implies_true, and_self]; done) | fail)) only [evS, evZ, evK, evB, evL, evR, Nat.reduceBEq, Nat.reduceAdd, Nat.reduceLeDiff, boxR, rboxR, allocR, fldR, binI, unR, pickR, mknilR, mkslR, buildSlR, buildR, extR, convI, eqB, evU, wrap64, fe_len, fe_get hcn, fi_get hcn, fi_snoc (c := cN) (a := w) (ca := [AV.int .i64 (w : Int)]) rfl, fe_snoc (ll := frL E S2 w) (k := c) w rfl, frL_add hS, getD_map hct, htg]) | (with_reducible intro _) | ((with_reducible apply And.intro); omega)))
              exact ⟨(T c, _, addS S2 c), hB3, hmeas, (Ent.tab [(0, 0, 0), (1, 1, 0)] [] rfl (by (try simp only [evW, evK, evB, evL, Nat.reduceBEq, Nat.reduceAdd, Nat.reduceSub, Nat.reduceLeDiff, Nat.reduceLT, implies_true, and_self, Int.natCast_zero, Int.natCast_one, Int.cast_ofNat_Int, evV, encInts, encNats, encBools, encP, encNN, encInts, encBools, encNats]) <;> (repeat' with_reducible apply And.intro) <;> first | omega | exact vw_nats rfl rfl (by omega) | exact vw_ints rfl rfl (by omega) | exact vw_bools rfl rfl (by omega) | exact rowV_fe (fun _ => rfl) | exact rowV_fe_start (c := cN) (fun _ => rfl) rfl | exact rowsV_fam (fun _ => rfl) (by decide) ⟨rfl, rfl⟩ trivial | exact rowsV_fam (fun _ => rfl) (by decide) (fun _ _ => ⟨rfl, rfl⟩) trivial | (simp; done)) (by (try simp only [evW, evK, evB, evL, Nat.reduceBEq, Nat.reduceAdd, Nat.reduceSub, Nat.reduceLeDiff, Nat.reduceLT, implies_true, and_self, Int.natCast_zero, Int.natCast_one, Int.cast_ofNat_Int, evV, encInts, encNats, encBools, encP, encNN, encInts, encBools, encNats]) <;> (repeat' with_reducible apply And.intro) <;> first | omega | exact vw_nats rfl rfl (by omega) | exact vw_ints rfl rfl (by omega) | exact vw_bools rfl rfl (by omega) | exact rowV_fe (fun _ => rfl) | exact rowV_fe_start (c := cN) (fun _ => rfl) rfl | exact rowsV_fam (fun _ => rfl) (by decide) ⟨rfl, rfl⟩ trivial | exact rowsV_fam (fun _ => rfl) (by decide) (fun _ _ => ⟨rfl, rfl⟩) trivial | (simp; done)))⟩
            · have hS : S2 c = true := by
                have h8 : w ∈ frL E S2 w c := by simpa using h7
                exact frL_mem.1 h8
              rw [frL_old (b := c) hS]
              (repeat (first | (simp (disch := (first | omega | (simp only [evF, evL, implies_true, and_self]; done) | fail)) only [evS, evZ, evK, evB, evL, evR, Nat.reduceBEq, Nat.reduceAdd, Nat.reduceLeDiff, boxR, rboxR, allocR, fldR, binI, unR, pickR, mknilR, mkslR, buildSlR, buildR, extR, convI, eqB, evU, wrap64, getD_map hct, htg]) | (with_reducible intro _) | ((with_reducible apply And.intro); omega)))
              exact ⟨(T c, gs3, addS S2 c), hB3, hmeas, (Ent.tab [(0, 0, 0), (1, 1, 0)] [] rfl (by (try simp only [evW, evK, evB, evL, Nat.reduceBEq, Nat.reduceAdd, Nat.reduceSub, Nat.reduceLeDiff, Nat.reduceLT, implies_true, and_self, Int.natCast_zero, Int.natCast_one, Int.cast_ofNat_Int, evV, encInts, encNats, encBools, encP, encNN, encInts, encBools, encNats]) <;> (repeat' with_reducible apply And.intro) <;> first | omega | exact vw_nats rfl rfl (by omega) | exact vw_ints rfl rfl (by omega) | exact vw_bools rfl rfl (by omega) | exact rowV_fe (fun _ => rfl) | exact rowV_fe_start (c := cN) (fun _ => rfl) rfl | exact rowsV_fam (fun _ => rfl) (by decide) ⟨rfl, rfl⟩ trivial | exact rowsV_fam (fun _ => rfl) (by decide) (fun _ _ => ⟨rfl, rfl⟩) trivial | (simp; done)) (by (try simp only [evW, evK, evB, evL, Nat.reduceBEq, Nat.reduceAdd, Nat.reduceSub, Nat.reduceLeDiff, Nat.reduceLT, implies_true, and_self, Int.natCast_zero, Int.natCast_one, Int.cast_ofNat_Int, evV, encInts, encNats, encBools, encP, encNN, encInts, encBools, encNats]) <;> (repeat' with_reducible apply And.intro) <;> first | omega | exact vw_nats rfl rfl (by omega) | exact vw_ints rfl rfl (by omega) | exact vw_bools rfl rfl (by omega) | exact rowV_fe (fun _ => rfl) | exact rowV_fe_start (c := cN) (fun _ => rfl) rfl | exact rowsV_fam (fun _ => rfl) (by decide) ⟨rfl, rfl⟩ trivial | exact rowsV_fam (fun _ => rfl) (by decide) (fun _ _ => ⟨rfl, rfl⟩) trivial | (simp; done)))⟩
          · (repeat (first | (simp (disch := (first | omega | (simp only [evF, evL, implies_true, and_self]; done) | fail)) only [evS, evZ, evK, evB, evL, evR, Nat.reduceBEq, Nat.reduceAdd, Nat.reduceLeDiff, boxR, rboxR, allocR, fldR, binI, unR, pickR, mknilR, mkslR, buildSlR, buildR, extR, convI, eqB, evU, wrap64]) | (with_reducible intro _) | ((with_reducible apply And.intro); omega)))
            refine callX_fix (call_flat (hdm c w) rfl) ?_
            (repeat (first | (simp (disch := (first | omega | (simp only [evF, evL, implies_true, and_self]; done) | fail)) only [evS, evZ, evK, evB, evL, evR, Nat.reduceBEq, Nat.reduceAdd, Nat.reduceLeDiff, boxR, rboxR, allocR, fldR, binI, unR, pickR, mknilR, mkslR, buildSlR, buildR, extR, convI, eqB, evU, wrap64]) | (with_reducible intro _) | ((with_reducible apply And.intro); omega)))
            (refine condX_intro (fun h8 => ?_) (fun h8 => ?_)) <;> (try simp only [decide_eq_true_eq, decide_eq_false_iff_not, Bool.not_eq_true', Bool.not_eq_false', Bool.and_eq_true, Bool.or_eq_true, not_true_eq_false, not_false_eq_true] at h8)
            · have hF2 := hstop hwn hB2 (by omega) (hd.1 h8)
              unfold ac_dominator_Frontier_k1
              (repeat (first | (simp (disch := (first | omega | (simp only [evF, evL, implies_true, and_self]; done) | fail)) only [evS, evZ, evK, evB, evL, evR, Nat.reduceBEq, Nat.reduceAdd, Nat.reduceLeDiff, boxR, rboxR, allocR, fldR, binI, unR, pickR, mknilR, mkslR, buildSlR, buildR, extR, convI, eqB, evU, wrap64]) | (with_reducible intro _) | ((with_reducible apply And.intro); omega)))
              exact ⟨(j + 1, gs3, S2), ⟨by simp only; omega, hF2⟩, by simp only; omega, (Ent.tab [(0, 0, 0), (1, 1, 0)] [] rfl (by (try simp only [evW, evK, evB, evL, Nat.reduceBEq, Nat.reduceAdd, Nat.reduceSub, Nat.reduceLeDiff, Nat.reduceLT, implies_true, and_self, Int.natCast_zero, Int.natCast_one, Int.cast_ofNat_Int, evV, encInts, encNats, encBools, encP, encNN, encInts, encBools, encNats]) <;> (repeat' with_reducible apply And.intro) <;> first | omega | exact vw_nats rfl rfl (by omega) | exact vw_ints rfl rfl (by omega) | exact vw_bools rfl rfl (by omega) | exact rowV_fe (fun _ => rfl) | exact rowV_fe_start (c := cN) (fun _ => rfl) rfl | exact rowsV_fam (fun _ => rfl) (by decide) ⟨rfl, rfl⟩ trivial | exact rowsV_fam (fun _ => rfl) (by decide) (fun _ _ => ⟨rfl, rfl⟩) trivial | (simp; done)) (by (try simp only [evW, evK, evB, evL, Nat.reduceBEq, Nat.reduceAdd, Nat.reduceSub, Nat.reduceLeDiff, Nat.reduceLT, implies_true, and_self, Int.natCast_zero, Int.natCast_one, Int.cast_ofNat_Int, evV, encInts, encNats, encBools, encP, encNN, encInts, encBools, encNats]) <;> (repeat' with_reducible apply And.intro) <;> first | omega | exact vw_nats rfl rfl (by omega) | exact vw_ints rfl rfl (by omega) | exact vw_bools rfl rfl (by omega) | exact rowV_fe (fun _ => rfl) | exact rowV_fe_start (c := cN) (fun _ => rfl) rfl | exact rowsV_fam (fun _ => rfl) (by decide) ⟨rfl, rfl⟩ trivial | exact rowsV_fam (fun _ => rfl) (by decide) (fun _ _ => ⟨rfl, rfl⟩) trivial | (simp; done)))⟩
            · have hno : ¬ (c ≠ w ∧ Ch T w c) := fun h => (by have := hd.2 h.2; rw [this] at h8; cases h8)
              have hB3 := hnext hwn hB2 hno
              have hfl := frL_len (E := E) (w := w) (b := c) (S := S2)
              have hmeas : (match T c with | none => 0 | some c => l.idxOf c + 1) < l.idxOf c + 1 := by
                cases hTc : T c with
                | none => exact Nat.succ_pos _
                | some d => have := (hidx hTc).1; simp only; omega
              (repeat (first | (simp (disch := (first | omega | (simp only [evF, evL, implies_true, and_self]; done) | fail)) only [evS, evZ, evK, evB, evL, evR, Nat.reduceBEq, Nat.reduceAdd, Nat.reduceLeDiff, boxR, rboxR, allocR, fldR, binI, unR, pickR, mknilR, mkslR, buildSlR, buildR, extR, convI, eqB, evU, wrap64, fe_len, fe_get hcn]) | (with_reducible intro _) | ((with_reducible apply And.intro); omega)))
              refine callX_fix (call_fix (D := allR) (slices_Contains_ok (frL E S2 w c) w) ?_ (.inl rfl)) ?_
              · exact .cons (vw_nats trivial (fi_part rfl hcn) (Nat.le_trans hfl (by omega))) (.cons (.int _ _ _) .nil)
              (repeat (first | (simp (disch := (first | omega | (simp only [evF, evL, implies_true, and_self]; done) | fail)) only [evS, evZ, evK, evB, evL, evR, Nat.reduceBEq, Nat.reduceAdd, Nat.reduceLeDiff, boxR, rboxR, allocR, fldR, binI, unR, pickR, mknilR, mkslR, buildSlR, buildR, extR, convI, eqB, evU, wrap64]) | (with_reducible intro _) | ((with_reducible apply And.intro); omega)))
              (refine condX_intro (fun h7 => ?_) (fun h7 => ?_)) <;> (try simp only [decide_eq_true_eq, decide_eq_false_iff_not, Bool.not_eq_true', Bool.not_eq_false', Bool.and_eq_true, Bool.or_eq_true, not_true_eq_false, not_false_eq_true] at h7)
              · have hS : S2 c = false := by
                  rw [Bool.eq_false_iff]
                  intro h8
                  have := frL_mem (E := E) (w := w) (b := c) (S := S2) |>.2 h8
                  simp [this] at h7
                (repeat (first | (simp (disch := (first | omega | (simp only [evF, evL, implies_true, and_self]; done) | fail)) only [evS, evZ, evK, evB, evL, evR, Nat.reduceBEq, Nat.reduceAdd, Nat.reduceLeDiff, boxR, rboxR, allocR, fldR, binI, unR, pickR, mknilR, mkslR, buildSlR, buildR, extR, convI, eqB, evU, wrap64, fe_len, fe_get hcn, fi_get hcn, fi_snoc (c := cN) (a := w) (ca := [AV.int .i64 (w : Int)]) rfl, fe_snoc (ll := frL E S2 w) (k := c) w rfl, frL_add hS, getD_map hct, htg]) | (with_reducible intro _) | ((with_reducible apply And.intro); omega)))
                exact ⟨(T c, _, addS S2 c), hB3, hmeas, (Ent.tab [(0, 0, 0), (1, 1, 0)] [] rfl (by (try simp only [evW, evK, evB, evL, Nat.reduceBEq, Nat.reduceAdd, Nat.reduceSub, Nat.reduceLeDiff, Nat.reduceLT, implies_true, and_self, Int.natCast_zero, Int.natCast_one, Int.cast_ofNat_Int, evV, encInts, encNats, encBools, encP, encNN, encInts, encBools, encNats]) <;> (repeat' with_reducible apply And.intro) <;> first | omega | exact vw_nats rfl rfl (by omega) | exact vw_ints rfl rfl (by omega) | exact vw_bools rfl rfl (by omega) | exact rowV_fe (fun _ => rfl) | exact rowV_fe_start (c := cN) (fun _ => rfl) rfl | exact rowsV_fam (fun _ => rfl) (by decide) ⟨rfl, rfl⟩ trivial | exact rowsV_fam (fun _ => rfl) (by decide) (fun _ _ => ⟨rfl, rfl⟩) trivial | (simp; done)) (by (try simp only [evW, evK, evB, evL, Nat.reduceBEq, Nat.reduceAdd, Nat.reduceSub, Nat.reduceLeDiff, Nat.reduceLT, implies_true, and_self, Int.natCast_zero, Int.natCast_one, Int.cast_ofNat_Int, evV, encInts, encNats, encBools, encP, encNN, encInts, encBools, encNats]) <;> (repeat' with_reducible apply And.intro) <;> first | omega | exact vw_nats rfl rfl (by omega) | exact vw_ints rfl rfl (by omega) | exact vw_bools rfl rfl (by omega) | exact rowV_fe (fun _ => rfl) | exact rowV_fe_start (c := cN) (fun _ => rfl) rfl | exact rowsV_fam (fun _ => rfl) (by decide) ⟨rfl, rfl⟩ trivial | exact rowsV_fam (fun _ => rfl) (by decide) (fun _ _ => ⟨rfl, rfl⟩) trivial | (simp; done)))⟩
              · have hS : S2 c = true := by
                  have h8 : w ∈ frL E S2 w c := by simpa using h7
                  exact frL_mem.1 h8
                rw [frL_old (b := c) hS]
                (repeat (first | (simp (disch := (first | omega | (simp only [evF, evL, implies_true, and_self]; done) | fail)) only [evS, evZ, evK, evB, evL, evR, Nat.reduceBEq, Nat.reduceAdd, Nat.reduceLeDiff, boxR, rboxR, allocR, fldR, binI, unR, pickR, mknilR, mkslR, buildSlR, buildR, extR, convI, eqB, evU, wrap64, getD_map hct, htg]) | (with_reducible intro _) | ((with_reducible apply And.intro); omega)))
                exact ⟨(T c, gs3, addS S2 c), hB3, hmeas, (Ent.tab [(0, 0, 0), (1, 1, 0)] [] rfl (by (try simp only [evW, evK, evB, evL, Nat.reduceBEq, Nat.reduceAdd, Nat.reduceSub, Nat.reduceLeDiff, Nat.reduceLT, implies_true, and_self, Int.natCast_zero, Int.natCast_one, Int.cast_ofNat_Int, evV, encInts, encNats, encBools, encP, encNN, encInts, encBools, encNats]) <;> (repeat' with_reducible apply And.intro) <;> first | omega | exact vw_nats rfl rfl (by omega) | exact vw_ints rfl rfl (by omega) | exact vw_bools rfl rfl (by omega) | exact rowV_fe (fun _ => rfl) | exact rowV_fe_start (c := cN) (fun _ => rfl) rfl | exact rowsV_fam (fun _ => rfl) (by decide) ⟨rfl, rfl⟩ trivial | exact rowsV_fam (fun _ => rfl) (by decide) (fun _ _ => ⟨rfl, rfl⟩) trivial | (simp; done)) (by (try simp only [evW, evK, evB, evL, Nat.reduceBEq, Nat.reduceAdd, Nat.reduceSub, Nat.reduceLeDiff, Nat.reduceLT, implies_true, and_self, Int.natCast_zero, Int.natCast_one, Int.cast_ofNat_Int, evV, encInts, encNats, encBools, encP, encNN, encInts, encBools, encNats]) <;> (repeat' with_reducible apply And.intro) <;> first | omega | exact vw_nats rfl rfl (by omega) | exact vw_ints rfl rfl (by omega) | exact vw_bools rfl rfl (by omega) | exact rowV_fe (fun _ => rfl) | exact rowV_fe_start (c := cN) (fun _ => rfl) rfl | exact rowsV_fam (fun _ => rfl) (by decide) ⟨rfl, rfl⟩ trivial | exact rowsV_fam (fun _ => rfl) (by decide) (fun _ _ => ⟨rfl, rfl⟩) trivial | (simp; done)))⟩
        · omega
    · obtain rfl : j = P[w].length := by omega
      unfold ac_dominator_Frontier_k3
      rw [frL_next (hend hwn (by rw [hsw]; exact hF))]
      (repeat (first | (simp (disch := (first | omega | (simp only [evF, evL, implies_true, and_self]; done) | fail)) only [evS, evZ, evK, evB, evL, evR, Nat.reduceBEq, Nat.reduceAdd, Nat.reduceLeDiff, boxR, rboxR, allocR, fldR, binI, unR, pickR, mknilR, mkslR, buildSlR, buildR, extR, convI, eqB, evU, wrap64]) | (with_reducible intro _) | ((with_reducible apply And.intro); omega)))
      exact ⟨(w + 1, gs2), by simp only; omega, by simp only; omega, (Ent.tab [(0, 0, 0), (1, 1, 0)] [] rfl (by (try simp only [evW, evK, evB, evL, Nat.reduceBEq, Nat.reduceAdd, Nat.reduceSub, Nat.reduceLeDiff, Nat.reduceLT, implies_true, and_self, Int.natCast_zero, Int.natCast_one, Int.cast_ofNat_Int, evV, encInts, encNats, encBools, encP, encNN, encInts, encBools]) <;> (repeat' with_reducible apply And.intro) <;> first | omega | exact vw_nats rfl rfl (by omega) | exact vw_ints rfl rfl (by omega) | exact vw_bools rfl rfl (by omega) | exact rowV_fe (fun _ => rfl) | exact rowV_fe_start (c := cN) (fun _ => rfl) rfl | exact rowsV_fam (fun _ => rfl) (by decide) ⟨rfl, rfl⟩ trivial | exact rowsV_fam (fun _ => rfl) (by decide) (fun _ _ => ⟨rfl, rfl⟩) trivial | (simp; done)) (by (try simp only [evW, evK, evB, evL, Nat.reduceBEq, Nat.reduceAdd, Nat.reduceSub, Nat.reduceLeDiff, Nat.reduceLT, implies_true, and_self, Int.natCast_zero, Int.natCast_one, Int.cast_ofNat_Int, evV, encInts, encNats, encBools, encP, encNN, encInts, encBools]) <;> (repeat' with_reducible apply And.intro) <;> first | omega | exact vw_nats rfl rfl (by omega) | exact vw_ints rfl rfl (by omega) | exact vw_bools rfl rfl (by omega) | exact rowV_fe (fun _ => rfl) | exact rowV_fe_start (c := cN) (fun _ => rfl) rfl | exact rowsV_fam (fun _ => rfl) (by decide) ⟨rfl, rfl⟩ trivial | exact rowsV_fam (fun _ => rfl) (by decide) (fun _ _ => ⟨rfl, rfl⟩) trivial | (simp; done)))⟩
  · obtain rfl : w = n := by omega
    unfold ac_dominator_Frontier_k5
    (repeat (first | (simp (disch := (first | omega | (simp only [evF, evL, implies_true, and_self]; done) | fail)) only [evS, evZ, evK, evB, evL, evR, Nat.reduceBEq, Nat.reduceAdd, Nat.reduceLeDiff, boxR, rboxR, allocR, fldR, binI, unR, pickR, mknilR, mkslR, buildSlR, buildR, extR, convI, eqB, evU, wrap64, rs_dominator_Frontier]) | (with_reducible intro _) | ((with_reducible apply And.intro); omega)))
    refine ⟨_, ?_, rfl⟩
    simp only [frL_none]
    exact vw_fam trivial rfl (by omega) rfl (fun _ _ => trivial) (fun i _ => Nat.le_trans filR_le (by omega)) (fun _ => rfl)

end Go.Ab

namespace Go.Ab
open Go.RowKit Go.Proofs

def zStm (op next els : Int) : Stm := ⟨op, 0, 0, next, els, 0, .nilsl, []⟩
def jBlk (n : Int) : Blk := ⟨0, [zStm 6 n 0]⟩

def zCells (op next els : Int) : List AV := [.int .i64 op, .int .i64 0, .int .i64 0, .int .i64 next, .int .i64 els, .int .u32 0, .nilsl, .nilsl]

section
variable {H H2 : AH} {σ : Nat → Nat → Option (Nat × Nat × Nat)} {D : Nat → Nat → Prop} {t : Bool}
theorem vw_zs {op next els : Int} (j : Nat) : Vw H H2 σ D t ((zCells op next els).getD j .undef) ((zStm op next els).cells.getD j .undef) := by
  match j with
  | 0 => exact .int _ _ _
  | 1 => exact .int _ _ _
  | 2 => exact .int _ _ _
  | 3 => exact .int _ _ _
  | 4 => exact .int _ _ _
  | 5 => exact .int _ _ _
  | 6 => exact .nilsl _
  | 7 => exact vw_nil
  | n + 8 => exact .undef _ _
theorem vw_zblk {r q g : Nat} {op next els : Int} (hD : D r q) (hg : H.get r q = some (.row 8 [zCells op next els] g)) : Vw H H2 σ D t (.own r q g 0 1) (encL 8 Stm.cells [zStm op next els]) :=
  vw_encL (l := [zStm op next els]) (f := fun (s : Stm) => zCells s.op s.next s.els) hD hg (show 1 ≤ big by decide) (by
    intro a ha j _
    rw [List.mem_singleton.1 ha]
    exact vw_zs j)
theorem vw_two {a b a' b' : AV} (h1 : Vw H H2 σ D t a a') (h2 : Vw H H2 σ D t b b') : Vw H H2 σ D t (.agg [a, b]) (.agg [a', b']) := by
  refine .agg _ _ _ rfl (fun i x y hx hy => ?_)
  match i with
  | 0 => cases hx; cases hy; exact h1
  | 1 => cases hx; cases hy; exact h2
  | i + 2 => cases hx
end

theorem L24_jump_ok (n : Int) : PureFn Try.prog f_L24_jump [.int .i64 n] (· = .agg (jBlk n).cells) := by
  refine fn_x cf_L24_jump rfl ?_
  unfold ac_L24_jump
  have hB : big = 9223372036854775807 := rfl
  (repeat (first | (simp (disch := (first | omega | (simp only [evF, evL, implies_true, and_self]; done) | fail)) only [evS, evZ, evK, evB, evL, evR, Nat.reduceBEq, Nat.reduceAdd, Nat.reduceLeDiff, boxR, rboxR, allocR, fldR, binI, unR, pickR, mknilR, mkslR, buildSlR, buildR, extR, convI, eqB, evU, wrap64, rs_L24_jump]) | (with_reducible intro _) | ((with_reducible apply And.intro); omega)))
  exact ⟨_, vw_two (.int _ _ _) (vw_zblk trivial rfl), rfl⟩

/-- What few says of the first k blocks. -/
def fewT (g : Gr) (k : Nat) : Prop := ∀ i (h : i < g.blocks.length), i < k → ∀ s, (g.blocks[i]).stmts.getLast? = some s → s.cases.length ≤ 12

theorem few_small {g : Gr} {k : Nat} (h : fewT g k) (hl : g.blocks.length ≤ 12) (hk : g.blocks.length ≤ k) : g.small := by
  refine ⟨by omega, fun b hb => ?_⟩
  obtain ⟨i, hi, rfl⟩ := List.mem_iff_getElem.1 hb
  have := h i hi (by omega)
  unfold Blk.targets
  cases hs : (g.blocks[i]).stmts.getLast? with
  | none => simp
  | some s =>
    have := this s hs
    simp only
    split
    · simp
    · split
      · simp
      · split
        · omega
        · simp

theorem L24_few_ok (g : Gr) : PureFn Try.prog f_L24_few [.agg g.cells] (fun v => ∃ b, v = .bool b ∧ (b = true → g.small ∧ g.blocks.length ≤ 12)) := by
  refine fn_x cf_L24_few rfl ?_
  unfold ac_L24_few
  have hB : big = 9223372036854775807 := rfl
  (repeat (first | (simp (disch := (first | omega | (simp only [evF, evL, implies_true, and_self]; done) | fail)) only [evS, evZ, evK, evB, evL, evR, Nat.reduceBEq, Nat.reduceAdd, Nat.reduceLeDiff, boxR, rboxR, allocR, fldR, binI, unR, pickR, mknilR, mkslR, buildSlR, buildR, extR, convI, eqB, evU, wrap64, Gr.cells, iptr_encP]) | (with_reducible intro _) | ((with_reducible apply And.intro); omega)))
  refine loopX_intro (fun i : Nat => ([(1, encP 2 g.cells), (3, .int .i64 i)], [])) 0 (fun i => i ≤ g.blocks.length ∧ i ≤ 20 ∧ fewT g i) (fun i => 20 - i) 0 ⟨Nat.zero_le _, by omega, fun i _ h => absurd h (by omega)⟩ (Ent.keep rfl (by (try simp [subK, Kn.get, beq_eq]) <;> (repeat' with_reducible apply And.intro) <;> first | rfl | omega | (simp; done))) ?_
  intro i ⟨hi, hi2, hf⟩ wf
  unfold ac_L24_few_l0
  (repeat (first | (simp (disch := (first | omega | (simp only [evF, evL, implies_true, and_self]; done) | fail)) only [evS, evZ, evK, evB, evL, evR, Nat.reduceBEq, Nat.reduceAdd, Nat.reduceLeDiff, boxR, rboxR, allocR, fldR, binI, unR, pickR, mknilR, mkslR, buildSlR, buildR, extR, convI, eqB, evU, wrap64, encP, Gr.cells]) | (with_reducible intro _) | ((with_reducible apply And.intro); omega)))
  generalize h : decide ((i : Int) < g.blocks.length) = hb; cases hb <;> simp only [decide_eq_true_eq, decide_eq_false_iff_not, ne_eq, Classical.not_not] at h
  · (repeat (first | (simp (disch := (first | omega | (simp only [evF, evL, implies_true, and_self]; done) | fail)) only [evS, evZ, evK, evB, evL, evR, Nat.reduceBEq, Nat.reduceAdd, Nat.reduceLeDiff, boxR, rboxR, allocR, fldR, binI, unR, pickR, mknilR, mkslR, buildSlR, buildR, extR, convI, eqB, evU, wrap64]) | (with_reducible intro _) | ((with_reducible apply And.intro); omega)))
    unfold ac_L24_few_k1
    (repeat (first | (simp (disch := (first | omega | (simp only [evF, evL, implies_true, and_self]; done) | fail)) only [evS, evZ, evK, evB, evL, evR, Nat.reduceBEq, Nat.reduceAdd, Nat.reduceLeDiff, boxR, rboxR, allocR, fldR, binI, unR, pickR, mknilR, mkslR, buildSlR, buildR, extR, convI, eqB, evU, wrap64, Gr.cells, rs_L24_few]) | (with_reducible intro _) | ((with_reducible apply And.intro); omega)))
    exact ⟨_, .bool _ _, _, rfl, fun h2 => ⟨few_small hf (by have := of_decide_eq_true h2; omega) (by omega), by have := of_decide_eq_true h2; omega⟩⟩
  · (repeat (first | (simp (disch := (first | omega | (simp only [evF, evL, implies_true, and_self]; done) | fail)) only [evS, evZ, evK, evB, evL, evR, Nat.reduceBEq, Nat.reduceAdd, Nat.reduceLeDiff, boxR, rboxR, allocR, fldR, binI, unR, pickR, mknilR, mkslR, buildSlR, buildR, extR, convI, eqB, evU, wrap64]) | (with_reducible intro _) | ((with_reducible apply And.intro); omega)))
    (refine condX_intro (fun h2 => ?_) (fun h2 => ?_)) <;> (try simp only [decide_eq_true_eq, decide_eq_false_iff_not, Bool.not_eq_true', Bool.not_eq_false', Bool.and_eq_true, Bool.or_eq_true, not_true_eq_false, not_false_eq_true] at h2)
    · have hin : i < g.blocks.length := by omega
      (repeat (first | (simp (disch := (first | omega | (simp only [evF, evL, implies_true, and_self]; done) | fail)) only [evS, evZ, evK, evB, evL, evR, Nat.reduceBEq, Nat.reduceAdd, Nat.reduceLeDiff, boxR, rboxR, allocR, fldR, binI, unR, pickR, mknilR, mkslR, buildSlR, buildR, extR, convI, eqB, evU, wrap64, encP, Gr.cells, getD_map hin, Blk.cells]) | (with_reducible intro _) | ((with_reducible apply And.intro); omega)))
      generalize h3 : decide (((g.blocks[i]).stmts.length : Int) > 0) = h3b; cases h3b <;> simp only [decide_eq_true_eq, decide_eq_false_iff_not, ne_eq, Classical.not_not] at h3
      · have hs : (g.blocks[i]).stmts.getLast? = none := by
          rw [List.getLast?_eq_none_iff]
          exact List.eq_nil_of_length_eq_zero (by omega)
        (repeat (first | (simp (disch := (first | omega | (simp only [evF, evL, implies_true, and_self]; done) | fail)) only [evS, evZ, evK, evB, evL, evR, Nat.reduceBEq, Nat.reduceAdd, Nat.reduceLeDiff, boxR, rboxR, allocR, fldR, binI, unR, pickR, mknilR, mkslR, buildSlR, buildR, extR, convI, eqB, evU, wrap64]) | (with_reducible intro _) | ((with_reducible apply And.intro); omega)))
        refine ⟨i + 1, ⟨by omega, by omega, fun j hj h4 s h5 => ?_⟩, by omega, Ent.keep rfl (by (try simp [subK, Kn.get, beq_eq]) <;> (repeat' with_reducible apply And.intro) <;> first | rfl | omega | (simp; done))⟩
        by_cases h6 : j = i
        · subst h6; rw [hs] at h5; cases h5
        · exact hf j hj (by omega) s h5
      · have hln : (g.blocks[i]).stmts.length - 1 < (g.blocks[i]).stmts.length := by omega
        have hs : (g.blocks[i]).stmts.getLast? = some (g.blocks[i]).stmts[(g.blocks[i]).stmts.length - 1] := by
          rw [List.getLast?_eq_getElem?, List.getElem?_eq_getElem hln]
        have ei : (((g.blocks[i]).stmts.length : Int) - 1).toNat = (g.blocks[i]).stmts.length - 1 := by omega
        (repeat (first | (simp (disch := (first | omega | (simp only [evF, evL, implies_true, and_self]; done) | fail)) only [evS, evZ, evK, evB, evL, evR, Nat.reduceBEq, Nat.reduceAdd, Nat.reduceLeDiff, boxR, rboxR, allocR, fldR, binI, unR, pickR, mknilR, mkslR, buildSlR, buildR, extR, convI, eqB, evU, wrap64, getD_map hin, Blk.cells, ei, getD_map hln, Stm.cells, encInts]) | (with_reducible intro _) | ((with_reducible apply And.intro); omega)))
        generalize (g.blocks[i]).stmts[(g.blocks[i]).stmts.length - 1] = st at hs ⊢
        (refine condX_intro (fun h4 => ?_) (fun h4 => ?_)) <;> (try simp only [decide_eq_true_eq, decide_eq_false_iff_not, Bool.not_eq_true', Bool.not_eq_false', Bool.and_eq_true, Bool.or_eq_true, not_true_eq_false, not_false_eq_true] at h4)
        · (repeat (first | (simp (disch := (first | omega | (simp only [evF, evL, implies_true, and_self]; done) | fail)) only [evS, evZ, evK, evB, evL, evR, Nat.reduceBEq, Nat.reduceAdd, Nat.reduceLeDiff, boxR, rboxR, allocR, fldR, binI, unR, pickR, mknilR, mkslR, buildSlR, buildR, extR, convI, eqB, evU, wrap64, rs_L24_few]) | (with_reducible intro _) | ((with_reducible apply And.intro); omega)))
          exact ⟨_, .bool _ _, _, rfl, fun h2 => by cases h2⟩
        · (repeat (first | (simp (disch := (first | omega | (simp only [evF, evL, implies_true, and_self]; done) | fail)) only [evS, evZ, evK, evB, evL, evR, Nat.reduceBEq, Nat.reduceAdd, Nat.reduceLeDiff, boxR, rboxR, allocR, fldR, binI, unR, pickR, mknilR, mkslR, buildSlR, buildR, extR, convI, eqB, evU, wrap64]) | (with_reducible intro _) | ((with_reducible apply And.intro); omega)))
          refine ⟨i + 1, ⟨by omega, by omega, fun j hj h5 s h6 => ?_⟩, by omega, Ent.keep rfl (by (try simp [subK, Kn.get, beq_eq]) <;> (repeat' with_reducible apply And.intro) <;> first | rfl | omega | (simp; done))⟩
          by_cases h7 : j = i
          · subst h7; rw [hs] at h6; cases h6; omega
          · exact hf j hj (by omega) s h6
    · unfold ac_L24_few_k1
      (repeat (first | (simp (disch := (first | omega | (simp only [evF, evL, implies_true, and_self]; done) | fail)) only [evS, evZ, evK, evB, evL, evR, Nat.reduceBEq, Nat.reduceAdd, Nat.reduceLeDiff, boxR, rboxR, allocR, fldR, binI, unR, pickR, mknilR, mkslR, buildSlR, buildR, extR, convI, eqB, evU, wrap64, Gr.cells, rs_L24_few]) | (with_reducible intro _) | ((with_reducible apply And.intro); omega)))
      exact ⟨_, .bool _ _, _, rfl, fun h2 => by have := of_decide_eq_true h2; omega⟩

end Go.Ab

namespace Go.Ab
open Go.RowKit Go.Proofs

def gEx : Gr := ⟨0, [⟨0, [zStm 7 1 2]⟩, jBlk 3, jBlk 3, ⟨0, [zStm 9 0 0]⟩]⟩
theorem gEx_small : gEx.small := ⟨by decide, by decide⟩
theorem gEx_order : orderL gEx.E = [0, 2, 1, 3] := by decide
theorem gEx_tree : treeL gEx.E = [-1, 0, 0, 0] := by decide
theorem gEx_post : postL gEx.E = [3, 3, 3, -1] := by decide
theorem gEx_front : frontL gEx.E = [[], [3], [3], []] := by decide
theorem gEx_pred : predL gEx.E = [[], [0], [0], [1, 2]] := by decide
theorem dEx1 : domL [-1, 0, 1] 0 2 = true := by decide
theorem dEx2 : domL [-1, 0, 1] 2 0 = false := by decide

section
variable {H H2 : AH} {σ : Nat → Nat → Option (Nat × Nat × Nat)} {D : Nat → Nat → Prop} {t : Bool}
theorem vw_refl {a : AV} (h : a.flat = true) : Vw H H2 σ D t a a := vw_flat h
theorem vw_gEx (hD : ∀ r, r < 3 → D r 0) (h0 : H.get 0 0 = some (.row 8 [zCells 7 1 2] 0)) (h1 : H.get 1 0 = some (.row 8 [zCells 9 0 0] 0)) (h2 : H.get 2 0 = some (.row 2 [[.int .u32 0, .own 0 0 0 0 1], (jBlk 3).cells, (jBlk 3).cells, [.int .u32 0, .own 1 0 0 0 1]] 0)) :
    Vw H H2 σ D t (.own 2 0 0 0 4) (encL 2 Blk.cells gEx.blocks) := by
  refine .frz t 2 0 0 0 4 2 _ _ (hD 2 (by decide)) h2 (by decide) (by decide) (fun i j hi hj => ?_)
  match i, j with
  | 0, 0 => exact .int _ _ _
  | 0, 1 => exact vw_zblk (hD 0 (by decide)) h0
  | 1, 0 => exact .int _ _ _
  | 1, 1 => exact .sl _ _ _ _
  | 2, 0 => exact .int _ _ _
  | 2, 1 => exact .sl _ _ _ _
  | 3, 0 => exact .int _ _ _
  | 3, 1 => exact vw_zblk (hD 1 (by decide)) h1
  | i + 4, j => omega
  | i, j + 2 => omega
theorem vw_gbox (hD : ∀ r, r < 4 → D r 0) (h0 : H.get 0 0 = some (.row 8 [zCells 7 1 2] 0)) (h1 : H.get 1 0 = some (.row 8 [zCells 9 0 0] 0)) (h2 : H.get 2 0 = some (.row 2 [[.int .u32 0, .own 0 0 0 0 1], (jBlk 3).cells, (jBlk 3).cells, [.int .u32 0, .own 1 0 0 0 1]] 0))
    (h3 : H.get 3 0 = some (.row 2 [[.int .u32 0, .own 2 0 0 0 4]] 0)) : Vw H H2 σ D t (.ptr 3 0 0 0 0) (encP 2 gEx.cells) := by
  refine .frzp t 3 0 0 0 0 2 2 _ _ (hD 3 (by decide)) h3 (by decide) (by decide) (fun j hj => ?_)
  match j with
  | 0 => exact .int _ _ _
  | 1 => exact vw_gEx (fun r hr => hD r (by omega)) h0 h1 h2
  | j + 2 => omega
end

theorem ints_to {H : AH} {nx : Nat} {a b : List Int} {o : AV} (h : Vw H [] nos allR false o (encInts b)) : CallFix Try.prog f_R24_Ints [encInts a, o] H nx (.bool (decide (a = b))) :=
  call_fix (D := allR) (R24_Ints_ok a b) (.cons (.sl _ _ _ _) (.cons h .nil)) (.inl rfl)
theorem nats_to {H : AH} {nx : Nat} {a : List Nat} {b : List Int} {o : AV} (h : Vw H [] nos allR false o (encInts b)) : CallFix Try.prog f_R24_Ints [encNats a, o] H nx (.bool (decide ((a.map fun (n : Nat) => (n : Int)) = b))) := by
  rw [← encInts_nats]
  exact ints_to h
theorem encNN_LL (A : List (List Nat)) : encNN A = encLL (A.map fun l => l.map fun (n : Nat) => (n : Int)) := by
  unfold encNN encLL encL
  simp only [List.length_map, List.map_map, Function.comp_def, encInts_nats]
theorem lists_to {H : AH} {nx : Nat} {a : List (List Nat)} {b : List (List Int)} {o : AV} (h : Vw H [] nos allR false o (encLL b)) : CallFix Try.prog f_R24_Lists [encNN a, o] H nx (.bool (decide ((a.map fun l => l.map fun (n : Nat) => (n : Int)) = b))) := by
  rw [encNN_LL]
  exact call_fix (D := allR) (R24_Lists_ok _ b) (.cons (.sl _ _ _ _) (.cons h .nil)) (.inl rfl)

theorem vw_list4 {H H2 : AH} {σ : Nat → Nat → Option (Nat × Nat × Nat)} {D : Nat → Nat → Prop} {t : Bool} {r q g : Nat} {x0 x1 x2 x3 : AV} {l0 l1 l2 l3 : List Int} (hD : D r q) (hg : H.get r q = some (.row 1 [[x0], [x1], [x2], [x3]] g))
    (h0 : Vw H H2 σ D false x0 (encInts l0)) (h1 : Vw H H2 σ D false x1 (encInts l1)) (h2 : Vw H H2 σ D false x2 (encInts l2)) (h3 : Vw H H2 σ D false x3 (encInts l3)) : Vw H H2 σ D t (.own r q g 0 4) (encLL [l0, l1, l2, l3]) := by
  refine .frz t r q g 0 4 1 _ _ hD hg (show 4 ≤ big by decide) (Nat.le_refl 4) (fun i j hi hj => ?_)
  obtain rfl : j = 0 := by omega
  match i with
  | 0 => exact h0
  | 1 => exact h1
  | 2 => exact h2
  | 3 => exact h3
  | i + 4 => omega

def ac2_exampleHolds : ACode := match ac_L24_exampleHolds with
  | .seq a (.seq b c) => .seq a (.seq b (.mark 0 c))
  | x => x

theorem L24_exampleHolds_ok : PureFn Try.prog f_L24_exampleHolds [] (· = .bool true) := by
  refine fn_x (ac := ac2_exampleHolds) cf_L24_exampleHolds rfl ?_
  unfold ac2_exampleHolds ac_L24_exampleHolds
  have hB : big = 9223372036854775807 := rfl
  (repeat (first | (simp (disch := (first | omega | (simp only [evF, evL, implies_true, and_self]; done) | fail)) only [evS, evZ, evK, evB, evL, evR, Nat.reduceBEq, Nat.reduceAdd, Nat.reduceLeDiff, boxR, rboxR, allocR, fldR, binI, unR, pickR, mknilR, mkslR, buildSlR, buildR, extR, convI, eqB, evU, wrap64]) | (with_reducible intro _) | ((with_reducible apply And.intro); omega)))
  refine callX_fix (call_flat (L24_jump_ok 3) rfl) ?_
  (repeat (first | (simp (disch := (first | omega | (simp only [evF, evL, implies_true, and_self]; done) | fail)) only [evS, evZ, evK, evB, evL, evR, Nat.reduceBEq, Nat.reduceAdd, Nat.reduceLeDiff, boxR, rboxR, allocR, fldR, binI, unR, pickR, mknilR, mkslR, buildSlR, buildR, extR, convI, eqB, evU, wrap64]) | (with_reducible intro _) | ((with_reducible apply And.intro); omega)))
  refine callX_fix (call_flat (L24_jump_ok 3) rfl) ?_
  (repeat (first | (simp (disch := (first | omega | (simp only [evF, evL, implies_true, and_self]; done) | fail)) only [evS, evZ, evK, evB, evL, evR, Nat.reduceBEq, Nat.reduceAdd, Nat.reduceLeDiff, boxR, rboxR, allocR, fldR, binI, unR, pickR, mknilR, mkslR, buildSlR, buildR, extR, convI, eqB, evU, wrap64]) | (with_reducible intro _) | ((with_reducible apply And.intro); omega)))
  refine ⟨⟨⟨rfl, by decide⟩, ⟨rfl, by decide⟩, by decide⟩, ?_⟩
  refine markX_intro [(1, encP 2 gEx.cells)] [] 0 fun _ => ⟨Ent.tab [] [0, 1, 2, 3] rfl trivial ⟨vw_gbox (fun r hr => ?_) rfl rfl rfl rfl, trivial⟩, ?_⟩
  · match r with
    | 0 => rfl
    | 1 => rfl
    | 2 => rfl
    | 3 => rfl
    | r + 4 => omega
  have hld : ∀ {H : AH} {nx : Nat}, loadR true 2 (encP 2 gEx.cells) H nx = ⟨2 ≤ 2, True, .agg gEx.cells, H, nx⟩ := fun {H nx} => loadR_encP_agg rfl
  (repeat (first | (simp (disch := (first | omega | (simp only [evF, evL, implies_true, and_self]; done) | fail)) only [evS, evZ, evK, evB, evL, evR, Nat.reduceBEq, Nat.reduceAdd, Nat.reduceLeDiff, boxR, rboxR, allocR, fldR, binI, unR, pickR, mknilR, mkslR, buildSlR, buildR, extR, convI, eqB, evU, wrap64, hld]) | (with_reducible intro _) | ((with_reducible apply And.intro); omega)))
  refine callX_fix (call_flat (dominator_Order_ok gEx gEx_small) rfl) ?_
  rw [gEx_order]
  (repeat (first | (simp (disch := (first | omega | (simp only [evF, evL, implies_true, and_self]; done) | fail)) only [evS, evZ, evK, evB, evL, evR, Nat.reduceBEq, Nat.reduceAdd, Nat.reduceLeDiff, boxR, rboxR, allocR, fldR, binI, unR, pickR, mknilR, mkslR, buildSlR, buildR, extR, convI, eqB, evU, wrap64, hld]) | (with_reducible intro _) | ((with_reducible apply And.intro); omega)))
  refine callX_fix (nats_to (b := [0, 2, 1, 3]) (vw_ints (l := [0, 2, 1, 3]) trivial rfl (by decide))) ?_
  rw [show decide ((List.map (fun (n : Nat) => (n : Int)) [0, 2, 1, 3]) = [0, 2, 1, 3]) = true from rfl]
  (repeat (first | (simp (disch := (first | omega | (simp only [evF, evL, implies_true, and_self]; done) | fail)) only [evS, evZ, evK, evB, evL, evR, Nat.reduceBEq, Nat.reduceAdd, Nat.reduceLeDiff, boxR, rboxR, allocR, fldR, binI, unR, pickR, mknilR, mkslR, buildSlR, buildR, extR, convI, eqB, evU, wrap64, hld]) | (with_reducible intro _) | ((with_reducible apply And.intro); omega)))
  refine callX_fix (call_flat (dominator_Tree_ok gEx gEx_small) rfl) ?_
  rw [gEx_tree]
  (repeat (first | (simp (disch := (first | omega | (simp only [evF, evL, implies_true, and_self]; done) | fail)) only [evS, evZ, evK, evB, evL, evR, Nat.reduceBEq, Nat.reduceAdd, Nat.reduceLeDiff, boxR, rboxR, allocR, fldR, binI, unR, pickR, mknilR, mkslR, buildSlR, buildR, extR, convI, eqB, evU, wrap64, hld]) | (with_reducible intro _) | ((with_reducible apply And.intro); omega)))
  refine callX_fix (ints_to (b := [-1, 0, 0, 0]) (vw_ints (l := [-1, 0, 0, 0]) trivial rfl (by decide))) ?_
  (repeat (first | (simp (disch := (first | omega | (simp only [evF, evL, implies_true, and_self]; done) | fail)) only [evS, evZ, evK, evB, evL, evR, Nat.reduceBEq, Nat.reduceAdd, Nat.reduceLeDiff, boxR, rboxR, allocR, fldR, binI, unR, pickR, mknilR, mkslR, buildSlR, buildR, extR, convI, eqB, evU, wrap64, hld]) | (with_reducible intro _) | ((with_reducible apply And.intro); omega)))
  refine callX_fix (call_flat (dominator_PostTree_ok gEx gEx_small) rfl) ?_
  rw [gEx_post]
  (repeat (first | (simp (disch := (first | omega | (simp only [evF, evL, implies_true, and_self]; done) | fail)) only [evS, evZ, evK, evB, evL, evR, Nat.reduceBEq, Nat.reduceAdd, Nat.reduceLeDiff, boxR, rboxR, allocR, fldR, binI, unR, pickR, mknilR, mkslR, buildSlR, buildR, extR, convI, eqB, evU, wrap64, hld]) | (with_reducible intro _) | ((with_reducible apply And.intro); omega)))
  refine callX_fix (ints_to (b := [3, 3, 3, -1]) (vw_ints (l := [3, 3, 3, -1]) trivial rfl (by decide))) ?_
  (repeat (first | (simp (disch := (first | omega | (simp only [evF, evL, implies_true, and_self]; done) | fail)) only [evS, evZ, evK, evB, evL, evR, Nat.reduceBEq, Nat.reduceAdd, Nat.reduceLeDiff, boxR, rboxR, allocR, fldR, binI, unR, pickR, mknilR, mkslR, buildSlR, buildR, extR, convI, eqB, evU, wrap64, hld]) | (with_reducible intro _) | ((with_reducible apply And.intro); omega)))
  refine callX_fix (call_flat (dominator_Frontier_ok gEx gEx_small) rfl) ?_
  rw [gEx_front]
  (repeat (first | (simp (disch := (first | omega | (simp only [evF, evL, implies_true, and_self]; done) | fail)) only [evS, evZ, evK, evB, evL, evR, Nat.reduceBEq, Nat.reduceAdd, Nat.reduceLeDiff, boxR, rboxR, allocR, fldR, binI, unR, pickR, mknilR, mkslR, buildSlR, buildR, extR, convI, eqB, evU, wrap64, hld]) | (with_reducible intro _) | ((with_reducible apply And.intro); omega)))
  refine callX_fix (lists_to (b := [[], [3], [3], []]) (vw_list4 trivial rfl vw_nil (vw_ints (l := [3]) trivial rfl (by decide)) (vw_ints (l := [3]) trivial rfl (by decide)) vw_nil)) ?_
  rw [show decide ((List.map (fun l => List.map (fun (n : Nat) => (n : Int)) l) [[], [3], [3], []]) = [[], [3], [3], []]) = true from rfl]
  (repeat (first | (simp (disch := (first | omega | (simp only [evF, evL, implies_true, and_self]; done) | fail)) only [evS, evZ, evK, evB, evL, evR, Nat.reduceBEq, Nat.reduceAdd, Nat.reduceLeDiff, boxR, rboxR, allocR, fldR, binI, unR, pickR, mknilR, mkslR, buildSlR, buildR, extR, convI, eqB, evU, wrap64, hld]) | (with_reducible intro _) | ((with_reducible apply And.intro); omega)))
  refine callX_fix (call_flat (dominator_Predecessors_ok gEx gEx_small) rfl) ?_
  rw [gEx_pred]
  (repeat (first | (simp (disch := (first | omega | (simp only [evF, evL, implies_true, and_self]; done) | fail)) only [evS, evZ, evK, evB, evL, evR, Nat.reduceBEq, Nat.reduceAdd, Nat.reduceLeDiff, boxR, rboxR, allocR, fldR, binI, unR, pickR, mknilR, mkslR, buildSlR, buildR, extR, convI, eqB, evU, wrap64, hld]) | (with_reducible intro _) | ((with_reducible apply And.intro); omega)))
  refine callX_fix (lists_to (b := [[], [0], [0], [1, 2]]) (vw_list4 trivial rfl vw_nil (vw_ints (l := [0]) trivial rfl (by decide)) (vw_ints (l := [0]) trivial rfl (by decide)) (vw_ints (l := [1, 2]) trivial rfl (by decide)))) ?_
  rw [show decide ((List.map (fun l => List.map (fun (n : Nat) => (n : Int)) l) [[], [0], [0], [1, 2]]) = [[], [0], [0], [1, 2]]) = true from rfl]
  (repeat (first | (simp (disch := (first | omega | (simp only [evF, evL, implies_true, and_self]; done) | fail)) only [evS, evZ, evK, evB, evL, evR, Nat.reduceBEq, Nat.reduceAdd, Nat.reduceLeDiff, boxR, rboxR, allocR, fldR, binI, unR, pickR, mknilR, mkslR, buildSlR, buildR, extR, convI, eqB, evU, wrap64, hld]) | (with_reducible intro _) | ((with_reducible apply And.intro); omega)))
  refine callX_fix (call_fix (D := allR) (dominator_Dominates_ok [-1, 0, 1] 0 2 (by decide)) (.cons (vw_ints (l := [-1, 0, 1]) trivial rfl (by decide)) (.cons (.int _ _ _) (.cons (.int _ _ _) .nil))) (.inl rfl)) ?_
  rw [dEx1]
  (repeat (first | (simp (disch := (first | omega | (simp only [evF, evL, implies_true, and_self]; done) | fail)) only [evS, evZ, evK, evB, evL, evR, Nat.reduceBEq, Nat.reduceAdd, Nat.reduceLeDiff, boxR, rboxR, allocR, fldR, binI, unR, pickR, mknilR, mkslR, buildSlR, buildR, extR, convI, eqB, evU, wrap64, hld]) | (with_reducible intro _) | ((with_reducible apply And.intro); omega)))
  refine callX_fix (call_fix (D := allR) (dominator_Dominates_ok [-1, 0, 1] 2 0 (by decide)) (.cons (vw_ints (l := [-1, 0, 1]) trivial rfl (by decide)) (.cons (.int _ _ _) (.cons (.int _ _ _) .nil))) (.inl rfl)) ?_
  rw [dEx2]
  (repeat (first | (simp (disch := (first | omega | (simp only [evF, evL, implies_true, and_self]; done) | fail)) only [evS, evZ, evK, evB, evL, evR, Nat.reduceBEq, Nat.reduceAdd, Nat.reduceLeDiff, boxR, rboxR, allocR, fldR, binI, unR, pickR, mknilR, mkslR, buildSlR, buildR, extR, convI, eqB, evU, wrap64, hld, rs_L24_exampleHolds]) | (with_reducible intro _) | ((with_reducible apply And.intro); omega)))
  exact ⟨_, .bool _ _, rfl⟩

end Go.Ab

namespace Go.Ab
open Go.RowKit Go.Proofs

theorem lists_nn (a b : List (List Nat)) : PureFn Try.prog f_R24_Lists [encNN a, encNN b] (· = .bool (decide ((a.map fun l => l.map fun (n : Nat) => (n : Int)) = b.map fun l => l.map fun (n : Nat) => (n : Int)))) := by
  rw [encNN_LL, encNN_LL]
  exact R24_Lists_ok _ _

theorem L24_DominatorTree_ok (g : Gr) : PureFn Try.prog f_L24_DominatorTree [.agg g.cells] (· = .bool true) := by
  refine fn_x cf_L24_DominatorTree rfl ?_
  unfold ac_L24_DominatorTree
  have hB : big = 9223372036854775807 := rfl
  (repeat (first | (simp (disch := (first | omega | (simp only [evF, evL, implies_true, and_self]; done) | fail)) only [evS, evZ, evK, evB, evL, evR, Nat.reduceBEq, Nat.reduceAdd, Nat.reduceLeDiff, boxR, rboxR, allocR, fldR, binI, unR, pickR, mknilR, mkslR, buildSlR, buildR, extR, convI, eqB, evU, wrap64, Gr.cells, Gr.two]) | (with_reducible intro _) | ((with_reducible apply And.intro); omega)))
  refine call_read (D := noR) (L24_few_ok g) (lend_flat rfl) (fun _ h => .inr fun _ _ h => h) ?_
  rintro v ⟨b, rfl, hb⟩
  (repeat (first | (simp (disch := (first | omega | (simp only [evF, evL, implies_true, and_self]; done) | fail)) only [evS, evZ, evK, evB, evL, evR, Nat.reduceBEq, Nat.reduceAdd, Nat.reduceLeDiff, boxR, rboxR, allocR, fldR, binI, unR, pickR, mknilR, mkslR, buildSlR, buildR, extR, convI, eqB, evU, wrap64]) | (with_reducible intro _) | ((with_reducible apply And.intro); omega)))
  (refine condX_intro (fun h => ?_) (fun h => ?_)) <;> (try simp only [decide_eq_true_eq, decide_eq_false_iff_not, Bool.not_eq_true', Bool.not_eq_false', Bool.and_eq_true, Bool.or_eq_true, not_true_eq_false, not_false_eq_true] at h)
  · (repeat (first | (simp (disch := (first | omega | (simp only [evF, evL, implies_true, and_self]; done) | fail)) only [evS, evZ, evK, evB, evL, evR, Nat.reduceBEq, Nat.reduceAdd, Nat.reduceLeDiff, boxR, rboxR, allocR, fldR, binI, unR, pickR, mknilR, mkslR, buildSlR, buildR, extR, convI, eqB, evU, wrap64]) | (with_reducible intro _) | ((with_reducible apply And.intro); omega)))
    refine callX_fix (call_flat L24_exampleHolds_ok rfl) ?_
    (repeat (first | (simp (disch := (first | omega | (simp only [evF, evL, implies_true, and_self]; done) | fail)) only [evS, evZ, evK, evB, evL, evR, Nat.reduceBEq, Nat.reduceAdd, Nat.reduceLeDiff, boxR, rboxR, allocR, fldR, binI, unR, pickR, mknilR, mkslR, buildSlR, buildR, extR, convI, eqB, evU, wrap64, rs_L24_DominatorTree]) | (with_reducible intro _) | ((with_reducible apply And.intro); omega)))
    exact ⟨_, .bool _ _, rfl⟩
  · obtain ⟨hsm, h12⟩ := hb h
    (repeat (first | (simp (disch := (first | omega | (simp only [evF, evL, implies_true, and_self]; done) | fail)) only [evS, evZ, evK, evB, evL, evR, Nat.reduceBEq, Nat.reduceAdd, Nat.reduceLeDiff, boxR, rboxR, allocR, fldR, binI, unR, pickR, mknilR, mkslR, buildSlR, buildR, extR, convI, eqB, evU, wrap64, Gr.two]) | (with_reducible intro _) | ((with_reducible apply And.intro); omega)))
    refine callqX_fix (call_flat (dominator_Tree_ok g hsm) rfl) ?_
    (repeat (first | (simp (disch := (first | omega | (simp only [evF, evL, implies_true, and_self]; done) | fail)) only [evS, evZ, evK, evB, evL, evR, Nat.reduceBEq, Nat.reduceAdd, Nat.reduceLeDiff, boxR, rboxR, allocR, fldR, binI, unR, pickR, mknilR, mkslR, buildSlR, buildR, extR, convI, eqB, evU, wrap64, Gr.two]) | (with_reducible intro _) | ((with_reducible apply And.intro); omega)))
    refine callqX_fix (call_flat (R24_Tree_ok g hsm) rfl) ?_
    (repeat (first | (simp (disch := (first | omega | (simp only [evF, evL, implies_true, and_self]; done) | fail)) only [evS, evZ, evK, evB, evL, evR, Nat.reduceBEq, Nat.reduceAdd, Nat.reduceLeDiff, boxR, rboxR, allocR, fldR, binI, unR, pickR, mknilR, mkslR, buildSlR, buildR, extR, convI, eqB, evU, wrap64]) | (with_reducible intro _) | ((with_reducible apply And.intro); omega)))
    refine callqX_fix (call_flat (R24_Ints_ok _ _) rfl) ?_
    (repeat (first | (simp (disch := (first | omega | (simp only [evF, evL, implies_true, and_self]; done) | fail)) only [evS, evZ, evK, evB, evL, evR, Nat.reduceBEq, Nat.reduceAdd, Nat.reduceLeDiff, boxR, rboxR, allocR, fldR, binI, unR, pickR, mknilR, mkslR, buildSlR, buildR, extR, convI, eqB, evU, wrap64]) | (with_reducible intro _) | ((with_reducible apply And.intro); omega)))
    refine callqX_fix (call_flat L24_exampleHolds_ok rfl) ?_
    (repeat (first | (simp (disch := (first | omega | (simp only [evF, evL, implies_true, and_self]; done) | fail)) only [evS, evZ, evK, evB, evL, evR, Nat.reduceBEq, Nat.reduceAdd, Nat.reduceLeDiff, boxR, rboxR, allocR, fldR, binI, unR, pickR, mknilR, mkslR, buildSlR, buildR, extR, convI, eqB, evU, wrap64, rs_L24_DominatorTree]) | (with_reducible intro _) | ((with_reducible apply And.intro); omega)))
    exact ⟨_, .bool _ _, rfl⟩

theorem L24_DominatorFrontiers_ok (g : Gr) : PureFn Try.prog f_L24_DominatorFrontiers [.agg g.cells] (· = .bool true) := by
  refine fn_x cf_L24_DominatorFrontiers rfl ?_
  unfold ac_L24_DominatorFrontiers
  have hB : big = 9223372036854775807 := rfl
  (repeat (first | (simp (disch := (first | omega | (simp only [evF, evL, implies_true, and_self]; done) | fail)) only [evS, evZ, evK, evB, evL, evR, Nat.reduceBEq, Nat.reduceAdd, Nat.reduceLeDiff, boxR, rboxR, allocR, fldR, binI, unR, pickR, mknilR, mkslR, buildSlR, buildR, extR, convI, eqB, evU, wrap64, Gr.cells, Gr.two]) | (with_reducible intro _) | ((with_reducible apply And.intro); omega)))
  refine call_read (D := noR) (L24_few_ok g) (lend_flat rfl) (fun _ h => .inr fun _ _ h => h) ?_
  rintro v ⟨b, rfl, hb⟩
  (repeat (first | (simp (disch := (first | omega | (simp only [evF, evL, implies_true, and_self]; done) | fail)) only [evS, evZ, evK, evB, evL, evR, Nat.reduceBEq, Nat.reduceAdd, Nat.reduceLeDiff, boxR, rboxR, allocR, fldR, binI, unR, pickR, mknilR, mkslR, buildSlR, buildR, extR, convI, eqB, evU, wrap64]) | (with_reducible intro _) | ((with_reducible apply And.intro); omega)))
  (refine condX_intro (fun h => ?_) (fun h => ?_)) <;> (try simp only [decide_eq_true_eq, decide_eq_false_iff_not, Bool.not_eq_true', Bool.not_eq_false', Bool.and_eq_true, Bool.or_eq_true, not_true_eq_false, not_false_eq_true] at h)
  · (repeat (first | (simp (disch := (first | omega | (simp only [evF, evL, implies_true, and_self]; done) | fail)) only [evS, evZ, evK, evB, evL, evR, Nat.reduceBEq, Nat.reduceAdd, Nat.reduceLeDiff, boxR, rboxR, allocR, fldR, binI, unR, pickR, mknilR, mkslR, buildSlR, buildR, extR, convI, eqB, evU, wrap64]) | (with_reducible intro _) | ((with_reducible apply And.intro); omega)))
    refine callX_fix (call_flat L24_exampleHolds_ok rfl) ?_
    (repeat (first | (simp (disch := (first | omega | (simp only [evF, evL, implies_true, and_self]; done) | fail)) only [evS, evZ, evK, evB, evL, evR, Nat.reduceBEq, Nat.reduceAdd, Nat.reduceLeDiff, boxR, rboxR, allocR, fldR, binI, unR, pickR, mknilR, mkslR, buildSlR, buildR, extR, convI, eqB, evU, wrap64, rs_L24_DominatorFrontiers]) | (with_reducible intro _) | ((with_reducible apply And.intro); omega)))
    exact ⟨_, .bool _ _, rfl⟩
  · obtain ⟨hsm, h12⟩ := hb h
    (repeat (first | (simp (disch := (first | omega | (simp only [evF, evL, implies_true, and_self]; done) | fail)) only [evS, evZ, evK, evB, evL, evR, Nat.reduceBEq, Nat.reduceAdd, Nat.reduceLeDiff, boxR, rboxR, allocR, fldR, binI, unR, pickR, mknilR, mkslR, buildSlR, buildR, extR, convI, eqB, evU, wrap64, Gr.two]) | (with_reducible intro _) | ((with_reducible apply And.intro); omega)))
    refine callqX_fix (call_flat (dominator_Frontier_ok g hsm) rfl) ?_
    (repeat (first | (simp (disch := (first | omega | (simp only [evF, evL, implies_true, and_self]; done) | fail)) only [evS, evZ, evK, evB, evL, evR, Nat.reduceBEq, Nat.reduceAdd, Nat.reduceLeDiff, boxR, rboxR, allocR, fldR, binI, unR, pickR, mknilR, mkslR, buildSlR, buildR, extR, convI, eqB, evU, wrap64, Gr.two]) | (with_reducible intro _) | ((with_reducible apply And.intro); omega)))
    refine callqX_fix (call_flat (R24_Frontier_ok g hsm) rfl) ?_
    (repeat (first | (simp (disch := (first | omega | (simp only [evF, evL, implies_true, and_self]; done) | fail)) only [evS, evZ, evK, evB, evL, evR, Nat.reduceBEq, Nat.reduceAdd, Nat.reduceLeDiff, boxR, rboxR, allocR, fldR, binI, unR, pickR, mknilR, mkslR, buildSlR, buildR, extR, convI, eqB, evU, wrap64]) | (with_reducible intro _) | ((with_reducible apply And.intro); omega)))
    refine callqX_fix (call_flat (lists_nn _ _) rfl) ?_
    (repeat (first | (simp (disch := (first | omega | (simp only [evF, evL, implies_true, and_self]; done) | fail)) only [evS, evZ, evK, evB, evL, evR, Nat.reduceBEq, Nat.reduceAdd, Nat.reduceLeDiff, boxR, rboxR, allocR, fldR, binI, unR, pickR, mknilR, mkslR, buildSlR, buildR, extR, convI, eqB, evU, wrap64]) | (with_reducible intro _) | ((with_reducible apply And.intro); omega)))
    refine callqX_fix (call_flat L24_exampleHolds_ok rfl) ?_
    (repeat (first | (simp (disch := (first | omega | (simp only [evF, evL, implies_true, and_self]; done) | fail)) only [evS, evZ, evK, evB, evL, evR, Nat.reduceBEq, Nat.reduceAdd, Nat.reduceLeDiff, boxR, rboxR, allocR, fldR, binI, unR, pickR, mknilR, mkslR, buildSlR, buildR, extR, convI, eqB, evU, wrap64, rs_L24_DominatorFrontiers]) | (with_reducible intro _) | ((with_reducible apply And.intro); omega)))
    exact ⟨_, .bool _ _, rfl⟩

end Go.Ab
