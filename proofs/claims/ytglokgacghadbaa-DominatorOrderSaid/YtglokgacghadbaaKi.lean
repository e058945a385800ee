/-
  Part 9 of the proof: how the calls of this program run, over values instead of memory, and what each function computes.
-/
import Derived.Test.YtglokgacghadbaaKh
set_option linter.unusedVariables false
set_option linter.unusedSimpArgs false

namespace Go.Ab

theorem order_up {E : Adj} (hE : E.ok) (hn : 0 < E.length) {T : Nat → Option Nat} (D : DTree' E 0 (ordL E 0) T) {i : Nat} (h1 : 1 ≤ i) (hi : i < (ordL E 0).length) :
    ∃ c, T (ordL E 0)[i] = some c ∧ c ∈ (ordL E 0).take i := by
  have hR := rpo hE hn
  obtain ⟨t, ht⟩ := hR.head
  have hnd := hR.nd
  have hx : (ordL E 0)[i] ∈ ordL E 0 := List.getElem_mem hi
  have hidx : (ordL E 0).idxOf (ordL E 0)[i] = i := hnd.idxOf_getElem i hi
  have h0 : (ordL E 0).idxOf 0 = 0 := by
    show (dfs E E.length 0 ([], [])).2.reverse.idxOf 0 = 0
    rw [ht]
    simp
  have hne : (ordL E 0)[i] ≠ 0 := fun e => by rw [e, h0] at hidx; omega
  cases hc : T (ordL E 0)[i] with
  | none => exact absurd hc (D.held _ hx hne)
  | some c =>
    obtain ⟨_, h3, h4, _⟩ := D.wt.up _ _ hc
    rw [hidx] at h4
    refine ⟨c, rfl, List.mem_iff_getElem.2 ⟨(ordL E 0).idxOf c, ?_, ?_⟩⟩
    · rw [List.length_take]
      have := idxOf_lt' h3
      omega
    · rw [List.getElem_take]
      exact List.getElem_idxOf (idxOf_lt' h3)

end Go.Ab

namespace Go.Ab

theorem max_of {P : Nat → Prop} {m : Nat → Nat} {B : Nat} (hb : ∀ c, P c → m c < B) : ∀ (d c : Nat), P c → B - m c ≤ d → ∃ c, P c ∧ ∀ x, P x → m x ≤ m c
  | 0, c, hc, h => by have := hb c hc; omega
  | d + 1, c, hc, h => by
    by_cases h1 : ∀ x, P x → m x ≤ m c
    · exact ⟨c, hc, h1⟩
    · simp only [Classical.not_forall] at h1
      obtain ⟨x, hx, h2⟩ := h1
      exact max_of hb d x hx (by have := hb c hc; omega)

theorem ra_last {A : Adj} {r x c k : Nat} (hxc : x ≠ c) (h : RA A (fun _ => False) r k) : RA A (fun y => y = x ∨ y = c) r k ∨ RA A (· = x) c k ∨ RA A (· = c) x k := by
  induction h with
  | refl _ =>
    by_cases h1 : r = x
    · subst h1; exact .inr (.inr (.refl hxc))
    · by_cases h2 : r = c
      · subst h2; exact .inr (.inl (.refl (fun e => hxc e.symm)))
      · exact .inl (.refl (by rintro (h | h); exact h1 h; exact h2 h))
  | @step b k' _ h3 _ ih =>
    by_cases h1 : k' = x
    · subst h1; exact .inr (.inr (.refl hxc))
    · by_cases h2 : k' = c
      · subst h2; exact .inr (.inl (.refl (fun e => hxc e.symm)))
      · rcases ih with ih | ih | ih
        · exact .inl (ih.step h3 (by rintro (h | h); exact h1 h; exact h2 h))
        · exact .inr (.inl (ih.step h3 h1))
        · exact .inr (.inr (ih.step h3 h2))

theorem dm_chain {A : Adj} {r x c k : Nat} (hk : RA A (fun _ => False) r k) (h1 : Dm A r x k) (h2 : Dm A r c k) : Dm A r x c ∨ Dm A r c x := by
  by_cases hxc : x = c
  · subst hxc; exact .inl (Dm.refl _)
  · by_cases h3 : Dm A r x c
    · exact .inl h3
    · refine .inr fun h4 => ?_
      have h3' : RA A (· = x) r c := Classical.not_not.1 h3
      rcases ra_last hxc hk with h | h | h
      · exact h1 (mono_RA (fun _ e => .inl e) h)
      · exact h1 (h3'.trans h)
      · exact h2 (h4.trans h)

theorem dm_trans {A : Adj} {r x c k : Nat} (h1 : Dm A r x c) (h2 : Dm A r c k) (hk : RA A (fun _ => False) r k) : Dm A r x k := by
  intro h
  by_cases hxc : x = c
  · subst hxc; exact h2 h
  · -- a path to k without x: it meets c, so there is a path to c without x
    have key : ∀ {b}, RA A (· = x) r b → RA A (· = c) r b ∨ RA A (· = x) r c := by
      intro b hb
      induction hb with
      | refl h =>
        by_cases hrc : r = c
        · subst hrc; exact .inr (.refl h)
        · exact .inl (.refl hrc)
      | @step b k' hb h3 h4 ih =>
        rcases ih with ih | ih
        · by_cases hkc : k' = c
          · subst hkc; exact .inr (hb.step h3 h4)
          · exact .inl (ih.step h3 hkc)
        · exact .inr ih
    rcases key h with h3 | h3
    · exact h2 h3
    · exact h1 h3

theorem dtree_ex {E : Adj} (hE : E.ok) (hn : 0 < E.length) : ∃ T, DTree' E 0 (ordL E 0) T := by
  obtain ⟨f, L⟩ := (rpo hE hn).lay
  have hm : ∀ x, x ∈ ordL E 0 ↔ RA E (fun _ => False) 0 x := fun x => mem_ordL hE hn
  have L' : Lay E 0 (ordL E 0) f := L
  generalize ordL E 0 = l at *
  have early : ∀ (n k x : Nat), k ∈ l → l.idxOf k ≤ n → l.idxOf k < l.idxOf x → RA E (· = x) 0 k := by
    intro n
    induction n with
    | zero =>
      intro k x hk h1 h2
      have : k = 0 := Classical.byContradiction fun h => by have := L'.pos hk h; omega
      subst this
      exact .refl (fun e => by subst e; omega)
    | succ n ih =>
      intro k x hk h1 h2
      by_cases hk0 : k = 0
      · subst hk0; exact .refl (fun e => by subst e; omega)
      · obtain ⟨h3, h4, h5⟩ := L'.fm k hk hk0
        exact (ih (f k) x h3 (by omega) (by omega)).step h4 (fun e => by subst e; omega)
  have hlt : ∀ {x k}, x ∈ l → k ∈ l → Dm E 0 x k → x ≠ k → l.idxOf x < l.idxOf k := by
    intro x k hx hk hd hne
    rcases Nat.lt_trichotomy (l.idxOf x) (l.idxOf k) with h | h | h
    · exact h
    · exact absurd (L'.inj hx hk h) hne
    · exact absurd (early _ k x hk (Nat.le_refl _) h) hd
  have hroot : ∀ k, Dm E 0 0 k := fun k h => by
    have : ∀ {b}, RA E (· = 0) 0 b → False := by
      intro b hb
      induction hb with
      | refl h => exact h rfl
      | step _ _ _ ih => exact ih
    exact this h
  have hex : ∀ k, k ∈ l ∧ k ≠ 0 → ∃ c, (c ∈ l ∧ c ≠ k ∧ Dm E 0 c k) ∧ ∀ x, (x ∈ l ∧ x ≠ k ∧ Dm E 0 x k) → l.idxOf x ≤ l.idxOf c := fun k hk =>
    max_of (B := l.length) (fun c hc => idxOf_lt' hc.1) l.length 0 ⟨L'.root, fun e => hk.2 e.symm, hroot k⟩ (by omega)
  obtain ⟨T, hT1, hT2⟩ : ∃ T : Nat → Option Nat, (∀ k, ¬ (k ∈ l ∧ k ≠ 0) → T k = none) ∧ ∀ k, k ∈ l ∧ k ≠ 0 → ∃ c, T k = some c ∧ (c ∈ l ∧ c ≠ k ∧ Dm E 0 c k) ∧ ∀ x, (x ∈ l ∧ x ≠ k ∧ Dm E 0 x k) → l.idxOf x ≤ l.idxOf c := by
    have : ∀ k, ∃ o : Option Nat, (¬ (k ∈ l ∧ k ≠ 0) → o = none) ∧ (k ∈ l ∧ k ≠ 0 → ∃ c, o = some c ∧ (c ∈ l ∧ c ≠ k ∧ Dm E 0 c k) ∧ ∀ x, (x ∈ l ∧ x ≠ k ∧ Dm E 0 x k) → l.idxOf x ≤ l.idxOf c) := by
      intro k
      by_cases hk : k ∈ l ∧ k ≠ 0
      · obtain ⟨c, h1, h2⟩ := hex k hk
        exact ⟨some c, fun h => absurd hk h, fun _ => ⟨c, rfl, h1, h2⟩⟩
      · exact ⟨none, fun _ => rfl, fun h => absurd h hk⟩
    obtain ⟨T, hT⟩ := Classical.axiomOfChoice this
    exact ⟨T, fun k => (hT k).1, fun k => (hT k).2⟩
  have hsome : ∀ k c, T k = some c → k ∈ l ∧ k ≠ 0 := fun k c h => Classical.byContradiction fun h2 => by rw [hT1 k h2] at h; cases h
  refine ⟨T, ⟨hT1 0 (fun h => h.2 rfl), fun k j h => ?_⟩, fun k hk hk0 h => ?_, fun k hk x hx => ⟨fun h => ?_, fun h => ?_⟩⟩
  · have hk := hsome k j h
    obtain ⟨c, h1, ⟨h2, h3, h4⟩, _⟩ := hT2 k hk
    rw [h] at h1
    cases h1
    refine ⟨hk.1, h2, hlt h2 hk.1 h4 h3, ?_⟩
    by_cases hj : j = 0
    · exact .inl hj
    · obtain ⟨c2, h5, _⟩ := hT2 j ⟨h2, hj⟩
      exact .inr (by rw [h5]; simp)
  · obtain ⟨c, h1, _⟩ := hT2 k ⟨hk, hk0⟩
    rw [h] at h1
    cases h1
  · have : ∀ {k x}, Ch T k x → k ∈ l → Dm E 0 x k := by
      intro k x h
      induction h with
      | refl => intro _; exact Dm.refl _
      | up h1 _ ih =>
        intro hk
        obtain ⟨c, h2, ⟨h3, h4, h5⟩, _⟩ := hT2 _ (hsome _ _ h1)
        rw [h1] at h2
        cases h2
        exact dm_trans (ih h3) h5 ((hm _).1 hk)
    exact this h hk
  · have : ∀ (n k : Nat), k ∈ l → l.idxOf k ≤ n → ∀ x, x ∈ l → Dm E 0 x k → Ch T k x := by
      intro n
      induction n with
      | zero =>
        intro k hk h1 x hx hd
        by_cases hxk : x = k
        · subst hxk; exact .refl _
        · have := hlt hx hk hd hxk; omega
      | succ n ih =>
        intro k hk h1 x hx hd
        by_cases hxk : x = k
        · subst hxk; exact .refl _
        · have h2 := hlt hx hk hd hxk
          have hk0 : k ≠ 0 := fun e => by subst e; have := L'.pl0; omega
          obtain ⟨c, h3, ⟨h4, h5, h6⟩, h7⟩ := hT2 k ⟨hk, hk0⟩
          have h8 := hlt h4 hk h6 h5
          refine .up h3 (ih c h4 (by omega) x hx ?_)
          rcases dm_chain ((hm k).1 hk) hd h6 with h9 | h9
          · exact h9
          · by_cases hxc : x = c
            · subst hxc; exact Dm.refl _
            · have h10 := hlt h4 hx h9 (fun e => hxc e.symm)
              have h11 := h7 x ⟨hx, hxk, hd⟩
              omega
    exact this _ k hk (Nat.le_refl _) x hx h

end Go.Ab

namespace Go.Ab
open Go.RowKit Go.Proofs

theorem nats_nn (a b : List Nat) : PureFn Try.prog f_R24_Ints [encNats a, encNats b] (· = .bool (decide ((a.map fun (n : Nat) => (n : Int)) = b.map fun (n : Nat) => (n : Int)))) := by
  rw [← encInts_nats, ← encInts_nats]
  exact R24_Ints_ok _ _

theorem sliceR_to {sz s : Nat} {α : Type} {f : α → List AV} {l : List α} {k : IntKind} {b : Int} {H : AH} {nx : Nat} : sliceR s (encL sz f l) none (some (.int k b)) H nx = ⟨sz = s ∧ (0 : Int) ≤ 0 ∧ 0 ≤ b ∧ b ≤ l.length, True, .sl s (b - 0).toNat (fun i j => ((l.map f).getD ((0 : Int).toNat + i) []).getD j .undef), H, nx⟩ := rfl

theorem vw_take {H H2 : AH} {σ : Nat → Nat → Option (Nat × Nat × Nat)} {D : Nat → Nat → Prop} {t : Bool} {l : List Nat} {i : Nat} (hi : i ≤ l.length) {n z : Nat} (hn : n = i) (hz : z = 0) :
    Vw H H2 σ D t (.sl 1 n (fun a j => ((l.map fun (n : Nat) => [.int .i64 (n : Int)]).getD (z + a) []).getD j .undef)) (encNats (l.take i)) := by
  subst hn hz
  have e : (l.take n).length = n := by rw [List.length_take]; omega
  unfold encNats encL
  rw [e]
  refine .slf _ _ _ _ _ (fun a j ha hj => ?_)
  have e2 : (List.map (fun (n : Nat) => [AV.int .i64 (n : Int)]) (List.take n l)).getD a [] = (l.map fun (n : Nat) => [AV.int .i64 (n : Int)]).getD (0 + a) [] := by
    rw [Nat.zero_add, List.map_take, List.getD_eq_getElem?_getD, List.getElem?_take_of_lt ha, List.getD_eq_getElem?_getD]
  rw [e2]
  obtain rfl : j = 0 := by omega
  have ha2 : 0 + a < l.length := by omega
  rw [getD_map ha2]
  exact .int _ _ _

theorem L24_DominatorOrder_ok (g : Gr) : PureFn Try.prog f_L24_DominatorOrder [.agg g.cells] (· = .bool true) := by
  refine fn_x cf_L24_DominatorOrder rfl ?_
  unfold ac_L24_DominatorOrder
  have hB : big = 9223372036854775807 := rfl
  (repeat (first | (simp (disch := (first | omega | (simp only [evF, evL, implies_true, and_self]; done) | fail)) only [evS, evZ, evK, evB, evL, evR, Nat.reduceBEq, Nat.reduceAdd, Nat.reduceLeDiff, boxR, rboxR, allocR, fldR, binI, unR, pickR, mknilR, mkslR, buildSlR, buildR, extR, convI, eqB, evU, wrap64, Gr.cells, Gr.two]) | (with_reducible intro _) | ((with_reducible apply And.intro); omega)))
  refine call_read (D := noR) (L24_few_ok g) (lend_flat rfl) (fun _ h => .inr fun _ _ h => h) ?_
  rintro v ⟨b, rfl, hb⟩
  (repeat (first | (simp (disch := (first | omega | (simp only [evF, evL, implies_true, and_self]; done) | fail)) only [evS, evZ, evK, evB, evL, evR, Nat.reduceBEq, Nat.reduceAdd, Nat.reduceLeDiff, boxR, rboxR, allocR, fldR, binI, unR, pickR, mknilR, mkslR, buildSlR, buildR, extR, convI, eqB, evU, wrap64]) | (with_reducible intro _) | ((with_reducible apply And.intro); omega)))
  (refine condX_intro (fun h => ?_) (fun h => ?_)) <;> (try simp only [decide_eq_true_eq, decide_eq_false_iff_not, Bool.not_eq_true', Bool.not_eq_false', Bool.and_eq_true, Bool.or_eq_true, not_true_eq_false, not_false_eq_true] at h)
  · (repeat (first | (simp (disch := (first | omega | (simp only [evF, evL, implies_true, and_self]; done) | fail)) only [evS, evZ, evK, evB, evL, evR, Nat.reduceBEq, Nat.reduceAdd, Nat.reduceLeDiff, boxR, rboxR, allocR, fldR, binI, unR, pickR, mknilR, mkslR, buildSlR, buildR, extR, convI, eqB, evU, wrap64]) | (with_reducible intro _) | ((with_reducible apply And.intro); omega)))
    refine callX_fix (call_flat L24_exampleHolds_ok rfl) ?_
    (repeat (first | (simp (disch := (first | omega | (simp only [evF, evL, implies_true, and_self]; done) | fail)) only [evS, evZ, evK, evB, evL, evR, Nat.reduceBEq, Nat.reduceAdd, Nat.reduceLeDiff, boxR, rboxR, allocR, fldR, binI, unR, pickR, mknilR, mkslR, buildSlR, buildR, extR, convI, eqB, evU, wrap64, rs_L24_DominatorOrder]) | (with_reducible intro _) | ((with_reducible apply And.intro); omega)))
    exact ⟨_, .bool _ _, rfl⟩
  obtain ⟨hsm, h12⟩ := hb h
  have hlen := g.E_len
  have hok := g.E_ok
  (repeat (first | (simp (disch := (first | omega | (simp only [evF, evL, implies_true, and_self]; done) | fail)) only [evS, evZ, evK, evB, evL, evR, Nat.reduceBEq, Nat.reduceAdd, Nat.reduceLeDiff, boxR, rboxR, allocR, fldR, binI, unR, pickR, mknilR, mkslR, buildSlR, buildR, extR, convI, eqB, evU, wrap64, Gr.two]) | (with_reducible intro _) | ((with_reducible apply And.intro); omega)))
  refine callqX_fix (call_flat (dominator_Order_ok g hsm) rfl) ?_
  (repeat (first | (simp (disch := (first | omega | (simp only [evF, evL, implies_true, and_self]; done) | fail)) only [evS, evZ, evK, evB, evL, evR, Nat.reduceBEq, Nat.reduceAdd, Nat.reduceLeDiff, boxR, rboxR, allocR, fldR, binI, unR, pickR, mknilR, mkslR, buildSlR, buildR, extR, convI, eqB, evU, wrap64, Gr.two]) | (with_reducible intro _) | ((with_reducible apply And.intro); omega)))
  refine callqX_fix (call_flat (dominator_Reachable_ok g hsm) rfl) ?_
  (repeat (first | (simp (disch := (first | omega | (simp only [evF, evL, implies_true, and_self]; done) | fail)) only [evS, evZ, evK, evB, evL, evR, Nat.reduceBEq, Nat.reduceAdd, Nat.reduceLeDiff, boxR, rboxR, allocR, fldR, binI, unR, pickR, mknilR, mkslR, buildSlR, buildR, extR, convI, eqB, evU, wrap64, Gr.two]) | (with_reducible intro _) | ((with_reducible apply And.intro); omega)))
  refine callqX_fix (call_flat (dominator_Tree_ok g hsm) rfl) ?_
  have hRR := R24_Reachable_ok g hsm
  have hRO := R24_Order_ok g hsm
  have hnd := orderL_nd hok
  have hnl := hnd.len
  have hrl : (reachL g.E).length = g.E.length := by simp [reachL]
  have htl : (treeL g.E).length = g.E.length := by simp [treeL]
  have hin : ∀ b (h : b < (reachL g.E).length), (reachL g.E)[b] = decide (b ∈ orderL g.E) := fun b h => by
    have e : (reachL g.E)[b]? = some (decide (b ∈ orderL g.E)) := by
      rw [← inB_order hok]
      simp [inB, mapR, show b < g.E.length by omega]
    rw [List.getElem?_eq_getElem h] at e
    exact Option.some.inj e
  have hup : ∀ i (h1 : 1 ≤ i) (hi : i < (orderL g.E).length) (hx : (orderL g.E)[i] < (treeL g.E).length), ∃ c : Nat, (treeL g.E)[(orderL g.E)[i]] = (c : Int) ∧ c ∈ (orderL g.E).take i := by
    by_cases hn : 0 < g.E.length
    · obtain ⟨T, D⟩ := dtree_ex hok hn
      have h1 : orderL g.E = ordL g.E 0 := by unfold orderL ordL; rw [if_neg (by omega)]
      rw [h1]
      intro i h2 hi hx
      obtain ⟨c, h3, h4⟩ := order_up hok hn D h2 hi
      refine ⟨c, ?_, h4⟩
      have e : (treeL g.E)[(ordL g.E 0)[i]]? = some (tI (T (ordL g.E 0)[i])) := by
        rw [← treeL_eq hok hn D]
        simp [outI, show (ordL g.E 0)[i] < g.E.length by omega]
      rw [List.getElem?_eq_getElem hx, h3] at e
      exact Option.some.inj e
    · intro i h1 hi
      omega
  generalize orderL g.E = l at *
  generalize reachL g.E = r at *
  generalize treeL g.E = t at *
  (repeat (first | (simp (disch := (first | omega | (simp only [evF, evL, implies_true, and_self]; done) | fail)) only [evS, evZ, evK, evB, evL, evR, Nat.reduceBEq, Nat.reduceAdd, Nat.reduceLeDiff, boxR, rboxR, allocR, fldR, binI, unR, pickR, mknilR, mkslR, buildSlR, buildR, extR, convI, eqB, evU, wrap64, Gr.two]) | (with_reducible intro _) | ((with_reducible apply And.intro); omega)))
  refine callX_fix (call_flat hRR rfl) ?_
  (repeat (first | (simp (disch := (first | omega | (simp only [evF, evL, implies_true, and_self]; done) | fail)) only [evS, evZ, evK, evB, evL, evR, Nat.reduceBEq, Nat.reduceAdd, Nat.reduceLeDiff, boxR, rboxR, allocR, fldR, binI, unR, pickR, mknilR, mkslR, buildSlR, buildR, extR, convI, eqB, evU, wrap64, Gr.two]) | (with_reducible intro _) | ((with_reducible apply And.intro); omega)))
  refine callX_fix (call_flat hRO rfl) ?_
  (repeat (first | (simp (disch := (first | omega | (simp only [evF, evL, implies_true, and_self]; done) | fail)) only [evS, evZ, evK, evB, evL, evR, Nat.reduceBEq, Nat.reduceAdd, Nat.reduceLeDiff, boxR, rboxR, allocR, fldR, binI, unR, pickR, mknilR, mkslR, buildSlR, buildR, extR, convI, eqB, evU, wrap64]) | (with_reducible intro _) | ((with_reducible apply And.intro); omega)))
  refine callX_fix (call_flat (nats_nn _ _) rfl) ?_
  have d1 : ∀ n : Nat, decide ((n : Int) ≠ n) = false := fun n => by simp
  have d2 : decide ((t.length : Int) ≠ r.length) = false := decide_eq_false (by omega)
  (repeat (first | (simp (disch := (first | omega | (simp only [evF, evL, implies_true, and_self]; done) | fail)) only [evS, evZ, evK, evB, evL, evR, Nat.reduceBEq, Nat.reduceAdd, Nat.reduceLeDiff, boxR, rboxR, allocR, fldR, binI, unR, pickR, mknilR, mkslR, buildSlR, buildR, extR, convI, eqB, evU, wrap64, encBools, encInts, d1, d2]) | (with_reducible intro _) | ((with_reducible apply And.intro); omega)))
  refine loopX_intro (fun b : Nat => ([(3, encNats l), (4, encBools r), (5, encInts t), (6, encBools r), (7, .int .i64 b)], [])) 0 (fun b => b ≤ r.length) (fun b => r.length - b) 0 (Nat.zero_le _) (Ent.keep rfl (by (try simp [subK, Kn.get, beq_eq]) <;> (repeat' with_reducible apply And.intro) <;> first | rfl | omega | (simp; done))) ?_
  intro b hb wf
  unfold ac_L24_DominatorOrder_l0
  (repeat (first | (simp (disch := (first | omega | (simp only [evF, evL, implies_true, and_self]; done) | fail)) only [evS, evZ, evK, evB, evL, evR, Nat.reduceBEq, Nat.reduceAdd, Nat.reduceLeDiff, boxR, rboxR, allocR, fldR, binI, unR, pickR, mknilR, mkslR, buildSlR, buildR, extR, convI, eqB, evU, wrap64, encBools, encInts]) | (with_reducible intro _) | ((with_reducible apply And.intro); omega)))
  (refine condX_intro (fun h2 => ?_) (fun h2 => ?_)) <;> (try simp only [decide_eq_true_eq, decide_eq_false_iff_not, Bool.not_eq_true', Bool.not_eq_false', Bool.and_eq_true, Bool.or_eq_true, not_true_eq_false, not_false_eq_true] at h2)
  · have hb' : b < r.length := by omega
    (repeat (first | (simp (disch := (first | omega | (simp only [evF, evL, implies_true, and_self]; done) | fail)) only [evS, evZ, evK, evB, evL, evR, Nat.reduceBEq, Nat.reduceAdd, Nat.reduceLeDiff, boxR, rboxR, allocR, fldR, binI, unR, pickR, mknilR, mkslR, buildSlR, buildR, extR, convI, eqB, evU, wrap64, getD_map hb', hin, bne_self_eq_false]) | (with_reducible intro _) | ((with_reducible apply And.intro); omega)))
    refine callqX_fix (hasN_flat (l := l)) ?_
    generalize decide (b ∈ l) = x
    (repeat (first | (simp (disch := (first | omega | (simp only [evF, evL, implies_true, and_self]; done) | fail)) only [evS, evZ, evK, evB, evL, evR, Nat.reduceBEq, Nat.reduceAdd, Nat.reduceLeDiff, boxR, rboxR, allocR, fldR, binI, unR, pickR, mknilR, mkslR, buildSlR, buildR, extR, convI, eqB, evU, wrap64, bne_self_eq_false]) | (with_reducible intro _) | ((with_reducible apply And.intro); omega)))
    exact ⟨b + 1, by omega, by omega, Ent.keep rfl (by (try simp [subK, Kn.get, beq_eq]) <;> (repeat' with_reducible apply And.intro) <;> first | rfl | omega | (simp; done))⟩
  unfold ac_L24_DominatorOrder_k3
  (repeat (first | (simp (disch := (first | omega | (simp only [evF, evL, implies_true, and_self]; done) | fail)) only [evS, evZ, evK, evB, evL, evR, Nat.reduceBEq, Nat.reduceAdd, Nat.reduceLeDiff, boxR, rboxR, allocR, fldR, binI, unR, pickR, mknilR, mkslR, buildSlR, buildR, extR, convI, eqB, evU, wrap64]) | (with_reducible intro _) | ((with_reducible apply And.intro); omega)))
  refine loopX_intro (fun i : Nat => ([(3, encNats l), (5, encInts t), (8, .int .i64 i)], [])) 0 (fun i => 1 ≤ i ∧ (i ≤ l.length ∨ i = 1)) (fun i => l.length - i) 1 ⟨Nat.le_refl _, .inr rfl⟩ (Ent.keep rfl (by (try simp [subK, Kn.get, beq_eq]) <;> (repeat' with_reducible apply And.intro) <;> first | rfl | omega | (simp; done))) ?_
  rintro i ⟨hi1, hi2⟩ wf
  unfold ac_L24_DominatorOrder_l1
  (repeat (first | (simp (disch := (first | omega | (simp only [evF, evL, implies_true, and_self]; done) | fail)) only [evS, evZ, evK, evB, evL, evR, Nat.reduceBEq, Nat.reduceAdd, Nat.reduceLeDiff, boxR, rboxR, allocR, fldR, binI, unR, pickR, mknilR, mkslR, buildSlR, buildR, extR, convI, eqB, evU, wrap64, encNats, encInts]) | (with_reducible intro _) | ((with_reducible apply And.intro); omega)))
  (refine condX_intro (fun h3 => ?_) (fun h3 => ?_)) <;> (try simp only [decide_eq_true_eq, decide_eq_false_iff_not, Bool.not_eq_true', Bool.not_eq_false', Bool.and_eq_true, Bool.or_eq_true, not_true_eq_false, not_false_eq_true] at h3)
  · have hi' : i < l.length := by omega
    have hx := hnd.lt _ (List.getElem_mem hi')
    have hxt : l[i] < t.length := by omega
    obtain ⟨c, hc1, hc2⟩ := hup i hi1 hi' hxt
    (repeat (first | (simp (disch := (first | omega | (simp only [evF, evL, implies_true, and_self]; done) | fail)) only [evS, evZ, evK, evB, evL, evR, Nat.reduceBEq, Nat.reduceAdd, Nat.reduceLeDiff, boxR, rboxR, allocR, fldR, binI, unR, pickR, mknilR, mkslR, buildSlR, buildR, extR, convI, eqB, evU, wrap64, sliceR_to, getD_map hi', getD_map hxt, hc1]) | (with_reducible intro _) | ((with_reducible apply And.intro); omega)))
    refine callqX_fix (call_fix (D := noR) (R24_HasN_ok (l.take i) c) (.cons (vw_take (by omega) (by omega) rfl) (.cons (.int _ _ _) .nil)) (.inl rfl)) ?_
    rw [decide_eq_true hc2]
    (repeat (first | (simp (disch := (first | omega | (simp only [evF, evL, implies_true, and_self]; done) | fail)) only [evS, evZ, evK, evB, evL, evR, Nat.reduceBEq, Nat.reduceAdd, Nat.reduceLeDiff, boxR, rboxR, allocR, fldR, binI, unR, pickR, mknilR, mkslR, buildSlR, buildR, extR, convI, eqB, evU, wrap64]) | (with_reducible intro _) | ((with_reducible apply And.intro); omega)))
    exact ⟨i + 1, ⟨by omega, by omega⟩, by omega, Ent.keep rfl (by (try simp [subK, Kn.get, beq_eq]) <;> (repeat' with_reducible apply And.intro) <;> first | rfl | omega | (simp; done))⟩
  · unfold ac_L24_DominatorOrder_k2
    (repeat (first | (simp (disch := (first | omega | (simp only [evF, evL, implies_true, and_self]; done) | fail)) only [evS, evZ, evK, evB, evL, evR, Nat.reduceBEq, Nat.reduceAdd, Nat.reduceLeDiff, boxR, rboxR, allocR, fldR, binI, unR, pickR, mknilR, mkslR, buildSlR, buildR, extR, convI, eqB, evU, wrap64]) | (with_reducible intro _) | ((with_reducible apply And.intro); omega)))
    refine callX_fix (call_flat L24_exampleHolds_ok rfl) ?_
    (repeat (first | (simp (disch := (first | omega | (simp only [evF, evL, implies_true, and_self]; done) | fail)) only [evS, evZ, evK, evB, evL, evR, Nat.reduceBEq, Nat.reduceAdd, Nat.reduceLeDiff, boxR, rboxR, allocR, fldR, binI, unR, pickR, mknilR, mkslR, buildSlR, buildR, extR, convI, eqB, evU, wrap64, rs_L24_DominatorOrder]) | (with_reducible intro _) | ((with_reducible apply And.intro); omega)))
    exact ⟨_, .bool _ _, rfl⟩

end Go.Ab
