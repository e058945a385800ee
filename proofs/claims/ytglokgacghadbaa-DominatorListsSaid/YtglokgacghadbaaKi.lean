/-
  Part 9 of the proof: how the calls of this program run, over values instead of memory, and what each function computes.
-/
import Derived.Test.YtglokgacghadbaaKh
set_option linter.unusedVariables false
set_option linter.unusedSimpArgs false

namespace Go.Ab
open Go.RowKit Go.Proofs Go.Proofs.Ytglokgacghadbaa Go.ChangeShapes Go.WideShapes

theorem open_row {HH : Type} {enc : TypeId × Value → HH} {w : World} {base b2 : Nat} {spare : Nat → Bool} {held : Bool} {L : Nat → Prop} (hL : ∀ b, ¬ L b) {t e : TypeId} {k : IntKind} (ht : Try.prog.underlying t = some (.slice e)) (he : Try.prog.underlying e = some (.int k)) (hs : Try.prog.cellsOf e = 1)
    {v : Value} {d : DataW HH} {ps : List MemPlace} (hv : Value.okWide Try.prog w .any base t v) (h : DataW.Trod enc Try.prog w b2 spare held t v d ps) : ∃ l : List Int, ∀ ι, VR w L ι v (encL 1 (fun n => [.int k n]) l) := by
  obtain ⟨a0, len, cap, rfl⟩ := okWide_slice ht hv
  obtain ⟨fuel, hf⟩ := h
  obtain ⟨l, v2, h1, _, h3⟩ := vr_ints ht he hs hL hf
  have : v2 = .slice a0 len cap := by
    simp [Value.cells] at h1
    exact h1.symm
  subst this
  exact ⟨l, h3⟩

end Go.Ab

namespace Go.Ab

inductive Hop (t : List Int) (a : Int) : Nat → Int → Prop
  | here : 0 ≤ a → a < t.length → Hop t a 0 a
  | next {k : Nat} {c : Int} : 0 ≤ c → c < t.length → a ≠ c → Hop t a k (t.getD c.toNat 0) → Hop t a (k + 1) c

theorem domGo_hop {t : List Int} {a : Int} : ∀ (f : Nat) (c : Int), domGo t a f c = true ↔ ∃ k, k < f ∧ Hop t a k c
  | 0, c => ⟨fun h => (by cases h), fun ⟨k, h, _⟩ => (by omega)⟩
  | f + 1, c => by
    simp only [domGo]
    by_cases hc : 0 ≤ c ∧ c < t.length
    · rw [if_pos hc]
      by_cases ha : a = c
      · rw [if_pos ha]
        subst ha
        exact ⟨fun _ => ⟨0, Nat.succ_pos _, .here hc.1 hc.2⟩, fun _ => rfl⟩
      · rw [if_neg ha, domGo_hop f]
        constructor
        · rintro ⟨k, h1, h2⟩
          exact ⟨k + 1, by omega, .next hc.1 hc.2 ha h2⟩
        · rintro ⟨k, h1, h2⟩
          cases h2 with
          | here => exact absurd rfl ha
          | next _ _ _ h3 => exact ⟨_, by omega, h3⟩
    · rw [if_neg hc]
      refine ⟨fun h => (by cases h), fun ⟨k, _, h⟩ => ?_⟩
      cases h with
      | here h1 h2 => exact absurd ⟨h1, h2⟩ hc
      | next h1 h2 => exact absurd ⟨h1, h2⟩ hc

theorem Hop.uniq {t : List Int} {a : Int} : ∀ {k j : Nat} {c : Int}, Hop t a k c → Hop t a j c → k = j
  | 0, 0, _, _, _ => rfl
  | 0, j + 1, _, .here _ _, .next _ _ h _ => absurd rfl h
  | k + 1, 0, _, .next _ _ h _, .here _ _ => absurd rfl h
  | k + 1, j + 1, _, .next _ _ _ h1, .next _ _ _ h2 => by rw [Hop.uniq h1 h2]

theorem Hop.seen {t : List Int} {a : Int} : ∀ {k : Nat} {c : Int}, Hop t a k c → ∃ l : List Nat, l.length = k + 1 ∧ l.Nodup ∧ ∀ x ∈ l, x < t.length ∧ ∃ j, j ≤ k ∧ Hop t a j x
  | 0, _, .here h1 h2 => by
    refine ⟨[a.toNat], rfl, by simp, fun x hx => ?_⟩
    rw [List.mem_singleton.1 hx]
    refine ⟨by omega, 0, Nat.le_refl _, ?_⟩
    rw [show ((a.toNat : Nat) : Int) = a by omega]
    exact .here h1 h2
  | k + 1, c, .next h1 h2 h3 h4 => by
    obtain ⟨l, e1, e2, e3⟩ := h4.seen
    have hc : ((c.toNat : Nat) : Int) = c := by omega
    refine ⟨c.toNat :: l, by simp [e1], List.nodup_cons.2 ⟨fun hm => ?_, e2⟩, fun x hx => ?_⟩
    · obtain ⟨_, j, h5, h6⟩ := e3 _ hm
      rw [hc] at h6
      have := Hop.uniq h6 (.next h1 h2 h3 h4)
      omega
    · rcases List.mem_cons.1 hx with rfl | hx
      · exact ⟨by omega, k + 1, Nat.le_refl _, by rw [hc]; exact .next h1 h2 h3 h4⟩
      · obtain ⟨h5, j, h6, h7⟩ := e3 x hx
        exact ⟨h5, j, by omega, h7⟩

theorem Hop.lt {t : List Int} {a c : Int} {k : Nat} (h : Hop t a k c) : k < t.length := by
  obtain ⟨l, e1, e2, e3⟩ := h.seen
  have := nodup_sub_len (m := List.range t.length) e2 (fun x hx => List.mem_range.2 (e3 x hx).1)
  rw [List.length_range] at this
  omega

theorem Hop.through {t : List Int} {a b : Int} : ∀ {k : Nat} {c : Int}, Hop t b k c → (∃ m, Hop t a m b) → ∃ m, Hop t a m c
  | 0, _, .here _ _, h => h
  | k + 1, c, .next h1 h2 _ h4, h => by
    obtain ⟨m, h5⟩ := h4.through h
    by_cases ha : a = c
    · subst ha; exact ⟨0, .here h1 h2⟩
    · exact ⟨m + 1, .next h1 h2 ha h5⟩

theorem domL_hop {t : List Int} {a c : Int} : domL t a c = true ↔ ∃ k, Hop t a k c := by
  unfold domL
  by_cases ha : a < 0 ∨ (t.length : Int) ≤ a
  · rw [if_pos ha]
    refine ⟨fun h => (by cases h), fun ⟨k, h⟩ => ?_⟩
    exfalso
    have : ∀ {k : Nat} {c : Int}, Hop t a k c → 0 ≤ a ∧ a < t.length := by
      intro k c h
      induction h with
      | here h1 h2 => exact ⟨h1, h2⟩
      | next _ _ _ _ ih => exact ih
    have := this h
    omega
  · rw [if_neg ha, domGo_hop]
    exact ⟨fun ⟨k, _, h⟩ => ⟨k, h⟩, fun ⟨k, h⟩ => ⟨k, by have := h.lt; omega, h⟩⟩

theorem domL_self {t : List Int} {a : Int} : domL t a a = decide (0 ≤ a ∧ a < t.length) := by
  rw [Bool.eq_iff_iff, decide_eq_true_iff, domL_hop]
  refine ⟨fun ⟨k, h⟩ => ?_, fun h => ⟨0, .here h.1 h.2⟩⟩
  cases h with
  | here h1 h2 => exact ⟨h1, h2⟩
  | next h1 h2 => exact ⟨h1, h2⟩

theorem domL_trans {t : List Int} {a b c : Int} (h1 : domL t a b = true) (h2 : domL t b c = true) : domL t a c = true := by
  obtain ⟨k, h3⟩ := domL_hop.1 h2
  exact domL_hop.2 (h3.through (domL_hop.1 h1))

end Go.Ab

namespace Go.Ab
open Go.RowKit Go.Proofs

theorem L24_DominatorLists_ok (t : List Int) (a b : Int) : PureFn Try.prog f_L24_DominatorLists [encInts t, .int .i64 a, .int .i64 b] (· = .bool true) := by
  refine fn_x cf_L24_DominatorLists rfl ?_
  unfold ac_L24_DominatorLists
  have hB : big = 9223372036854775807 := rfl
  (repeat (first | (simp (disch := (first | omega | (simp only [evF, evL, implies_true, and_self]; done) | fail)) only [evS, evZ, evK, evB, evL, evR, Nat.reduceBEq, Nat.reduceAdd, Nat.reduceLeDiff, boxR, rboxR, allocR, fldR, binI, unR, pickR, mknilR, mkslR, buildSlR, buildR, extR, convI, eqB, evU, wrap64, encInts]) | (with_reducible intro _) | ((with_reducible apply And.intro); omega)))
  (refine condX_intro (fun h => ?_) (fun h => ?_)) <;> (try simp only [decide_eq_true_eq, decide_eq_false_iff_not, Bool.not_eq_true', Bool.not_eq_false', Bool.and_eq_true, Bool.or_eq_true, not_true_eq_false, not_false_eq_true] at h)
  · (repeat (first | (simp (disch := (first | omega | (simp only [evF, evL, implies_true, and_self]; done) | fail)) only [evS, evZ, evK, evB, evL, evR, Nat.reduceBEq, Nat.reduceAdd, Nat.reduceLeDiff, boxR, rboxR, allocR, fldR, binI, unR, pickR, mknilR, mkslR, buildSlR, buildR, extR, convI, eqB, evU, wrap64]) | (with_reducible intro _) | ((with_reducible apply And.intro); omega)))
    refine callX_fix (call_flat L24_exampleHolds_ok rfl) ?_
    (repeat (first | (simp (disch := (first | omega | (simp only [evF, evL, implies_true, and_self]; done) | fail)) only [evS, evZ, evK, evB, evL, evR, Nat.reduceBEq, Nat.reduceAdd, Nat.reduceLeDiff, boxR, rboxR, allocR, fldR, binI, unR, pickR, mknilR, mkslR, buildSlR, buildR, extR, convI, eqB, evU, wrap64, rs_L24_DominatorLists]) | (with_reducible intro _) | ((with_reducible apply And.intro); omega)))
    exact ⟨_, .bool _ _, rfl⟩
  have ht : t.length ≤ 1000 := by omega
  have dd := fun (x y : Int) => dominator_Dominates_ok t x y ht
  have rd := fun (x y : Int) => R24_Dominates_ok t x y ht
  unfold encInts at dd rd
  (repeat (first | (simp (disch := (first | omega | (simp only [evF, evL, implies_true, and_self]; done) | fail)) only [evS, evZ, evK, evB, evL, evR, Nat.reduceBEq, Nat.reduceAdd, Nat.reduceLeDiff, boxR, rboxR, allocR, fldR, binI, unR, pickR, mknilR, mkslR, buildSlR, buildR, extR, convI, eqB, evU, wrap64]) | (with_reducible intro _) | ((with_reducible apply And.intro); omega)))
  refine callX_fix (call_flat (dd a b) rfl) ?_
  (repeat (first | (simp (disch := (first | omega | (simp only [evF, evL, implies_true, and_self]; done) | fail)) only [evS, evZ, evK, evB, evL, evR, Nat.reduceBEq, Nat.reduceAdd, Nat.reduceLeDiff, boxR, rboxR, allocR, fldR, binI, unR, pickR, mknilR, mkslR, buildSlR, buildR, extR, convI, eqB, evU, wrap64]) | (with_reducible intro _) | ((with_reducible apply And.intro); omega)))
  refine callX_fix (call_flat (rd a b) rfl) ?_
  generalize hx : domL t a b = x
  (repeat (first | (simp (disch := (first | omega | (simp only [evF, evL, implies_true, and_self]; done) | fail)) only [evS, evZ, evK, evB, evL, evR, Nat.reduceBEq, Nat.reduceAdd, Nat.reduceLeDiff, boxR, rboxR, allocR, fldR, binI, unR, pickR, mknilR, mkslR, buildSlR, buildR, extR, convI, eqB, evU, wrap64, bne_self_eq_false]) | (with_reducible intro _) | ((with_reducible apply And.intro); omega)))
  refine callX_fix (call_flat (dd a a) rfl) ?_
  rw [domL_self]
  have fin : loopX Try.prog 0 ac_L24_DominatorLists_l0 (blockQ 0 (seqQ Try.prog 0 ac_L24_DominatorLists_k1 (retK rs_L24_DominatorLists fun v H' x => ∃ a, Frz H' v a ∧ a = AV.bool true)))
      [(0, encL 1 (fun n => [AV.int IntKind.i64 n]) t), (1, .int .i64 a), (2, .int .i64 b), (7, .bool x), (8, .int .i64 0)] [] 0 := by
    refine loopX_intro (fun c : Nat => ([(0, encL 1 (fun n => [AV.int IntKind.i64 n]) t), (1, .int .i64 a), (2, .int .i64 b), (7, .bool x), (8, .int .i64 c)], [])) 0 (fun c => c ≤ t.length) (fun c => t.length - c) 0 (Nat.zero_le _) (Ent.keep rfl (by (try simp [subK, Kn.get, beq_eq]) <;> (repeat' with_reducible apply And.intro) <;> first | rfl | omega | (simp; done))) ?_
    intro c hc wf
    unfold ac_L24_DominatorLists_l0
    (repeat (first | (simp (disch := (first | omega | (simp only [evF, evL, implies_true, and_self]; done) | fail)) only [evS, evZ, evK, evB, evL, evR, Nat.reduceBEq, Nat.reduceAdd, Nat.reduceLeDiff, boxR, rboxR, allocR, fldR, binI, unR, pickR, mknilR, mkslR, buildSlR, buildR, extR, convI, eqB, evU, wrap64]) | (with_reducible intro _) | ((with_reducible apply And.intro); omega)))
    (refine condX_intro (fun h2 => ?_) (fun h2 => ?_)) <;> (try simp only [decide_eq_true_eq, decide_eq_false_iff_not, Bool.not_eq_true', Bool.not_eq_false', Bool.and_eq_true, Bool.or_eq_true, not_true_eq_false, not_false_eq_true] at h2)
    · cases x with
      | false =>
        (repeat (first | (simp (disch := (first | omega | (simp only [evF, evL, implies_true, and_self]; done) | fail)) only [evS, evZ, evK, evB, evL, evR, Nat.reduceBEq, Nat.reduceAdd, Nat.reduceLeDiff, boxR, rboxR, allocR, fldR, binI, unR, pickR, mknilR, mkslR, buildSlR, buildR, extR, convI, eqB, evU, wrap64]) | (with_reducible intro _) | ((with_reducible apply And.intro); omega)))
        exact ⟨c + 1, by omega, by omega, Ent.keep rfl (by (try simp [subK, Kn.get, beq_eq]) <;> (repeat' with_reducible apply And.intro) <;> first | rfl | omega | (simp; done))⟩
      | true =>
        (repeat (first | (simp (disch := (first | omega | (simp only [evF, evL, implies_true, and_self]; done) | fail)) only [evS, evZ, evK, evB, evL, evR, Nat.reduceBEq, Nat.reduceAdd, Nat.reduceLeDiff, boxR, rboxR, allocR, fldR, binI, unR, pickR, mknilR, mkslR, buildSlR, buildR, extR, convI, eqB, evU, wrap64]) | (with_reducible intro _) | ((with_reducible apply And.intro); omega)))
        refine callX_fix (call_flat (dd b c) rfl) ?_
        cases hy : domL t b c with
        | false =>
          (repeat (first | (simp (disch := (first | omega | (simp only [evF, evL, implies_true, and_self]; done) | fail)) only [evS, evZ, evK, evB, evL, evR, Nat.reduceBEq, Nat.reduceAdd, Nat.reduceLeDiff, boxR, rboxR, allocR, fldR, binI, unR, pickR, mknilR, mkslR, buildSlR, buildR, extR, convI, eqB, evU, wrap64]) | (with_reducible intro _) | ((with_reducible apply And.intro); omega)))
          exact ⟨c + 1, by omega, by omega, Ent.keep rfl (by (try simp [subK, Kn.get, beq_eq]) <;> (repeat' with_reducible apply And.intro) <;> first | rfl | omega | (simp; done))⟩
        | true =>
          (repeat (first | (simp (disch := (first | omega | (simp only [evF, evL, implies_true, and_self]; done) | fail)) only [evS, evZ, evK, evB, evL, evR, Nat.reduceBEq, Nat.reduceAdd, Nat.reduceLeDiff, boxR, rboxR, allocR, fldR, binI, unR, pickR, mknilR, mkslR, buildSlR, buildR, extR, convI, eqB, evU, wrap64]) | (with_reducible intro _) | ((with_reducible apply And.intro); omega)))
          refine callX_fix (call_flat (dd a c) rfl) ?_
          rw [domL_trans hx hy]
          (repeat (first | (simp (disch := (first | omega | (simp only [evF, evL, implies_true, and_self]; done) | fail)) only [evS, evZ, evK, evB, evL, evR, Nat.reduceBEq, Nat.reduceAdd, Nat.reduceLeDiff, boxR, rboxR, allocR, fldR, binI, unR, pickR, mknilR, mkslR, buildSlR, buildR, extR, convI, eqB, evU, wrap64]) | (with_reducible intro _) | ((with_reducible apply And.intro); omega)))
          exact ⟨c + 1, by omega, by omega, Ent.keep rfl (by (try simp [subK, Kn.get, beq_eq]) <;> (repeat' with_reducible apply And.intro) <;> first | rfl | omega | (simp; done))⟩
    · unfold ac_L24_DominatorLists_k1
      (repeat (first | (simp (disch := (first | omega | (simp only [evF, evL, implies_true, and_self]; done) | fail)) only [evS, evZ, evK, evB, evL, evR, Nat.reduceBEq, Nat.reduceAdd, Nat.reduceLeDiff, boxR, rboxR, allocR, fldR, binI, unR, pickR, mknilR, mkslR, buildSlR, buildR, extR, convI, eqB, evU, wrap64]) | (with_reducible intro _) | ((with_reducible apply And.intro); omega)))
      refine callX_fix (call_flat L24_exampleHolds_ok rfl) ?_
      (repeat (first | (simp (disch := (first | omega | (simp only [evF, evL, implies_true, and_self]; done) | fail)) only [evS, evZ, evK, evB, evL, evR, Nat.reduceBEq, Nat.reduceAdd, Nat.reduceLeDiff, boxR, rboxR, allocR, fldR, binI, unR, pickR, mknilR, mkslR, buildSlR, buildR, extR, convI, eqB, evU, wrap64, rs_L24_DominatorLists]) | (with_reducible intro _) | ((with_reducible apply And.intro); omega)))
      exact ⟨_, .bool _ _, rfl⟩
  generalize hy : decide (0 ≤ a ∧ a < (t.length : Int)) = y
  (repeat (first | (simp (disch := (first | omega | (simp only [evF, evL, implies_true, and_self]; done) | fail)) only [evS, evZ, evK, evB, evL, evR, Nat.reduceBEq, Nat.reduceAdd, Nat.reduceLeDiff, boxR, rboxR, allocR, fldR, binI, unR, pickR, mknilR, mkslR, buildSlR, buildR, extR, convI, eqB, evU, wrap64]) | (with_reducible intro _) | ((with_reducible apply And.intro); omega)))
  generalize h1 : decide (0 ≤ a) = h1b; cases h1b <;> simp only [decide_eq_true_eq, decide_eq_false_iff_not, ne_eq, Classical.not_not] at h1
  · obtain rfl : y = false := by rw [← hy]; exact decide_eq_false (fun h => h1 h.1)
    (repeat (first | (simp (disch := (first | omega | (simp only [evF, evL, implies_true, and_self]; done) | fail)) only [evS, evZ, evK, evB, evL, evR, Nat.reduceBEq, Nat.reduceAdd, Nat.reduceLeDiff, boxR, rboxR, allocR, fldR, binI, unR, pickR, mknilR, mkslR, buildSlR, buildR, extR, convI, eqB, evU, wrap64]) | (with_reducible intro _) | ((with_reducible apply And.intro); omega)))
    exact fin
  · obtain rfl : y = decide (a < (t.length : Int)) := by rw [← hy]; exact decide_eq_decide.2 ⟨fun h => h.2, fun h => ⟨h1, h⟩⟩
    (repeat (first | (simp (disch := (first | omega | (simp only [evF, evL, implies_true, and_self]; done) | fail)) only [evS, evZ, evK, evB, evL, evR, Nat.reduceBEq, Nat.reduceAdd, Nat.reduceLeDiff, boxR, rboxR, allocR, fldR, binI, unR, pickR, mknilR, mkslR, buildSlR, buildR, extR, convI, eqB, evU, wrap64, bne_self_eq_false]) | (with_reducible intro _) | ((with_reducible apply And.intro); omega)))
    exact fin

end Go.Ab
