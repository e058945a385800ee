/-
  Part 10 of the proof: how the calls of this program run, over values instead of memory, and what each function computes.
-/
import Derived.KernelRfl
import Derived.Test.YtdhlfajcofgpkaaGreatKi
set_option maxRecDepth 100000
set_option linter.unusedVariables false
set_option linter.unusedSimpArgs false
set_option linter.unnecessarySimpa false
set_option linter.unusedSectionVars false

namespace Go.Ab
open Go.RowKit Go.Proofs
theorem zkW (A B : List Int) : zB Tryz.prog zdF [za A, za B] (· = .bool (decide (A = B))) := by
  refine fn_x zl3 rfl ?_
  unfold zg6
  have hB := hBig
  by_cases hl : A.length = B.length
  · (repeat first | simp (disch := try exact dis1) only [evD, Nat.reduceBEq, Nat.reduceAdd, Nat.reduceLeDiff, dF, za] | with_reducible intro _ | ((with_reducible apply And.intro); omega))
    refine zl (fun i : Nat => ([(0, za A), (1, za B), (5, .int .i64 i)], [])) 0 (fun i => i ≤ A.length ∧ A.take i = B.take i) (fun i => A.length - i) 0 ⟨Nat.zero_le _, by simp⟩ (Ent.tab [] [] rfl (by (try simp only [evWB, Nat.reduceBEq, Nat.reduceAdd, Nat.reduceSub, Nat.reduceLeDiff, Nat.reduceLT, implies_true, za]) <;> exact fin2) (by (try simp only [evWB, Nat.reduceBEq, Nat.reduceAdd, Nat.reduceSub, Nat.reduceLeDiff, Nat.reduceLT, implies_true, za]) <;> exact fin2)) ?_
    rintro i ⟨hi, htk⟩ wf
    unfold zfx
    by_cases hil : i < A.length
    · have hib : i < B.length := by omega
      have ga := zx (f := cI) (d := []) hil
      have gb := zx (f := cI) (d := []) hib
      by_cases he : A[i] = B[i]
      · (repeat first | simp (disch := try exact dis1) only [evD, Nat.reduceBEq, Nat.reduceAdd, Nat.reduceLeDiff, dT, dF, za, ga, gb] | with_reducible intro _ | ((with_reducible apply And.intro); omega))
        exact ⟨i + 1, ⟨by omega, zoS htk hil hib he⟩, by omega, Ent.keep rfl fin5⟩
      · have hne : A ≠ B := fun e => he (by subst e; rfl)
        rw [decide_eq_false hne]
        (repeat first | simp (disch := try exact dis1) only [evD, Nat.reduceBEq, Nat.reduceAdd, Nat.reduceLeDiff, dT, za, ga, gb, zc4] | with_reducible intro _ | ((with_reducible apply And.intro); omega))
        exact ⟨_, .bool _ _, rfl⟩
    · rw [List.take_of_length_le (by omega), List.take_of_length_le (by omega)] at htk
      rw [decide_eq_true htk]
      (repeat first | simp (disch := try exact dis1) only [evD, Nat.reduceBEq, Nat.reduceAdd, Nat.reduceLeDiff, dF, za] | with_reducible intro _ | ((with_reducible apply And.intro); omega))
      unfold zfk
      (repeat first | simp (disch := try exact dis1) only [evD, Nat.reduceBEq, Nat.reduceAdd, Nat.reduceLeDiff, zc4] | with_reducible intro _ | ((with_reducible apply And.intro); omega))
      exact ⟨_, .bool _ _, rfl⟩
  · have hne : A ≠ B := fun e => hl (by rw [e])
    rw [decide_eq_false hne]
    (repeat first | simp (disch := try exact dis1) only [evD, Nat.reduceBEq, Nat.reduceAdd, Nat.reduceLeDiff, dT, za, zc4] | with_reducible intro _ | ((with_reducible apply And.intro); omega))
    exact ⟨_, .bool _ _, rfl⟩
structure FewV (exit : List Int) (bl : List Bl) : Prop where
  sz : ∀ b ∈ bl, ∀ s ∈ b.stmts, zA s.e ≤ 100000
  len : bl.length ≤ 1000000
  stmts : ∀ b ∈ bl, b.stmts.length ≤ 1000000
  ts : ∀ b ∈ bl, (zD b.stmts).length ≤ 1000000
  uni : (univ exit bl).length + exit.length ≤ 400000
theorem zvn {exit : List Int} {bl : List Bl} {b : Bl} (hb : b ∈ bl) {s : St} (hs : s ∈ b.stmts) : ∀ x ∈ zew s, x ∈ univ exit bl := fun x hx =>
  List.mem_append_right _ (List.mem_flatMap.2 ⟨b, hb, List.mem_flatMap.2 ⟨s, hs, hx⟩⟩)
theorem renL {ρ : Nat → Nat} {l : List (List Int)} {g : Nat} : AObj.ren ρ (.row 1 (l.map cLL) g) = .row 1 (l.map cLL) g := by
  simp only [AObj.ren]
  rw [zgd (zg zxF)]
structure RunL (exit : List Int) (bl : List Bl) (ins : List (List Int)) (k : Nat) (c : Bool) : Prop where
  inv : LInvU exit bl ins
  fuel : zi2 exit bl ≤ k + zcb ins
  go : fixL exit bl k ins = zaX exit bl
  done : c = false → ins = zaX exit bl
theorem zjW : ∀ (l : List St) (h : l.length - 1 < l.length), endsOk l = (zhE (l[l.length - 1]'h) && !((l.take (l.length - 1)).any zhE))
  | [], h => by simp at h
  | [x], h => by
    rw [endsOk, endsOk]
    simp
  | x :: y :: l, h => by
    have ih := zjW (y :: l) (by simp)
    rw [endsOk, ih]
    simp only [List.length_cons, Nat.add_sub_cancel, List.isEmpty_cons, List.take_succ_cons, List.any_cons]
    have e : (x :: y :: l)[l.length + 1] = (y :: l)[l.length] := rfl
    rw [e]
    cases zhE x <;> cases zhE (y :: l)[l.length] <;> simp
theorem zwH {α : Type} {f : α → List AV} {H H2 : AH} {σ : Nat → Nat → Option (Nat × Nat × Nat)} {D : Nat → Nat → Prop} {t : Bool} {l : List α} {sz i n z : Nat} (hi : i ≤ l.length) (hn : n = i) (hz : z = 0) (hf : ∀ a, zI (f a) = true) :
    Vw H H2 σ D t (.sl sz n (fun a j => ((l.map f).getD (z + a) []).getD j .undef)) (encL sz f (l.take i)) := by
  subst hn hz
  have e : (l.take n).length = n := by rw [List.length_take]; omega
  unfold encL
  rw [e]
  refine .slf _ _ _ _ _ (fun a j ha hj => ?_)
  have e2 : (List.map f (List.take n l)).getD a [] = (l.map f).getD (0 + a) [] := by
    rw [Nat.zero_add, List.map_take, List.getD_eq_getElem?_getD, List.getElem?_take_of_lt ha, List.getD_eq_getElem?_getD]
  rw [e2, zx (show 0 + a < l.length by omega), List.getD_eq_getElem?_getD]
  cases hx : (f l[0 + a])[j]? with
  | none => exact .undef _ _
  | some x => exact zcd (zaO (hf _) hx)
theorem znj (l : List St) : PredT (.fn (.func zb5) []) l zhE := ⟨_, _, rfl, by kernel_rfl, rfl, fun s _ => zgG s⟩
theorem zmp (t ad : Int) (l : List Bl) : zB Tryz.prog zex [.int .i64 t, encP 2 [.int .u32 ad, encL 2 Bl.cells l]] (· = .bool (!inN l.length t)) := by
  refine fn_x zmx rfl ?_
  unfold zii inN
  have hB := hBig
  by_cases h0 : 0 ≤ t
  · by_cases h1 : t < l.length
    · rw [decide_eq_true ⟨h0, h1⟩]
      (repeat first | simp (disch := try exact dis1) only [evD, Nat.reduceBEq, Nat.reduceAdd, Nat.reduceLeDiff, fldP, dT, dF, zdC] | with_reducible intro _ | ((with_reducible apply And.intro); omega))
      exact ⟨_, .bool _ _, rfl⟩
    · rw [decide_eq_false (fun h => h1 h.2)]
      (repeat first | simp (disch := try exact dis1) only [evD, Nat.reduceBEq, Nat.reduceAdd, Nat.reduceLeDiff, fldP, dT, dF, zdC] | with_reducible intro _ | ((with_reducible apply And.intro); omega))
      exact ⟨_, .bool _ _, rfl⟩
  · rw [decide_eq_false (fun h => h0 h.1)]
    (repeat first | simp (disch := try exact dis1) only [evD, Nat.reduceBEq, Nat.reduceAdd, Nat.reduceLeDiff, fldP, dT, dF, zdC] | with_reducible intro _ | ((with_reducible apply And.intro); omega))
    exact ⟨_, .bool _ _, rfl⟩
theorem zkg (ad : Int) (l : List Bl) (m : List Int) : PredI (.fn (.func zex) [encP 2 [.int .u32 ad, encL 2 Bl.cells l]]) m (fun t => !inN l.length t) := ⟨_, _, rfl, by kernel_rfl, rfl, fun s _ => zmp s ad l⟩
theorem zpv (g : G) (hf : fewB g) (hc : ∀ b ∈ g.blocks, ∀ s ∈ b.stmts, s.cases.length ≤ 100000000) : zB Tryz.prog zir [.agg g.cells] (· = .bool (!g.blocks.isEmpty && g.blocks.all fun b => zcH b.stmts g.blocks.length)) := by
  refine fn_x zpF rfl ?_
  unfold zj2
  have hB := hBig
  obtain ⟨hb, hs⟩ := hf
  obtain ⟨ad, l⟩ := g
  simp only at hb hs hc
  simp only [G.cells]
  by_cases h0 : l.length = 0
  · obtain rfl : l = [] := List.eq_nil_of_length_eq_zero h0
    (repeat first | simp (disch := try exact dis1) only [evD, Nat.reduceBEq, Nat.reduceAdd, Nat.reduceLeDiff, fldP, dT, List.length_nil, zb6] | with_reducible intro _ | ((with_reducible apply And.intro); omega))
    exact ⟨_, .bool _ _, rfl⟩
  have he : l.isEmpty = false := by cases l with | nil => simp at h0 | cons a l => rfl
  rw [he]
  generalize hR : (l.all fun b => zcH b.stmts l.length) = R
  (repeat first | simp (disch := try exact dis1) only [evD, Nat.reduceBEq, Nat.reduceAdd, Nat.reduceLeDiff, fldP, dF] | with_reducible intro _ | ((with_reducible apply And.intro); omega))
  refine zl (fun i : Nat => ([(1, encP 2 [.int .u32 ad, encL 2 Bl.cells l]), (11, encL 2 Bl.cells l), (12, .int .i64 l.length), (13, .int .i64 i)], [])) 0 (fun i => i ≤ l.length ∧ ((l.drop i).all fun b => zcH b.stmts l.length) = R) (fun i => l.length - i) 0 ⟨Nat.zero_le _, hR⟩ (Ent.keep rfl fin5) ?_
  rintro i ⟨hi, hgo⟩ wf
  unfold zg4
  by_cases hl : i < l.length
  · have hg : (l.map Bl.cells).getD i [] = [.int .u32 l[i].addr, encL 8 St.cells l[i].stmts] := zx hl
    have hss := zgQ l[i] (hc _ (List.getElem_mem hl))
    rw [List.drop_eq_getElem_cons hl, List.all_cons] at hgo
    simp only [Bl.cells] at hss
    generalize l[i].stmts = m at hg hgo hss
    generalize l[i].addr = ad' at hg hss
    by_cases hm0 : m.length = 0
    · obtain rfl : m = [] := List.eq_nil_of_length_eq_zero hm0
      replace hgo : R = false := by rw [← hgo]; rfl
      subst hgo
      (repeat first | simp (disch := try exact dis1) only [evD, Nat.reduceBEq, Nat.reduceAdd, Nat.reduceLeDiff, fldP, dT, hg, List.length_nil, zb6] | with_reducible intro _ | ((with_reducible apply And.intro); omega))
      exact ⟨_, .bool _ _, rfl⟩
    have hlast : m.length - 1 < m.length := by omega
    have hidx : (((m.length : Nat) : Int) - 1).toNat = m.length - 1 := by omega
    have hme : m.isEmpty = false := by cases m with | nil => simp at hm0 | cons a l => rfl
    unfold zcH at hgo
    rw [hme, zjW m hlast] at hgo
    (repeat first | simp (disch := try exact dis1) only [evD, Nat.reduceBEq, Nat.reduceAdd, Nat.reduceLeDiff, fldP, dT, dF, hg, hidx, zx hlast, St.len, St.eight] | with_reducible intro _ | ((with_reducible apply And.intro); omega))
    refine zm (zp (zgG m[m.length - 1]) rfl) ?_
    generalize zhE m[m.length - 1] = q at hgo
    cases q with
    | false =>
      replace hgo : R = false := by rw [← hgo]; rfl
      subst hgo
      (repeat first | simp (disch := try exact dis1) only [evD, Nat.reduceBEq, Nat.reduceAdd, Nat.reduceLeDiff, zb6] | with_reducible intro _ | ((with_reducible apply And.intro); omega))
      exact ⟨_, .bool _ _, rfl⟩
    | true =>
      (repeat first | simp (disch := try exact dis1) only [evD, Nat.reduceBEq, Nat.reduceAdd, Nat.reduceLeDiff, fldP, zuo, hidx] | with_reducible intro _ | ((with_reducible apply And.intro); omega))
      refine zm (zaK (D := noR) (zgq (m.take (m.length - 1)) _ _ (znj _)) (.cons (zwH (by omega) (by omega) rfl (fun _ => rfl)) (.cons (zrI (znj (m.take (m.length - 1)))) .nil)) (.inl rfl)) ?_
      generalize (m.take (m.length - 1)).any zhE = q at hgo
      cases q with
      | true =>
        replace hgo : R = false := by rw [← hgo]; rfl
        subst hgo
        (repeat first | simp (disch := try exact dis1) only [evD, Nat.reduceBEq, Nat.reduceAdd, Nat.reduceLeDiff, zb6] | with_reducible intro _ | ((with_reducible apply And.intro); omega))
        exact ⟨_, .bool _ _, rfl⟩
      | false =>
        (repeat first | simp (disch := try exact dis1) only [evD, Nat.reduceBEq, Nat.reduceAdd, Nat.reduceLeDiff, fldP] | with_reducible intro _ | ((with_reducible apply And.intro); omega))
        refine zm (zp hss rfl) ?_
        (repeat first | simp (disch := try exact dis1) only [evD, Nat.reduceBEq, Nat.reduceAdd, Nat.reduceLeDiff, fldP] | with_reducible intro _ | ((with_reducible apply And.intro); omega))
        refine zm (zaK (D := noR) (zgt (zD m) _ _ (zkg ad l _)) (.cons (zaI rfl) (.cons (zr8 (zkg ad l (zD m))) .nil)) (.inl rfl)) ?_
        rw [List.all_eq_not_any_not] at hgo
        generalize ((zD m).any fun t => !inN l.length t) = q at hgo
        cases q with
        | true =>
          replace hgo : R = false := by rw [← hgo]; rfl
          subst hgo
          (repeat first | simp (disch := try exact dis1) only [evD, Nat.reduceBEq, Nat.reduceAdd, Nat.reduceLeDiff, zb6] | with_reducible intro _ | ((with_reducible apply And.intro); omega))
          exact ⟨_, .bool _ _, rfl⟩
        | false =>
          replace hgo : ((l.drop (i + 1)).all fun b => zcH b.stmts l.length) = R := by rw [← hgo]; rfl
          (repeat first | simp (disch := try exact dis1) only [evD, Nat.reduceBEq, Nat.reduceAdd, Nat.reduceLeDiff] | with_reducible intro _ | ((with_reducible apply And.intro); omega))
          exact ⟨i + 1, ⟨by omega, hgo⟩, by omega, (Ent.tab [] [] rfl (by (try simp only [evWB, Nat.reduceBEq, Nat.reduceAdd, Nat.reduceSub, Nat.reduceLeDiff, Nat.reduceLT, implies_true]) <;> exact fin2) (by (try simp only [evWB, Nat.reduceBEq, Nat.reduceAdd, Nat.reduceSub, Nat.reduceLeDiff, Nat.reduceLT, implies_true]) <;> exact fin2))⟩
  · rw [List.drop_of_length_le (by omega)] at hgo
    replace hgo : R = true := by rw [← hgo]; rfl
    subst hgo
    (repeat first | simp (disch := try exact dis1) only [evD, Nat.reduceBEq, Nat.reduceAdd, Nat.reduceLeDiff, fldP, dF] | with_reducible intro _ | ((with_reducible apply And.intro); omega))
    unfold zht
    (repeat first | simp (disch := try exact dis1) only [evD, Nat.reduceBEq, Nat.reduceAdd, Nat.reduceLeDiff, zb6] | with_reducible intro _ | ((with_reducible apply And.intro); omega))
    exact ⟨_, .bool _ _, rfl⟩
theorem zkr (g : G) (hf : fewB g) (hc : ∀ b ∈ g.blocks, ∀ s ∈ b.stmts, s.cases.length ≤ 100000000) : zB Tryz.prog zeH [.agg g.cells] (· = .int .i64 (zgR g)) := by
  refine fn_x zkA rfl ?_
  unfold zgI
  have hB := hBig
  have hsh := zpv g hf hc
  obtain ⟨hb, hs⟩ := hf
  obtain ⟨ad, l⟩ := g
  simp only at hb hs hsh
  simp only [G.cells, zgR, zrL] at hsh ⊢
  (repeat first | simp (disch := try exact dis1) only [evD, Nat.reduceBEq, Nat.reduceAdd, Nat.reduceLeDiff, fldP] | with_reducible intro _ | ((with_reducible apply And.intro); omega))
  refine zl (fun s : Nat × Nat => ([(1, encP 2 [.int .u32 ad, encL 2 Bl.cells l]), (3, .int .i64 s.2), (12, encL 2 Bl.cells l), (13, .int .i64 l.length), (14, .int .i64 s.1)], [])) 0 (fun s => s.1 ≤ l.length ∧ s.2 = zz (l.take s.1) ∧ s.2 ≤ 1100 * s.1) (fun s => l.length - s.1) (0, 0) ⟨Nat.zero_le _, rfl, Nat.le_refl _⟩ (Ent.keep rfl fin5) ?_
  rintro ⟨i, n⟩ ⟨hi, hct, hn⟩ wf
  simp only at hi hn hct
  unfold ze0
  by_cases hl : i < l.length
  · have hg : (l.map Bl.cells).getD i [] = [.int .u32 l[i].addr, encL 8 St.cells l[i].stmts] := zx hl
    have hsl := hs l[i] (List.getElem_mem hl)
    (repeat first | simp (disch := try exact dis1) only [evD, Nat.reduceBEq, Nat.reduceAdd, Nat.reduceLeDiff, fldP, dT, hg] | with_reducible intro _ | ((with_reducible apply And.intro); omega))
    exact ⟨(i + 1, n + l[i].stmts.length), ⟨by simp only; omega, by simp only; rw [ziA hl, hct], by simp only; omega⟩, by simp only; omega, (Ent.tab [] [] rfl (by (try simp only [evWB, Nat.reduceBEq, Nat.reduceAdd, Nat.reduceSub, Nat.reduceLeDiff, Nat.reduceLT, implies_true]) <;> exact fin2) (by (try simp only [evWB, Nat.reduceBEq, Nat.reduceAdd, Nat.reduceSub, Nat.reduceLeDiff, Nat.reduceLT, implies_true]) <;> exact fin2))⟩
  rw [List.take_of_length_le (by omega)] at hct
  (repeat first | simp (disch := try exact dis1) only [evD, Nat.reduceBEq, Nat.reduceAdd, Nat.reduceLeDiff, fldP, dF] | with_reducible intro _ | ((with_reducible apply And.intro); omega))
  unfold zeV
  by_cases h256 : 256 < l.length
  · rw [if_pos (.inl h256)]
    (repeat first | simp (disch := try exact dis1) only [evD, Nat.reduceBEq, Nat.reduceAdd, Nat.reduceLeDiff, fldP, dT, za8] | with_reducible intro _ | ((with_reducible apply And.intro); omega))
    exact ⟨_, .int _ _ _, rfl⟩
  by_cases h1024 : 1024 < n
  · rw [if_pos (.inr (by omega))]
    (repeat first | simp (disch := try exact dis1) only [evD, Nat.reduceBEq, Nat.reduceAdd, Nat.reduceLeDiff, fldP, dT, dF, za8] | with_reducible intro _ | ((with_reducible apply And.intro); omega))
    exact ⟨_, .int _ _ _, rfl⟩
  rw [if_neg (by omega)]
  (repeat first | simp (disch := try exact dis1) only [evD, Nat.reduceBEq, Nat.reduceAdd, Nat.reduceLeDiff, fldP, dF, zh2, tab, List.getD_cons_zero, List.getD_cons_succ] | with_reducible intro _ | ((with_reducible apply And.intro); omega))
  refine zm (zp hsh rfl) ?_
  generalize (!l.isEmpty && l.all fun b => zcH b.stmts l.length) = q
  cases q with
  | false =>
    (repeat first | simp (disch := try exact dis1) only [evD, Nat.reduceBEq, Nat.reduceAdd, Nat.reduceLeDiff, za8] | with_reducible intro _ | ((with_reducible apply And.intro); omega))
    exact ⟨_, .int _ _ _, rfl⟩
  | true =>
  rw [if_pos rfl]
  (repeat first | simp (disch := try exact dis1) only [evD, Nat.reduceBEq, Nat.reduceAdd, Nat.reduceLeDiff, fldP] | with_reducible intro _ | ((with_reducible apply And.intro); omega))
  refine zl (fun i : Nat => ([(36, encL 2 Bl.cells l), (37, .int .i64 l.length), (38, .int .i64 i)], [])) 0 (fun i => i ≤ l.length ∧ zff (l.drop i) = zff l) (fun i => l.length - i) 0 ⟨Nat.zero_le _, rfl⟩ (Ent.keep rfl fin5) ?_
  rintro i ⟨hi, hgo⟩ wf
  unfold zeG
  by_cases hl : i < l.length
  · have hg : (l.map Bl.cells).getD i [] = [.int .u32 l[i].addr, encL 8 St.cells l[i].stmts] := zx hl
    have hsl := hs l[i] (List.getElem_mem hl)
    rw [zl6 hl] at hgo
    (repeat first | simp (disch := try exact dis1) only [evD, Nat.reduceBEq, Nat.reduceAdd, Nat.reduceLeDiff, fldP, dT, hg] | with_reducible intro _ | ((with_reducible apply And.intro); omega))
    generalize l[i].stmts = m at hg hgo hsl
    generalize l[i].addr = ad' at hg
    refine zl (fun j : Nat => ([(36, encL 2 Bl.cells l), (37, .int .i64 l.length), (38, .int .i64 i), (43, encL 8 St.cells m), (44, .int .i64 m.length), (45, .int .i64 j)], [])) 0 (fun j => j ≤ m.length ∧ zdd (m.drop j) = zdd m) (fun j => m.length - j) 0 ⟨Nat.zero_le _, rfl⟩ (Ent.tab [] [] rfl (by (try simp only [evWB, Nat.reduceBEq, Nat.reduceAdd, Nat.reduceSub, Nat.reduceLeDiff, Nat.reduceLT, implies_true]) <;> exact fin2) (by (try simp only [evWB, Nat.reduceBEq, Nat.reduceAdd, Nat.reduceSub, Nat.reduceLeDiff, Nat.reduceLT, implies_true]) <;> exact fin2)) ?_
    rintro j ⟨hj, hgo2⟩ wf2
    unfold zeX
    by_cases hm : j < m.length
    · rw [zmj hm] at hgo2
      (repeat first | simp (disch := try exact dis1) only [evD, Nat.reduceBEq, Nat.reduceAdd, Nat.reduceLeDiff, fldP, dT, zx hm, St.len, St.eight, St.flat] | with_reducible intro _ | ((with_reducible apply And.intro); omega))
      refine zm (zp (zlI m[j]) rfl) ?_
      by_cases hx : m[j].check = 0
      · rw [if_neg (by omega)] at hgo2
        (repeat first | simp (disch := try exact dis1) only [evD, Nat.reduceBEq, Nat.reduceAdd, Nat.reduceLeDiff, dF] | with_reducible intro _ | ((with_reducible apply And.intro); omega))
        exact ⟨j + 1, ⟨by omega, hgo2⟩, by omega, (Ent.tab [] [] rfl (by (try simp only [evWB, Nat.reduceBEq, Nat.reduceAdd, Nat.reduceSub, Nat.reduceLeDiff, Nat.reduceLT, implies_true]) <;> exact fin2) (by (try simp only [evWB, Nat.reduceBEq, Nat.reduceAdd, Nat.reduceSub, Nat.reduceLeDiff, Nat.reduceLT, implies_true]) <;> exact fin2))⟩
      · rw [if_pos hx] at hgo2
        rw [← hgo2, if_pos hx] at hgo
        rw [← hgo]
        (repeat first | simp (disch := try exact dis1) only [evD, Nat.reduceBEq, Nat.reduceAdd, Nat.reduceLeDiff, dT, za8] | with_reducible intro _ | ((with_reducible apply And.intro); omega))
        exact ⟨_, .int _ _ _, rfl⟩
    · rw [List.drop_of_length_le (by omega), zdd] at hgo2
      rw [← hgo2, if_neg (by omega)] at hgo
      (repeat first | simp (disch := try exact dis1) only [evD, Nat.reduceBEq, Nat.reduceAdd, Nat.reduceLeDiff, fldP, dF] | with_reducible intro _ | ((with_reducible apply And.intro); omega))
      unfold zeR
      (repeat first | simp (disch := try exact dis1) only [evD, Nat.reduceBEq, Nat.reduceAdd, Nat.reduceLeDiff] | with_reducible intro _ | ((with_reducible apply And.intro); omega))
      exact ⟨i + 1, ⟨by omega, hgo⟩, by omega, Ent.keep rfl fin5⟩
  rw [List.drop_of_length_le (by omega), zff] at hgo
  rw [← hgo]
  (repeat first | simp (disch := try exact dis1) only [evD, Nat.reduceBEq, Nat.reduceAdd, Nat.reduceLeDiff, fldP, dF] | with_reducible intro _ | ((with_reducible apply And.intro); omega))
  unfold zeS
  (repeat first | simp (disch := try exact dis1) only [evD, Nat.reduceBEq, Nat.reduceAdd, Nat.reduceLeDiff, za8] | with_reducible intro _ | ((with_reducible apply And.intro); omega))
  exact ⟨_, .int _ _ _, rfl⟩
mutual
def zj6 : Ex → Bool
  | .mk op _ _ _ l => decide (op = 18) || zlk l
def zlk : List Ex → Bool
  | [] => false
  | x :: l => zj6 x || zlk l
end
theorem zmi : ∀ l : List Ex, zlk l = l.any zj6
  | [] => by rw [zlk]; rfl
  | x :: l => by rw [zlk, zmi l]; rfl
theorem zjD : ∀ (k : Nat) (e : Ex), za2 e ≤ k → zB Tryz.prog za9 [.agg (encX e)] (· = .bool (zj6 e)) := by
  intro k
  induction k with
  | zero => intro e h; obtain ⟨_, _, _, _, l⟩ := e; rw [za2] at h; omega
  | succ k ih =>
  intro e hk
  obtain ⟨op, nn, v, w, l⟩ := e
  refine fn_x zjz rfl ?_
  unfold zf3
  have hB := hBig
  rw [za2] at hk
  rw [zbD, zj6, zmi]
  by_cases h1 : op = 18
  · rw [decide_eq_true h1, Bool.true_or]
    (repeat first | simp (disch := try exact dis1) only [evD, Nat.reduceBEq, Nat.reduceAdd, Nat.reduceLeDiff, fldP, dT, encP, zds] | with_reducible intro _ | ((with_reducible apply And.intro); omega))
    exact ⟨_, .bool _ _, rfl⟩
  · rw [decide_eq_false h1, Bool.false_or]
    have hp : PredE (.fn (.func za9) []) l zj6 := ⟨_, _, rfl, by kernel_rfl, rfl, fun s hs => ih s (by have := zcw hs; omega)⟩
    (repeat first | simp (disch := try exact dis1) only [evD, Nat.reduceBEq, Nat.reduceAdd, Nat.reduceLeDiff, fldP, dF] | with_reducible intro _ | ((with_reducible apply And.intro); omega))
    refine zm (zaK (D := noR) (zH l _ _ hp) (.cons (zaI rfl) (.cons (zcA hp) .nil)) (.inl rfl)) ?_
    (repeat first | simp (disch := try exact dis1) only [evD, Nat.reduceBEq, Nat.reduceAdd, Nat.reduceLeDiff, zds] | with_reducible intro _ | ((with_reducible apply And.intro); omega))
    exact ⟨_, .bool _ _, rfl⟩
theorem zlO (l : List Ex) : PredE (.fn (.func za9) []) l zj6 := ⟨_, _, rfl, by kernel_rfl, rfl, fun s _ => zjD _ s (Nat.le_refl _)⟩
def remS (s : St) (a : List Int) : Bool := decide (s.op = 1) && (!decide (s.var ∈ a) && !s.e.any zj6)
theorem zhq (s : St) (a : MS) : zZ Tryz.prog zcq [.agg s.cells, .mp 0 0] [(0, .row 3 ((setM a.1 a.2).map cm) 0)] 1
    (fun v H nx => v = .bool (remS s a.keys) ∧ H = [(0, .row 3 ((setM a.1 a.2).map cm) 0)] ∧ nx = 1) := by
  refine zce (fn_x zhx rfl ?_)
  unfold zdN
  have hB := hBig
  obtain ⟨c, ps⟩ := a
  obtain ⟨op, var, width, next, els, tgt, l, cs⟩ := s
  unfold remS MS.keys
  simp only
  by_cases h1 : op = 1
  · rw [decide_eq_true h1, Bool.true_and]
    by_cases hm : var ∈ ps.map (·.1)
    · obtain ⟨j, hj, hje, hf⟩ := ziW hm
      rw [decide_eq_true hm]
      (repeat first | simp (disch := try exact dis1) only [evD, Nat.reduceBEq, Nat.reduceAdd, Nat.reduceLeDiff, fldP, St.cells, za, dT, zr, hf, zba, Bool.not_true, Bool.false_and] | with_reducible intro _ | ((with_reducible apply And.intro); omega))
      exact ⟨.bool false, _, _, (Ent.tabB [(0, 0, 0)] [] rfl rfl rfl (by (try simp only [evWB, Nat.reduceBEq, Nat.reduceAdd, Nat.reduceSub, Nat.reduceLeDiff, Nat.reduceLT, implies_true, zr]) <;> exact fin6) (by (try simp only [evWB, Nat.reduceBEq, Nat.reduceAdd, Nat.reduceSub, Nat.reduceLeDiff, Nat.reduceLT, implies_true, zr]) <;> exact fin6)), rfl, rfl, rfl⟩
    · have hf := zhN hm
      rw [decide_eq_false hm]
      (repeat first | simp (disch := try exact dis1) only [evD, Nat.reduceBEq, Nat.reduceAdd, Nat.reduceLeDiff, fldP, St.cells, za, dT, zr, hf] | with_reducible intro _ | ((with_reducible apply And.intro); omega))
      refine zm (zaK (D := noR) (zH l _ _ (zlO l)) (.cons (zaI rfl) (.cons (zcA (zlO l)) .nil)) (.inl rfl)) ?_
      (repeat first | simp (disch := try exact dis1) only [evD, Nat.reduceBEq, Nat.reduceAdd, Nat.reduceLeDiff, zba, Bool.not_false, Bool.true_and] | with_reducible intro _ | ((with_reducible apply And.intro); omega))
      exact ⟨.bool (!l.any zj6), _, _, (Ent.tabB [(0, 0, 0)] [] rfl rfl rfl (by (try simp only [evWB, Nat.reduceBEq, Nat.reduceAdd, Nat.reduceSub, Nat.reduceLeDiff, Nat.reduceLT, implies_true, zr]) <;> exact fin6) (by (try simp only [evWB, Nat.reduceBEq, Nat.reduceAdd, Nat.reduceSub, Nat.reduceLeDiff, Nat.reduceLT, implies_true, zr]) <;> exact fin6)), rfl, rfl, rfl⟩
  · rw [decide_eq_false h1, Bool.false_and]
    (repeat first | simp (disch := try exact dis1) only [evD, Nat.reduceBEq, Nat.reduceAdd, Nat.reduceLeDiff, fldP, St.cells, za, dF, zr, zba] | with_reducible intro _ | ((with_reducible apply And.intro); omega))
    exact ⟨.bool false, _, _, (Ent.tabB [(0, 0, 0)] [] rfl rfl rfl (by (try simp only [evWB, Nat.reduceBEq, Nat.reduceAdd, Nat.reduceSub, Nat.reduceLeDiff, Nat.reduceLT, implies_true, zr]) <;> exact fin6) (by (try simp only [evWB, Nat.reduceBEq, Nat.reduceAdd, Nat.reduceSub, Nat.reduceLeDiff, Nat.reduceLT, implies_true, zr]) <;> exact fin6)), rfl, rfl, rfl⟩
theorem zjA : ∀ (k : Nat) (e : Ex), za2 e ≤ k → k ≤ 1000000 → zB Tryz.prog zcC [.agg (encX e)] (· = .agg (encX e)) := by
  intro k
  induction k with
  | zero => intro e h; obtain ⟨_, _, _, _, l⟩ := e; rw [za2] at h; omega
  | succ k ih =>
  intro e hk hk2
  obtain ⟨op, nn, v, w, l⟩ := e
  refine fn_x zjt rfl ?_
  unfold zf7
  have hB := hBig
  rw [za2] at hk
  have hll : l.length ≤ zA l := zhS l
  rw [zbD]
  (repeat first | simp (disch := try exact dis1) only [evD, Nat.reduceBEq, Nat.reduceAdd, Nat.reduceLeDiff, fldP] | with_reducible intro _ | ((with_reducible apply And.intro); omega))
  refine zl (fun i : Nat => ([(1, .ptr 0 0 0 0 0), (2, .ptr 1 0 0 0 0), (3, .own 2 0 0 0 i), (7, encL 5 encX l), (8, .int .i64 l.length), (9, .int .i64 i)], [(0, .row 5 [[.int .i64 op, .int .u32 nn, .int .i64 v, .int .i64 w, encL 5 encX l]] 0), (1, .row 5 [[.int .i64 0, .int .u32 0, .int .i64 0, .int .i64 0, .nilsl]] 0), (2, .row 5 ((l.take i).map encX) 0)])) 3
    (fun i => i ≤ l.length) (fun i => l.length - i) 0 (Nat.zero_le _) (Ent.tab [(0, 0, 0), (1, 1, 0), (2, 2, 0)] [] rfl (by (try simp only [evWB, Nat.reduceBEq, Nat.reduceAdd, Nat.reduceSub, Nat.reduceLeDiff, Nat.reduceLT, implies_true, List.take_zero]) <;> exact fin2) (by (try simp only [evWB, Nat.reduceBEq, Nat.reduceAdd, Nat.reduceSub, Nat.reduceLeDiff, Nat.reduceLT, implies_true, List.take_zero]) <;> exact fin2)) ?_
  rintro i hi wf
  unfold zea
  by_cases hil : i < l.length
  · have hm := zcw (List.getElem_mem hil)
    have htk : (l.take (i + 1)).map encX = (l.take i).map encX ++ [encX l[i]] := by rw [List.take_add_one, List.getElem?_eq_getElem hil, List.map_append]; rfl
    have htl : ((l.take i).map encX).length = i := by rw [List.length_map, List.length_take]; omega
    generalize l.take i = T at htk htl ⊢
    have htT : (T.map encX).take i = T.map encX := List.take_of_length_le (by omega)
    (repeat first | simp (disch := try exact dis1) only [evD, Nat.reduceBEq, Nat.reduceAdd, Nat.reduceLeDiff, fldP, dT, zx hil, zaM, zaj, zb] | with_reducible intro _ | ((with_reducible apply And.intro); omega))
    refine zm (zp (ih l[i] (by omega) (by omega)) (flX rfl)) ?_
    (repeat first | simp (disch := try exact dis1) only [evD, Nat.reduceBEq, Nat.reduceAdd, Nat.reduceLeDiff, zaM, zaj, zb, htl, htT] | with_reducible intro _ | ((with_reducible apply And.intro); omega))
    refine ⟨i + 1, by omega, by omega, ?_⟩
    exact (Ent.tab [(0, 0, 0), (1, 1, 0), (2, 2, 1)] [] rfl (by (try simp only [evWB, Nat.reduceBEq, Nat.reduceAdd, Nat.reduceSub, Nat.reduceLeDiff, Nat.reduceLT, implies_true, htk]) <;> exact fin7) (by (try simp only [evWB, Nat.reduceBEq, Nat.reduceAdd, Nat.reduceSub, Nat.reduceLeDiff, Nat.reduceLT, implies_true, htk]) <;> exact fin7))
  · obtain rfl : i = l.length := by omega
    rw [List.take_length]
    (repeat first | simp (disch := try exact dis1) only [evD, Nat.reduceBEq, Nat.reduceAdd, Nat.reduceLeDiff, fldP, dF] | with_reducible intro _ | ((with_reducible apply And.intro); omega))
    unfold zee
    (repeat first | simp (disch := try exact dis1) only [evD, Nat.reduceBEq, Nat.reduceAdd, Nat.reduceLeDiff, fldP] | with_reducible intro _ | ((with_reducible apply And.intro); omega))
    (repeat first | simp (disch := try exact dis1) only [evD, Nat.reduceBEq, Nat.reduceAdd, Nat.reduceLeDiff, zfU] | with_reducible intro _ | ((with_reducible apply And.intro); omega))
    refine ⟨.agg [.int .i64 op, .int .u32 nn, .int .i64 v, .int .i64 w, encL 5 encX l], .agg _ _ _ rfl (fun j a c h1 h2 => ?_), rfl⟩
    match j with
    | 0 => cases h1; cases h2; exact .int _ _ _
    | 1 => cases h1; cases h2; exact .int _ _ _
    | 2 => cases h1; cases h2; exact .int _ _ _
    | 3 => cases h1; cases h2; exact .int _ _ _
    | 4 => cases h1; cases h2; exact zrK trivial rfl (by omega)
    | j + 5 => cases h1
theorem zyc {H H2 : AH} {σ : Nat → Nat → Option (Nat × Nat × Nat)} {D : Nat → Nat → Prop} {t : Bool} {r q g : Nat} {l : List St} (hD : D r q) (hg : H.get r q = some (.row 8 (l.map St.cells) g)) (hb : l.length ≤ big) : Vw H H2 σ D t (.own r q g 0 l.length) (encL 8 St.cells l) :=
  zhl hD hg hb fun a _ j _ => by
    rw [List.getD_eq_getElem?_getD]
    cases hx : a.cells[j]? with
    | none => exact .undef _ _
    | some x => exact zcd (zaO a.flat hx)
theorem zu7 {H H2 : AH} {σ : Nat → Nat → Option (Nat × Nat × Nat)} {D : Nat → Nat → Prop} {t : Bool} {r q g : Nat} {l : List Bl} (hD : D r q) (hg : H.get r q = some (.row 2 (l.map Bl.cells) g)) (hb : l.length ≤ big) : Vw H H2 σ D t (.own r q g 0 l.length) (encL 2 Bl.cells l) :=
  zhl hD hg hb fun a _ j _ => by
    rw [List.getD_eq_getElem?_getD]
    cases hx : a.cells[j]? with
    | none => exact .undef _ _
    | some x => exact zcd (zaO (show zI a.cells = true from rfl) hx)
theorem zt1 {Q : QT} (ad ad2 : Int) (bl : List Bl) (done : List Bl) (i : Nat) (sts : List St) (j : Nat) (op var width next els tgt : Int) (l : List Ex) (cs : List Int) (hsz : zA l ≤ 100000)
    (hcs : cs.length ≤ 1000000) (hj : j < sts.length) (hjl : sts.length ≤ 1000000) (hst : sts[j] = ⟨op, var, width, next, els, tgt, l, cs⟩)
    (hfin : ∀ K H nx, Ent 0 K H nx [(2, .ptr 0 0 0 0 0), (3, .ptr 1 0 0 0 0), (6, .ptr 3 0 0 0 0), (16, encL 2 Bl.cells bl), (17, .int .i64 bl.length), (18, .int .i64 i), (26, encL 8 St.cells sts), (27, .int .i64 sts.length), (28, .int .i64 ((j + 1 : Nat) : Int))]
      [(0, .row 2 [[.int .u32 0, .nilsl]] 0), (1, .row 2 [[.int .u32 ad, .own 2 0 0 0 done.length]] 0), (2, .row 2 (done.map Bl.cells) 0), (3, .row 2 [[.int .u32 ad2, .own 4 0 0 0 (j + 1)]] 0), (4, .row 8 ((sts.take (j + 1)).map St.cells) 0)] 5 → Q .normal K H nx)
    {K : Kn} {H : AH} {nx : Nat} (hent : Ent 0 K H nx [(2, .ptr 0 0 0 0 0), (3, .ptr 1 0 0 0 0), (6, .ptr 3 0 0 0 0), (8, .ptr 5 0 0 0 0), (9, .own 6 0 0 0 0), (16, encL 2 Bl.cells bl), (17, .int .i64 bl.length), (18, .int .i64 i), (26, encL 8 St.cells sts), (27, .int .i64 sts.length), (28, .int .i64 j), (33, encL 5 encX l), (34, .int .i64 l.length), (35, .int .i64 0)]
      [(0, .row 2 [[.int .u32 0, .nilsl]] 0), (1, .row 2 [[.int .u32 ad, .own 2 0 0 0 done.length]] 0), (2, .row 2 (done.map Bl.cells) 0), (3, .row 2 [[.int .u32 ad2, .own 4 0 0 0 j]] 0), (4, .row 8 ((sts.take j).map St.cells) 0), (5, .row 8 [[.int .i64 op, .int .i64 var, .int .i64 width, .int .i64 next, .int .i64 els, .int .u32 tgt, encL 5 encX l, za cs]] 0), (6, .row 5 [] 0)] 7) :
    ziK Tryz.prog 0 zbW (zbw 4 (seqQ Tryz.prog 0 zbV (zbw 3 (seqQ Tryz.prog 0 zbX Q)))) K H nx := by
  have hB := hBig
  have hll : l.length ≤ zA l := zhS l
  refine zl (fun m : Nat => ([(2, .ptr 0 0 0 0 0), (3, .ptr 1 0 0 0 0), (6, .ptr 3 0 0 0 0), (8, .ptr 5 0 0 0 0), (9, .own 6 0 0 0 m), (16, encL 2 Bl.cells bl), (17, .int .i64 bl.length), (18, .int .i64 i), (26, encL 8 St.cells sts), (27, .int .i64 sts.length), (28, .int .i64 j), (33, encL 5 encX l), (34, .int .i64 l.length), (35, .int .i64 m)],
      [(0, .row 2 [[.int .u32 0, .nilsl]] 0), (1, .row 2 [[.int .u32 ad, .own 2 0 0 0 done.length]] 0), (2, .row 2 (done.map Bl.cells) 0), (3, .row 2 [[.int .u32 ad2, .own 4 0 0 0 j]] 0), (4, .row 8 ((sts.take j).map St.cells) 0), (5, .row 8 [[.int .i64 op, .int .i64 var, .int .i64 width, .int .i64 next, .int .i64 els, .int .u32 tgt, encL 5 encX l, za cs]] 0), (6, .row 5 ((l.take m).map encX) 0)])) 7
    (fun m => m ≤ l.length) (fun m => l.length - m) 0 (Nat.zero_le _) hent ?_
  rintro m hm wf
  unfold zbW
  by_cases hil : m < l.length
  · have hmm := zcw (List.getElem_mem hil)
    have htk : (l.take (m + 1)).map encX = (l.take m).map encX ++ [encX l[m]] := by rw [List.take_add_one, List.getElem?_eq_getElem hil, List.map_append]; rfl
    have htl : ((l.take m).map encX).length = m := by rw [List.length_map, List.length_take]; omega
    generalize l.take m = T at htk htl ⊢
    generalize sts.take j = S at *
    have htT : (T.map encX).take m = T.map encX := List.take_of_length_le (by omega)
    (repeat first | simp (disch := try exact dis1) only [evD, Nat.reduceBEq, Nat.reduceAdd, Nat.reduceLeDiff, fldP, dT, zx hil, zaM, zaj, zb] | with_reducible intro _ | ((with_reducible apply And.intro); omega))
    refine zm (zp (zjA (za2 l[m]) l[m] (Nat.le_refl _) (by omega)) (flX rfl)) ?_
    (repeat first | simp (disch := try exact dis1) only [evD, Nat.reduceBEq, Nat.reduceAdd, Nat.reduceLeDiff, zaM, zaj, zb, htl, htT] | with_reducible intro _ | ((with_reducible apply And.intro); omega))
    refine ⟨m + 1, by omega, by omega, ?_⟩
    exact (Ent.tab [(0, 0, 0), (1, 1, 0), (2, 2, 0), (3, 3, 0), (4, 4, 0), (5, 5, 0), (6, 6, 1)] [] rfl (by (try simp only [evWB, Nat.reduceBEq, Nat.reduceAdd, Nat.reduceSub, Nat.reduceLeDiff, Nat.reduceLT, implies_true, htk]) <;> exact fin7) (by (try simp only [evWB, Nat.reduceBEq, Nat.reduceAdd, Nat.reduceSub, Nat.reduceLeDiff, Nat.reduceLT, implies_true, htk]) <;> exact fin7))
  · obtain rfl : m = l.length := by omega
    rw [List.take_length]
    (repeat first | simp (disch := try exact dis1) only [evD, Nat.reduceBEq, Nat.reduceAdd, Nat.reduceLeDiff, dF] | with_reducible intro _ | ((with_reducible apply And.intro); omega))
    unfold zbV
    (repeat first | simp (disch := try exact dis1) only [evD, Nat.reduceBEq, Nat.reduceAdd, Nat.reduceLeDiff] | with_reducible intro _ | ((with_reducible apply And.intro); omega))
    refine zS [] 0 _ (zoo cs (by omega)) rfl rfl (by (try simp only [evWB, Nat.reduceBEq, Nat.reduceAdd, Nat.reduceSub, Nat.reduceLeDiff, Nat.reduceLT, implies_true]) <;> exact fin1) (by (try simp only [evWB, Nat.reduceBEq, Nat.reduceAdd, Nat.reduceSub, Nat.reduceLeDiff, Nat.reduceLT, implies_true]) <;> exact fin1) ?_
    rintro _ _ _ ⟨rfl, rfl, rfl⟩
    have hl8 : ((sts.take j).map St.cells).length = j := by rw [List.length_map, List.length_take]; omega
    have hsj : sts.take (j + 1) = sts.take j ++ [⟨op, var, width, next, els, tgt, l, cs⟩] := by rw [List.take_add_one, List.getElem?_eq_getElem hj, hst]; rfl
    rw [hsj] at hfin
    generalize sts.take j = S at *
    have hS8 : (S.map St.cells).take j = S.map St.cells := List.take_of_length_le (by omega)
    (repeat first | simp (disch := try exact dis1) only [evD, Nat.reduceBEq, Nat.reduceAdd, Nat.reduceLeDiff, renI, hl8, hS8] | with_reducible intro _ | ((with_reducible apply And.intro); omega))
    unfold zbX
    (repeat first | simp (disch := try exact dis1) only [evD, Nat.reduceBEq, Nat.reduceAdd, Nat.reduceLeDiff] | with_reducible intro _ | ((with_reducible apply And.intro); omega))
    refine hfin _ _ _ ?_
    exact (Ent.tab [(0, 0, 0), (1, 1, 0), (2, 2, 0), (3, 3, 0), (4, 4, 1)] [6, 7] rfl (by (try simp only [evWB, Nat.reduceBEq, Nat.reduceAdd, Nat.reduceSub, Nat.reduceLeDiff, Nat.reduceLT, implies_true, List.map_append, List.map_cons, List.map_nil, St.cells]) <;> exact fin7) (by (try simp only [evWB, Nat.reduceBEq, Nat.reduceAdd, Nat.reduceSub, Nat.reduceLeDiff, Nat.reduceLT, implies_true, List.map_append, List.map_cons, List.map_nil, St.cells]) <;> exact fin7))
theorem zvW {Q : QT} (ad ad2 : Int) (bl : List Bl) (i : Nat) (hi : i < bl.length) (hbl : bl.length ≤ 1000000) (sts : List St) (hb : bl[i] = ⟨ad2, sts⟩) (hjl : sts.length ≤ 1000000)
    (hsz : ∀ s ∈ sts, zA s.e ≤ 100000 ∧ s.cases.length ≤ 1000000)
    (hfin : ∀ K H nx, Ent 0 K H nx [(2, .ptr 0 0 0 0 0), (3, .ptr 1 0 0 0 0), (16, encL 2 Bl.cells bl), (17, .int .i64 bl.length), (18, .int .i64 ((i + 1 : Nat) : Int))]
      [(0, .row 2 [[.int .u32 0, .nilsl]] 0), (1, .row 2 [[.int .u32 ad, .own 2 0 0 0 (i + 1)]] 0), (2, .row 2 ((bl.take (i + 1)).map Bl.cells) 0)] 3 → Q .normal K H nx)
    {K : Kn} {H : AH} {nx : Nat} (hent : Ent 0 K H nx [(2, .ptr 0 0 0 0 0), (3, .ptr 1 0 0 0 0), (6, .ptr 3 0 0 0 0), (16, encL 2 Bl.cells bl), (17, .int .i64 bl.length), (18, .int .i64 i), (26, encL 8 St.cells sts), (27, .int .i64 sts.length), (28, .int .i64 0)]
      [(0, .row 2 [[.int .u32 0, .nilsl]] 0), (1, .row 2 [[.int .u32 ad, .own 2 0 0 0 i]] 0), (2, .row 2 ((bl.take i).map Bl.cells) 0), (3, .row 2 [[.int .u32 ad2, .own 4 0 0 0 0]] 0), (4, .row 8 [] 0)] 5) :
    ziK Tryz.prog 0 zbT (zbw 2 (seqQ Tryz.prog 0 zb2 (zbw 1 (seqQ Tryz.prog 0 zb8 Q)))) K H nx := by
  have hB := hBig
  refine zl (fun j : Nat => ([(2, .ptr 0 0 0 0 0), (3, .ptr 1 0 0 0 0), (6, .ptr 3 0 0 0 0), (16, encL 2 Bl.cells bl), (17, .int .i64 bl.length), (18, .int .i64 i), (26, encL 8 St.cells sts), (27, .int .i64 sts.length), (28, .int .i64 j)],
      [(0, .row 2 [[.int .u32 0, .nilsl]] 0), (1, .row 2 [[.int .u32 ad, .own 2 0 0 0 i]] 0), (2, .row 2 ((bl.take i).map Bl.cells) 0), (3, .row 2 [[.int .u32 ad2, .own 4 0 0 0 j]] 0), (4, .row 8 ((sts.take j).map St.cells) 0)])) 5
    (fun j => j ≤ sts.length) (fun j => sts.length - j) 0 (Nat.zero_le _) hent ?_
  rintro j hj wf
  unfold zbT
  have hdl : (bl.take i).length = i := by rw [List.length_take]; omega
  by_cases hil : j < sts.length
  · obtain ⟨z1, z2⟩ := hsz _ (List.getElem_mem hil)
    have hgs := zx (f := St.cells) (d := []) hil
    have hst : sts[j] = ⟨sts[j].op, sts[j].var, sts[j].width, sts[j].next, sts[j].els, sts[j].tgt, sts[j].e, sts[j].cases⟩ := rfl
    have hl0 := fun (Q : QT) => zt1 (Q := Q) ad ad2 bl (bl.take i) i sts j sts[j].op sts[j].var sts[j].width sts[j].next sts[j].els sts[j].tgt sts[j].e sts[j].cases z1 z2 hil hjl hst
    rw [hdl] at hl0
    simp only [St.cells] at hgs
    (repeat first | simp (disch := try exact dis1) only [evD, Nat.reduceBEq, Nat.reduceAdd, Nat.reduceLeDiff, fldP, dT, hgs] | with_reducible intro _ | ((with_reducible apply And.intro); omega))
    refine hl0 _ ?_ ?_
    · intro K2 H2 nx2 he
      exact ⟨j + 1, by omega, by show sts.length - (j + 1) < sts.length - j; omega, he⟩
    · exact (Ent.tab [(0, 0, 0), (1, 1, 0), (2, 2, 0), (3, 3, 0), (4, 4, 0), (5, 5, 0), (6, 6, 0)] [] rfl (by (try simp only [evWB, Nat.reduceBEq, Nat.reduceAdd, Nat.reduceSub, Nat.reduceLeDiff, Nat.reduceLT, implies_true]) <;> exact fin7) (by (try simp only [evWB, Nat.reduceBEq, Nat.reduceAdd, Nat.reduceSub, Nat.reduceLeDiff, Nat.reduceLT, implies_true]) <;> exact fin7))
  · obtain rfl : j = sts.length := by omega
    rw [List.take_length]
    have hbk : bl.take (i + 1) = bl.take i ++ [⟨ad2, sts⟩] := by rw [List.take_add_one, List.getElem?_eq_getElem hi, hb]; rfl
    rw [hbk] at hfin
    generalize bl.take i = D at *
    have hD : (D.map Bl.cells).take i = D.map Bl.cells := List.take_of_length_le (by rw [List.length_map]; omega)
    have hDl : (D.map Bl.cells).length = i := by rw [List.length_map]; omega
    (repeat first | simp (disch := try exact dis1) only [evD, Nat.reduceBEq, Nat.reduceAdd, Nat.reduceLeDiff, dF] | with_reducible intro _ | ((with_reducible apply And.intro); omega))
    unfold zb2
    (repeat first | simp (disch := try exact dis1) only [evD, Nat.reduceBEq, Nat.reduceAdd, Nat.reduceLeDiff, hD, hDl] | with_reducible intro _ | ((with_reducible apply And.intro); omega))
    unfold zb8
    (repeat first | simp (disch := try exact dis1) only [evD, Nat.reduceBEq, Nat.reduceAdd, Nat.reduceLeDiff] | with_reducible intro _ | ((with_reducible apply And.intro); omega))
    refine hfin _ _ _ ?_
    exact (Ent.tab [(0, 0, 0), (1, 1, 0), (2, 2, 1)] [4] rfl (by (try simp only [evWB, Nat.reduceBEq, Nat.reduceAdd, Nat.reduceSub, Nat.reduceLeDiff, Nat.reduceLT, implies_true, List.map_append, List.map_cons, List.map_nil, Bl.cells]) <;> exact fin7) (by (try simp only [evWB, Nat.reduceBEq, Nat.reduceAdd, Nat.reduceSub, Nat.reduceLeDiff, Nat.reduceLT, implies_true, List.map_append, List.map_cons, List.map_nil, Bl.cells]) <;> exact fin7))
theorem zuS (g : G) (hbl : g.blocks.length ≤ 1000000) (hst : ∀ b ∈ g.blocks, b.stmts.length ≤ 1000000) (hsz : ∀ b ∈ g.blocks, ∀ s ∈ b.stmts, zA s.e ≤ 100000 ∧ s.cases.length ≤ 1000000) :
    zZ Tryz.prog zdi [.agg g.cells] [] 0 (fun v H nx => v = .agg [.int .u32 g.addr, .own 0 0 0 0 g.blocks.length] ∧ H = [(0, .row 2 (g.blocks.map Bl.cells) 0)] ∧ nx = 1) := by
  refine zce (fn_x zji rfl ?_)
  unfold zfp
  have hB := hBig
  obtain ⟨ad, bl⟩ := g
  simp only at hbl hst hsz ⊢
  (repeat first | simp (disch := try exact dis1) only [evD, Nat.reduceBEq, Nat.reduceAdd, Nat.reduceLeDiff, fldP, G.cells] | with_reducible intro _ | ((with_reducible apply And.intro); omega))
  refine zl (fun i : Nat => ([(2, .ptr 0 0 0 0 0), (3, .ptr 1 0 0 0 0), (16, encL 2 Bl.cells bl), (17, .int .i64 bl.length), (18, .int .i64 i)],
      [(0, .row 2 [[.int .u32 0, .nilsl]] 0), (1, .row 2 [[.int .u32 ad, .own 2 0 0 0 i]] 0), (2, .row 2 ((bl.take i).map Bl.cells) 0)])) 3
    (fun i => i ≤ bl.length) (fun i => bl.length - i) 0 (Nat.zero_le _) (Ent.tab [(0, 0, 0), (1, 1, 0)] [] rfl (by (try simp only [evWB, Nat.reduceBEq, Nat.reduceAdd, Nat.reduceSub, Nat.reduceLeDiff, Nat.reduceLT, implies_true, List.take_zero, List.map_nil]) <;> exact fin2) (by (try simp only [evWB, Nat.reduceBEq, Nat.reduceAdd, Nat.reduceSub, Nat.reduceLeDiff, Nat.reduceLT, implies_true, List.take_zero, List.map_nil]) <;> exact fin2)) ?_
  rintro i hi wf
  unfold zdQ
  by_cases hil : i < bl.length
  · have hm := List.getElem_mem hil
    have hgl := zx (f := Bl.cells) (d := []) hil
    have hl3 := fun (Q : QT) => zvW (Q := Q) ad bl[i].addr bl i hil hbl bl[i].stmts rfl (hst _ hm) (hsz _ hm)
    simp only [Bl.cells] at hgl
    (repeat first | simp (disch := try exact dis1) only [evD, Nat.reduceBEq, Nat.reduceAdd, Nat.reduceLeDiff, fldP, dT, hgl] | with_reducible intro _ | ((with_reducible apply And.intro); omega))
    refine hl3 _ ?_ ?_
    · intro K2 H2 nx2 he
      exact ⟨i + 1, by omega, by show bl.length - (i + 1) < bl.length - i; omega, he⟩
    · exact (Ent.tab [(0, 0, 0), (1, 1, 0), (2, 2, 0), (3, 4, 0)] [] rfl (by (try simp only [evWB, Nat.reduceBEq, Nat.reduceAdd, Nat.reduceSub, Nat.reduceLeDiff, Nat.reduceLT, implies_true]) <;> exact fin7) (by (try simp only [evWB, Nat.reduceBEq, Nat.reduceAdd, Nat.reduceSub, Nat.reduceLeDiff, Nat.reduceLT, implies_true]) <;> exact fin7))
  · obtain rfl : i = bl.length := by omega
    rw [List.take_length]
    (repeat first | simp (disch := try exact dis1) only [evD, Nat.reduceBEq, Nat.reduceAdd, Nat.reduceLeDiff, dF] | with_reducible intro _ | ((with_reducible apply And.intro); omega))
    unfold zdO
    (repeat first | simp (disch := try exact dis1) only [evD, Nat.reduceBEq, Nat.reduceAdd, Nat.reduceLeDiff, zfd] | with_reducible intro _ | ((with_reducible apply And.intro); omega))
    exact ⟨.agg [.int .u32 ad, .own 0 0 0 0 bl.length], [(0, .row 2 (bl.map Bl.cells) 0)], 1, (Ent.tab [(0, 2, 0)] [] rfl (by (try simp only [evWB, Nat.reduceBEq, Nat.reduceAdd, Nat.reduceSub, Nat.reduceLeDiff, Nat.reduceLT, implies_true]) <;> exact fin7) (by (try simp only [evWB, Nat.reduceBEq, Nat.reduceAdd, Nat.reduceSub, Nat.reduceLeDiff, Nat.reduceLT, implies_true]) <;> exact fin7)), rfl, rfl, rfl⟩
def zdL (exit : List Int) : List St → List Int → List St × List Int
  | [], a => ([], a)
  | s :: l, a => if remS s (zdL exit l a).2 = true then zdL exit l a else (s :: (zdL exit l a).1, zb1 exit s (zdL exit l a).2)
def keepM (exit : List Int) : List St → MS → List St × MS
  | [], a => ([], a)
  | s :: l, a => if remS s (keepM exit l a).2.keys = true then keepM exit l a else (s :: (keepM exit l a).1, zdc exit s (keepM exit l a).2)
theorem ztm {s : St} {a b : List Int} (h : ∀ x, x ∈ a ↔ x ∈ b) : remS s a = remS s b := by
  unfold remS
  rw [decide_eq_decide.2 (h s.var)]
theorem zpn {exit : List Int} {a : MS} {e : List Int} (h : ∀ x, x ∈ a.keys ↔ x ∈ e) : ∀ l : List St, (keepM exit l a).1 = (zdL exit l e).1 ∧ ∀ x, x ∈ (keepM exit l a).2.keys ↔ x ∈ (zdL exit l e).2
  | [] => ⟨rfl, h⟩
  | s :: l => by
    obtain ⟨h1, h2⟩ := zpn h l
    unfold keepM zdL
    rw [ztm h2]
    split
    · exact ⟨h1, h2⟩
    · exact ⟨by rw [h1], zkQ h2⟩
theorem zf8 {exit : List Int} {e : List Int} : ∀ l : List St, ((zdL exit l e).1).Sublist l
  | [] => List.Sublist.slnil
  | s :: l => by
    unfold zdL
    split
    · exact (zf8 l).cons s
    · exact (zf8 l).cons_cons s
theorem zkK {exit : List Int} {e : MS} : ∀ l : List St, ((keepM exit l e).1).Sublist l
  | [] => List.Sublist.slnil
  | s :: l => by
    unfold keepM
    split
    · exact (zkK l).cons s
    · exact (zkK l).cons_cons s
theorem zsk {exit : List Int} : ∀ {l : List St} {a : MS}, a.ok → a.1 + zaT exit.length l ≤ 1000000 → a.2.length + zaT exit.length l ≤ 1000000 →
    (keepM exit l a).2.ok ∧ (keepM exit l a).2.1 ≤ a.1 + zaT exit.length l ∧ (keepM exit l a).2.2.length ≤ a.2.length + zaT exit.length l
  | [], a, h, _, _ => ⟨h, by show a.1 ≤ a.1 + (0 : Nat); omega, Nat.le_refl _⟩
  | s :: l, a, h, h1, h2 => by
    have e : zaT exit.length (s :: l) = zA s.e + exit.length + zaT exit.length l := rfl
    rw [e] at h1 h2 ⊢
    obtain ⟨i1, i2, i3⟩ := zsk (exit := exit) (l := l) h (by omega) (by omega)
    unfold keepM
    split
    · exact ⟨i1, by omega, by omega⟩
    · obtain ⟨j1, j2, j3⟩ := zrF (exit := exit) (s := s) i1 (by omega) (by omega)
      exact ⟨j1, by simp only; omega, by simp only; omega⟩
def blkD (exit : List Int) (bl : List Bl) (i : Nat) (b : Bl) : Bl := ⟨b.addr, (zdL exit b.stmts (zW exit bl i)).1⟩
def zbF (exit : List Int) (bl : List Bl) : List Bl := bl.mapIdx (blkD exit bl)
theorem zdx {exit : List Int} {bl : List Bl} : (zbF exit bl).length = bl.length := by simp [zbF]
theorem zfN {exit : List Int} {bl : List Bl} {i : Nat} (h : i < bl.length) : (zbF exit bl)[i]'(by rw [zdx]; exact h) = blkD exit bl i bl[i] := by simp [zbF]
def SubB (a b : List Bl) : Prop := a.length = b.length ∧ ∀ i (h1 : i < a.length) (h2 : i < b.length), a[i].addr = b[i].addr ∧ (a[i].stmts).Sublist b[i].stmts
theorem SubB.rfl' {a : List Bl} : SubB a a := ⟨rfl, fun _ _ _ => ⟨rfl, List.Sublist.refl _⟩⟩
theorem SubB.trans {a b c : List Bl} (h : SubB a b) (k : SubB b c) : SubB a c := ⟨h.1.trans k.1, fun i h1 h2 => by
  obtain ⟨x1, x2⟩ := h.2 i h1 (by have := h.1; omega)
  obtain ⟨y1, y2⟩ := k.2 i (by have := h.1; omega) h2
  exact ⟨x1.trans y1, x2.trans y2⟩⟩
theorem zbH {exit : List Int} {bl : List Bl} : SubB (zbF exit bl) bl := ⟨zdx, fun i h1 h2 => by rw [zfN h2]; exact ⟨rfl, zf8 _⟩⟩
theorem SubB.mem {a b : List Bl} (h : SubB a b) {x : Bl} (hx : x ∈ a) : ∃ y ∈ b, x.addr = y.addr ∧ (x.stmts).Sublist y.stmts := by
  obtain ⟨i, hi, rfl⟩ := List.mem_iff_getElem.1 hx
  have hl := h.1
  obtain ⟨h1, h2⟩ := h.2 i hi (by omega)
  exact ⟨_, List.getElem_mem _, h1, h2⟩
theorem SubB.count : ∀ {a b : List Bl}, SubB a b → zz a ≤ zz b
  | [], [], _ => Nat.le_refl _
  | [], y :: b, h => by have := h.1; simp at this
  | x :: a, [], h => by have := h.1; simp at this
  | x :: a, y :: b, h => by
    have h1 := (h.2 0 (by simp) (by simp)).2.length_le
    have h2 : SubB a b := ⟨by have := h.1; simpa using this, fun i h1 h2 => h.2 (i + 1) (by simpa using h1) (by simpa using h2)⟩
    have h3 := SubB.count h2
    simp only [List.getElem_cons_zero] at h1
    simp only [zz, List.map_cons, List.sum_cons] at h3 ⊢
    omega
theorem SubB.same : ∀ {a b : List Bl}, SubB a b → zz a = zz b → a = b
  | [], [], _, _ => rfl
  | [], y :: b, h, _ => by have := h.1; simp at this
  | x :: a, [], h, _ => by have := h.1; simp at this
  | x :: a, y :: b, h, hc => by
    obtain ⟨ha, hs⟩ := h.2 0 (by simp) (by simp)
    have h2 : SubB a b := ⟨by have := h.1; simpa using this, fun i h1 h2 => h.2 (i + 1) (by simpa using h1) (by simpa using h2)⟩
    have h3 := h2.count
    simp only [List.getElem_cons_zero] at ha hs
    have hl := hs.length_le
    simp only [zz, List.map_cons, List.sum_cons] at hc h3
    have e1 : x.stmts = y.stmts := hs.eq_of_length (by omega)
    rw [SubB.same h2 (by simp only [zz]; omega)]
    congr 1
    obtain ⟨a1, s1⟩ := x
    obtain ⟨a2, s2⟩ := y
    simp only at ha e1
    rw [ha, e1]
theorem zoE {k : Nat} {a b : List St} (h : a.Sublist b) : zaT k a ≤ zaT k b := by
  induction h with
  | slnil => exact Nat.le_refl _
  | cons s _ ih => show _ ≤ zA s.e + k + _; omega
  | cons_cons s _ ih => show zA s.e + k + _ ≤ zA s.e + k + _; omega
structure GoodB (U exit : List Int) (bl : List Bl) : Prop where
  he : ∀ x ∈ exit, x ∈ U
  hu : ∀ b ∈ bl, ∀ s ∈ b.stmts, ∀ x ∈ zew s, x ∈ U
  hsz : ∀ b ∈ bl, ∀ s ∈ b.stmts, zA s.e ≤ 100000 ∧ s.cases.length ≤ 100000
  cost : ∀ b ∈ bl, 2 * U.length + zaT exit.length b.stmts ≤ 1000000
  cnt : zz bl ≤ 1000000
  len : bl.length ≤ 1000000
theorem zo0 {s : St} : (zfm s).length ≤ s.cases.length + 2 := by
  unfold zfm
  split
  · simp
  · split
    · simp
    · split
      · omega
      · simp
theorem zlW {l : List St} {n : Nat} (h : ∀ s ∈ l, s.cases.length ≤ n) : (zD l).length ≤ n + 2 := by
  unfold zD
  split
  · simp
  · rename_i s hs
    have := h s (List.mem_of_getLast? hs)
    have := zo0 (s := s)
    omega
theorem zjC {bl : List Bl} {b : Bl} (h : b ∈ bl) : b.stmts.length ≤ zz bl := by
  induction bl with
  | nil => cases h
  | cons x l ih =>
    simp only [zz, List.map_cons, List.sum_cons] at ih ⊢
    rcases List.mem_cons.1 h with rfl | h
    · omega
    · have := ih h; omega
theorem GoodB.univ {U exit : List Int} {bl : List Bl} (h : GoodB U exit bl) : UnivB U exit bl := by
  refine ⟨h.he, h.hu, fun b hb s hs => (h.hsz b hb s hs).1, h.cost, fun b hb => ⟨fun s hs => ?_, ?_, ?_⟩, h.len⟩
  · have := (h.hsz b hb s hs).2; omega
  · exact Nat.le_trans (zjC hb) h.cnt
  · have := zlW (l := b.stmts) (n := 100000) fun s hs => (h.hsz b hb s hs).2
    omega
theorem GoodB.sub {U exit : List Int} {a b : List Bl} (h : GoodB U exit b) (k : SubB a b) : GoodB U exit a := by
  refine ⟨h.he, fun x hx s hs => ?_, fun x hx s hs => ?_, fun x hx => ?_, Nat.le_trans k.count h.cnt, by rw [k.1]; exact h.len⟩
  · obtain ⟨y, hy, _, h2⟩ := k.mem hx
    exact h.hu y hy s (h2.mem hs)
  · obtain ⟨y, hy, _, h2⟩ := k.mem hx
    exact h.hsz y hy s (h2.mem hs)
  · obtain ⟨y, hy, _, h2⟩ := k.mem hx
    have := zoE (k := exit.length) h2
    have := h.cost y hy
    omega
def zhW (exit : List Int) : Nat → List Bl → List Bl
  | 0, bl => bl
  | k + 1, bl => if zz (zbF exit bl) = zz bl then bl else zhW exit k (zbF exit bl)
theorem zpL {exit : List Int} : ∀ (k : Nat) (bl : List Bl), SubB (zhW exit k bl) bl
  | 0, bl => SubB.rfl'
  | k + 1, bl => by
    unfold zhW
    split
    · exact SubB.rfl'
    · exact (zpL k _).trans zbH
theorem znc {exit : List Int} : ∀ (k k' : Nat) (bl : List Bl), zz bl < k → zz bl < k' → zhW exit k bl = zhW exit k' bl
  | 0, _, bl, h, _ => absurd h (Nat.not_lt_zero _)
  | _ + 1, 0, bl, _, h => absurd h (Nat.not_lt_zero _)
  | k + 1, k' + 1, bl, h, h' => by
    unfold zhW
    split
    · rfl
    · have := (zbH (exit := exit) (bl := bl)).count
      exact znc k k' _ (by omega) (by omega)
def zg7 (exit : List Int) (bl : List Bl) : List Bl := zhW exit (zz bl + 1) bl
abbrev LeL (a b : List Int) : Prop := ∀ x ∈ a, x ∈ b
theorem LeL.trans {a b c : List Int} (h : LeL a b) (k : LeL b c) : LeL a c := fun x hx => k x (h x hx)
theorem zhB {exit : List Int} {s : St} {a b : List Int} (h : LeL a b) : LeL (zb1 exit s a) (zb1 exit s b) := fun x hx => by
  rw [zdn] at hx ⊢
  rcases hx with ⟨h1, h2⟩ | h1
  · exact .inl ⟨h x h1, h2⟩
  · exact .inr h1
theorem ze7 {exit : List Int} : ∀ {l : List St} {a b : List Int}, LeL a b → LeL (zbt exit l a) (zbt exit l b)
  | [], _, _, h => h
  | s :: l, a, b, h => by
    show LeL (zb1 exit s (zbt exit l a)) (zb1 exit s (zbt exit l b))
    exact zhB (ze7 h)
theorem zpZ {exit : List Int} {s : St} {l : List St} {a : List Int} : zbt exit (s :: l) a = zb1 exit s (zbt exit l a) := rfl
theorem zpd {s : St} {a b : List Int} (h : LeL a b) (hr : remS s b = true) : remS s a = true := by
  unfold remS at hr ⊢
  simp only [Bool.and_eq_true, Bool.not_eq_true', decide_eq_true_eq, decide_eq_false_iff_not] at hr ⊢
  exact ⟨hr.1, fun hm => hr.2.1 (h _ hm), hr.2.2⟩
theorem zlA {s : St} {a : List Int} (h : remS s a = true) : s.op = 1 ∧ s.var ∉ a := by
  unfold remS at h
  simp only [Bool.and_eq_true, Bool.not_eq_true', decide_eq_true_eq, decide_eq_false_iff_not] at h
  exact ⟨h.1, h.2.1⟩
theorem zm7 {exit : List Int} {s : St} {a b : List Int} (h : LeL a b) (hr : s.op = 1) (hn : s.var ∉ a) : LeL a (zb1 exit s b) := fun x hx => by
  rw [zdn]
  refine .inl ⟨h x hx, fun hd => ?_⟩
  unfold zjU at hd
  rw [if_pos (.inl hr), List.mem_singleton] at hd
  exact hn (hd ▸ hx)
inductive SubD (exit e : List Int) : List St → List St → Prop
  | nil : SubD exit e [] []
  | keep {s : St} {x y : List St} : SubD exit e x y → SubD exit e (s :: x) (s :: y)
  | drop {s : St} {x y : List St} : SubD exit e x y → remS s (zbt exit x e) = true → SubD exit e x (s :: y)
theorem SubD.refl {exit e : List Int} : ∀ {l : List St}, SubD exit e l l
  | [] => .nil
  | _ :: _ => .keep SubD.refl
theorem SubD.sub {exit e : List Int} {x y : List St} (h : SubD exit e x y) : x.Sublist y := by
  induction h with
  | nil => exact List.Sublist.slnil
  | keep _ ih => exact ih.cons_cons _
  | drop _ _ ih => exact ih.cons _
theorem SubD.begin {exit e e1 e2 : List Int} {x y : List St} (h : SubD exit e x y) (h1 : LeL e1 e) (h2 : LeL e1 e2) : LeL (zbt exit x e1) (zbt exit y e2) := by
  induction h with
  | nil => exact h2
  | keep _ ih => exact zhB ih
  | @drop s x y _ hr ih =>
    obtain ⟨r1, r2⟩ := zlA hr
    exact zm7 ih r1 fun hm => r2 (ze7 h1 _ hm)
theorem SubD.trans {exit e e2 : List Int} {x y z : List St} (h : SubD exit e x y) (k : SubD exit e2 y z) (he : LeL e e2) : SubD exit e x z := by
  induction k generalizing x with
  | nil => exact h
  | keep _ ih =>
    cases h with
    | keep h => exact .keep (ih h)
    | drop h hr => exact .drop (ih h) hr
  | drop hk hr ih => exact .drop (ih h) (zpd (h.begin (fun _ h => h) he) hr)
theorem SubD.last {exit e : List Int} {x y : List St} (h : SubD exit e x y) (hy : ∀ s, y.getLast? = some s → s.op ≠ 1) : x.getLast? = y.getLast? := by
  induction h with
  | nil => rfl
  | @keep s x y h ih =>
    cases h with
    | nil => rfl
    | @keep s2 x y h =>
      have := ih (fun t ht => hy t (by rw [List.getLast?_cons_cons]; exact ht))
      rw [List.getLast?_cons_cons, List.getLast?_cons_cons]
      exact this
    | @drop s2 x y h hr =>
      have := ih (fun t ht => hy t (by rw [List.getLast?_cons_cons]; exact ht))
      rw [List.getLast?_cons_cons, ← this]
      cases x with
      | nil =>
        rw [List.getLast?_nil] at this
        exact absurd (List.getLast?_eq_none_iff.1 this.symm) (by simp)
      | cons t x => rw [List.getLast?_cons_cons]
  | @drop s x y h hr ih =>
    cases y with
    | nil => exact absurd (zlA hr).1 (hy s rfl)
    | cons t y => rw [List.getLast?_cons_cons]; exact ih (fun u hu => hy u (by rw [List.getLast?_cons_cons]; exact hu))
def zwe (exit e : List Int) : List St → Prop
  | [] => True
  | s :: l => remS s (zbt exit l e) = false ∧ zwe exit e l
theorem zfQ {exit e : List Int} : ∀ {l : List St}, (zdL exit l e).2 = zbt exit (zdL exit l e).1 e
  | [] => rfl
  | s :: l => by
    unfold zdL
    split
    · exact zfQ
    · simp only
      rw [zpZ, zfQ (l := l)]
theorem zn4 {exit e : List Int} : ∀ {l : List St}, LeL (zdL exit l e).2 (zbt exit l e)
  | [] => fun _ h => h
  | s :: l => by
    unfold zdL
    split
    · rename_i hr
      obtain ⟨r1, r2⟩ := zlA hr
      exact zm7 zn4 r1 r2
    · exact zhB zn4
theorem zjK {exit e ee : List Int} (he : LeL ee e) : ∀ {l : List St}, SubD exit ee (zdL exit l e).1 l
  | [] => .nil
  | s :: l => by
    unfold zdL
    split
    · rename_i hr
      rw [zfQ] at hr
      exact .drop (zjK he) (zpd (ze7 he) hr)
    · exact .keep (zjK he)
theorem zm1 {exit e : List Int} : ∀ {l : List St}, (zdL exit l e).1 = l → zwe exit e l
  | [], _ => trivial
  | s :: l, h => by
    unfold zdL at h
    split at h
    · have := (zf8 (exit := exit) (e := e) l).length_le
      rw [h] at this
      simp only [List.length_cons] at this
      omega
    · rename_i hr
      simp only [List.cons.injEq, true_and] at h
      refine ⟨?_, zm1 h⟩
      rw [zfQ, h] at hr
      exact Bool.eq_false_iff.2 hr
theorem zlD {exit e : List Int} : ∀ {l : List St}, zwe exit e l → zdL exit l e = (l, zbt exit l e)
  | [], _ => rfl
  | s :: l, h => by
    have ih := zlD h.2
    unfold zdL
    rw [ih]
    simp only
    rw [if_neg (by rw [h.1]; simp)]
    rfl
def zvR (exit e : List Int) : List St → List St
  | [] => []
  | s :: l => if remS s (zbt exit l e) = true then zvR exit e l else s :: zvR exit e l
theorem zkk {exit : List Int} {g : List Bl} {I : List (List Int)} (hl : I.length = g.length) (hI : ∀ i, i < g.length → LeL (newB exit g I i) (I.getD i [])) : ∀ i, LeL ((zaX exit g).getD i []) (I.getD i []) := by
  have hstep : ∀ (n : Nat) (ins : List (List Int)), LInvU exit g ins → n ≤ g.length → (∀ i, LeL (ins.getD i []) (I.getD i [])) → ∀ i, LeL ((zg1 exit g n ins).getD i []) (I.getD i []) := by
    intro n
    induction n with
    | zero => intro ins _ _ h; exact h
    | succ n ih =>
      intro ins hv hn h
      refine ih _ (hv.step (by omega)) (by omega) fun i => ?_
      unfold zdU
      split
      · exact h i
      · rw [zgl (by rw [hv.len]; omega)]
        split
        · rename_i hi
          subst hi
          exact LeL.trans (zmd (by rw [hv.len, hl]) h _) (hI _ (by omega))
        · exact h i
  have hfix : ∀ (k : Nat) (ins : List (List Int)), LInvU exit g ins → (∀ i, LeL (ins.getD i []) (I.getD i [])) → ∀ i, LeL ((fixL exit g k ins).getD i []) (I.getD i []) := by
    intro k
    induction k with
    | zero => intro ins _ h; exact h
    | succ k ih =>
      intro ins hv h
      rw [fixL]
      split
      · exact h
      · exact ih _ (hv.pass (Nat.le_refl _)).1 (hstep _ _ hv (Nat.le_refl _) h)
  refine hfix _ _ (zlq exit g) fun i x hx => ?_
  have e : (g.map fun _ => ([] : List Int)).getD i [] = [] := by
    rw [List.getD_eq_getElem?_getD, List.getElem?_map]
    cases g[i]? <;> rfl
  rw [e] at hx
  cases hx
def zjf (g : List Bl) : Prop := ∀ b ∈ g, b.stmts ≠ [] ∧ ∀ s, b.stmts.getLast? = some s → s.op ≠ 1
structure RelD (exit : List Int) (x y : List Bl) : Prop where
  len : x.length = y.length
  blk : ∀ i (h1 : i < x.length) (h2 : i < y.length), x[i].addr = y[i].addr ∧ SubD exit (zW exit x i) x[i].stmts y[i].stmts
theorem zmF {g : List Bl} {i : Nat} (h : i < g.length) : (g.map (·.stmts)).getD i [] = g[i].stmts := zx h
theorem znR {exit : List Int} {g : List Bl} {ins : List (List Int)} {i : Nat} (h : i < g.length) : newB exit g ins i = ze5 exit g[i].stmts (endB ins g[i].stmts) := by
  unfold newB; rw [zmF h]
theorem zb7 {exit : List Int} {g : List Bl} {i : Nat} (h : i < g.length) : zW exit g i = endB (zaX exit g) g[i].stmts := by
  unfold zW; rw [zmF h]
theorem zl7 {a b : List (List Int)} {l m : List St} (hl : a.length = b.length) (h : ∀ i, LeL (a.getD i []) (b.getD i [])) (he : l.getLast? = m.getLast?) : LeL (endB a l) (endB b m) := fun x hx => by
  obtain ⟨t, h1, h2, h3⟩ := zdy.1 hx
  refine zdy.2 ⟨t, ?_, ⟨h2.1, by omega⟩, h _ x h3⟩
  unfold zD at h1 ⊢
  rw [← he]
  exact h1
theorem zdo {exit : List Int} {g : List Bl} : (zaX exit g).length = g.length := (zhV exit g).1.len
theorem zf5 {exit e : List Int} {l : List St} (h : l ≠ []) : ze5 exit l e = zbt exit l e := by
  unfold ze5
  rw [if_neg (by cases l with | nil => exact absurd rfl h | cons a l => simp)]
theorem zjV {exit : List Int} {g : List Bl} {i : Nat} (h : i < g.length) : (zaX exit g).getD i [] = ze5 exit g[i].stmts (zW exit g i) := by
  rw [← (zhV exit g).2 i h, znR h, zb7 h]
theorem zxf {g : List (List Int)} {i : Nat} (h : g.length ≤ i) : g.getD i [] = [] := by rw [List.getD_eq_getElem?_getD, List.getElem?_eq_none h]; rfl
theorem SubD.ne {exit e : List Int} {x y : List St} (h : SubD exit e x y) (hy : y ≠ [] ∧ ∀ s, y.getLast? = some s → s.op ≠ 1) : x ≠ [] := by
  have := h.last hy.2
  rintro rfl
  rw [List.getLast?_nil] at this
  exact hy.1 (List.getLast?_eq_none_iff.1 this.symm)
theorem RelD.ends {exit : List Int} {x y : List Bl} (h : RelD exit x y) (hy : zjf y) : zjf x := by
  intro b hb
  obtain ⟨i, hi, rfl⟩ := List.mem_iff_getElem.1 hb
  have hiy : i < y.length := by have := h.len; omega
  obtain ⟨_, h2⟩ := h.blk i hi hiy
  have hm := hy _ (List.getElem_mem hiy)
  exact ⟨h2.ne hm, by rw [h2.last hm.2]; exact hm.2⟩
theorem RelD.live {exit : List Int} {x y : List Bl} (h : RelD exit x y) (hy : zjf y) : ∀ i, LeL ((zaX exit x).getD i []) ((zaX exit y).getD i []) := by
  have hlx := zdo (exit := exit) (g := x)
  have hly := zdo (exit := exit) (g := y)
  have hl := h.len
  let I : List (List Int) := (List.range x.length).map fun i => ((zaX exit x).getD i []).filter fun v => decide (v ∈ (zaX exit y).getD i [])
  have hIl : I.length = x.length := by simp [I]
  have hIg : ∀ i v, v ∈ I.getD i [] → v ∈ (zaX exit x).getD i [] ∧ v ∈ (zaX exit y).getD i [] := fun i v hv => by
    by_cases hi : i < x.length
    · have e : I.getD i [] = ((zaX exit x).getD i []).filter fun v => decide (v ∈ (zaX exit y).getD i []) := by simp [I, List.getD_eq_getElem?_getD, hi]
      rw [e, List.mem_filter] at hv
      exact ⟨hv.1, of_decide_eq_true hv.2⟩
    · rw [zxf (by omega)] at hv
      cases hv
  have hII : ∀ i v, i < x.length → v ∈ (zaX exit x).getD i [] → v ∈ (zaX exit y).getD i [] → v ∈ I.getD i [] := fun i v hi h1 h2 => by
    have e : I.getD i [] = ((zaX exit x).getD i []).filter fun v => decide (v ∈ (zaX exit y).getD i []) := by simp [I, List.getD_eq_getElem?_getD, hi]
    rw [e, List.mem_filter]
    exact ⟨h1, decide_eq_true h2⟩
  have hmain := zkk (exit := exit) (g := x) (I := I) hIl fun i hi v hv => by
    have hiy : i < y.length := by omega
    obtain ⟨_, hs⟩ := h.blk i hi hiy
    have hm := hy _ (List.getElem_mem hiy)
    have hlast := hs.last hm.2
    have hex : LeL (endB I x[i].stmts) (zW exit x i) := by
      rw [zb7 hi]
      exact zl7 (by omega) (fun j v hv => (hIg j v hv).1) rfl
    have hey : LeL (endB I x[i].stmts) (zW exit y i) := by
      rw [zb7 hiy]
      exact zl7 (by omega) (fun j v hv => (hIg j v hv).2) hlast
    rw [znR hi, zf5 (hs.ne hm)] at hv
    refine hII i v hi ?_ ?_
    · rw [zjV hi, zf5 (hs.ne hm)]
      exact ze7 hex v hv
    · rw [zjV hiy, zf5 hm.1]
      exact hs.begin hex hey v hv
  exact fun i v hv => (hIg i v (hmain i v hv)).2
theorem RelD.out {exit : List Int} {x y : List Bl} (h : RelD exit x y) (hy : zjf y) {i : Nat} (hi : i < x.length) : LeL (zW exit x i) (zW exit y i) := by
  have hiy : i < y.length := by have := h.len; omega
  obtain ⟨_, hs⟩ := h.blk i hi hiy
  rw [zb7 hi, zb7 hiy]
  exact zl7 (by rw [zdo, zdo]; exact h.len) (h.live hy) (hs.last (hy _ (List.getElem_mem hiy)).2)
theorem RelD.refl {exit : List Int} {x : List Bl} : RelD exit x x := ⟨rfl, fun _ _ _ => ⟨rfl, SubD.refl⟩⟩
theorem RelD.trans {exit : List Int} {x y z : List Bl} (h : RelD exit x y) (k : RelD exit y z) (hz : zjf z) : RelD exit x z := by
  refine ⟨h.len.trans k.len, fun i h1 h2 => ?_⟩
  have hy : i < y.length := by have := h.len; omega
  obtain ⟨a1, a2⟩ := h.blk i h1 hy
  obtain ⟨b1, b2⟩ := k.blk i hy h2
  exact ⟨a1.trans b1, a2.trans b2 (h.out (k.ends hz) h1)⟩
theorem RelD.subB {exit : List Int} {x y : List Bl} (h : RelD exit x y) : SubB x y := ⟨h.len, fun i h1 h2 => ⟨(h.blk i h1 h2).1, (h.blk i h1 h2).2.sub⟩⟩
theorem ztc {exit : List Int} {y z : List Bl} (hy : zjf y) (hl : z.length = y.length)
    (hb : ∀ i (h1 : i < z.length) (h2 : i < y.length), z[i].stmts.getLast? = y[i].stmts.getLast? ∧ z[i].stmts ≠ [] ∧ LeL (zbt exit z[i].stmts (zW exit y i)) (zbt exit y[i].stmts (zW exit y i))) {i : Nat} (hi : i < z.length) : LeL (zW exit z i) (zW exit y i) := by
  have hm := zkk (exit := exit) (g := z) (I := zaX exit y) (by rw [zdo]; omega) fun j hj v hv => by
    have hjy : j < y.length := by omega
    obtain ⟨b1, b2, b3⟩ := hb j hj hjy
    rw [znR hj, zf5 b2] at hv
    rw [zjV hjy, zf5 (hy _ (List.getElem_mem hjy)).1]
    refine b3 v (ze7 ?_ v hv)
    rw [zb7 hjy]
    exact zl7 rfl (fun _ _ h => h) b1
  rw [zb7 hi, zb7 (show i < y.length by omega)]
  exact zl7 (by rw [zdo, zdo]; exact hl) hm (hb i hi (by omega)).1
theorem zmV {exit : List Int} {y : List Bl} (hy : zjf y) : RelD exit (zbF exit y) y := by
  have hs : ∀ i (h2 : i < y.length) (ee : List Int), LeL ee (zW exit y i) → SubD exit ee (blkD exit y i y[i]).stmts y[i].stmts := fun i h2 ee he => zjK he
  refine ⟨zdx, fun i h1 h2 => ?_⟩
  rw [zfN h2]
  refine ⟨rfl, hs i h2 _ (ztc hy zdx (fun j k1 k2 => ?_) h1)⟩
  rw [zfN k2]
  have hm := hy _ (List.getElem_mem k2)
  have h3 := hs j k2 _ (fun _ h => h)
  refine ⟨h3.last hm.2, h3.ne hm, ?_⟩
  show LeL (zbt exit (zdL exit y[j].stmts (zW exit y j)).1 _) _
  rw [← zfQ]
  exact zn4
def zt3 (exit : List Int) (bl : List Bl) : List Bl := bl.mapIdx fun i b => ⟨b.addr, zvR exit (zW exit bl i) b.stmts⟩
def zyV (exit : List Int) (x : List Bl) : Prop := ∀ i (h : i < x.length), zwe exit (zW exit x i) x[i].stmts
theorem zoR {exit : List Int} {y : List Bl} (h : zz (zbF exit y) = zz y) : zyV exit y := by
  have e := zbH.same h
  intro i hi
  have h2 := zfN (exit := exit) hi
  simp only [e] at h2
  exact zm1 (congrArg Bl.stmts h2).symm
theorem zqO {exit : List Int} {y : List Bl} (h : zyV exit y) : zbF exit y = y := by
  apply List.ext_getElem
  · exact zdx
  · intro i h1 h2
    rw [zfN h2]
    unfold blkD
    rw [zlD (h i h2)]
theorem zo1 {exit : List Int} : ∀ (k : Nat) {y : List Bl}, zjf y → RelD exit (zhW exit k y) y
  | 0, _, _ => RelD.refl
  | k + 1, y, hy => by
    unfold zhW
    split
    · exact RelD.refl
    · exact (zo1 k ((zmV hy).ends hy)).trans (zmV hy) hy
theorem zni {exit : List Int} : ∀ (k : Nat) {y : List Bl}, zz y < k → zyV exit (zhW exit k y)
  | 0, _, h => absurd h (Nat.not_lt_zero _)
  | k + 1, y, h => by
    unfold zhW
    split
    · rename_i he
      exact zoR he
    · have := (zbH (exit := exit) (bl := y)).count
      exact zni k (by omega)
def deadR (exit : List Int) : Nat → List Bl → List Bl
  | 0, bl => bl
  | k + 1, bl => if zz (zt3 exit bl) = zz bl then zt3 exit bl else deadR exit k (zt3 exit bl)
theorem zrt {exit : List Int} {g : List Bl} {j k : Nat} (hj : zz g < j) : zhW exit k (zhW exit j g) = zhW exit j g := by
  have d1 := zni (exit := exit) j hj
  cases k with
  | zero => rfl
  | succ k =>
    rw [zhW, if_pos (by rw [zqO d1])]
theorem SubD.endsOk {exit e : List Int} {x y : List St} (h : SubD exit e x y) (hy : endsOk y = true) : endsOk x = true ∧ (y ≠ [] → x ≠ []) := by
  induction h with
  | nil => exact ⟨rfl, fun h => h⟩
  | @keep s x y h ih =>
    rw [Go.Ab.endsOk, Bool.and_eq_true, beq_iff_eq] at hy
    obtain ⟨i1, i2⟩ := ih hy.2
    refine ⟨?_, fun _ => by simp⟩
    rw [Go.Ab.endsOk, i1, Bool.and_true, beq_iff_eq, hy.1]
    cases y with
    | nil => cases h; rfl
    | cons t y =>
      cases x with
      | nil => exact absurd rfl (i2 (by simp))
      | cons u x => rfl
  | @drop s x y h hr ih =>
    rw [Go.Ab.endsOk, Bool.and_eq_true, beq_iff_eq] at hy
    obtain ⟨i1, i2⟩ := ih hy.2
    refine ⟨i1, fun _ => ?_⟩
    have he : zhE s = false := by
      unfold zhE
      rw [(zlA hr).1]
      rfl
    rw [he] at hy
    refine i2 ?_
    rintro rfl
    cases hy.1
theorem zin : ∀ {l : List St}, endsOk l = true → ∀ s, l.getLast? = some s → s.op ≠ 1
  | [], _, s, h => by cases h
  | [x], h, s, hs => by
    simp only [List.getLast?_singleton, Option.some.injEq] at hs
    subst hs
    rw [endsOk, Bool.and_eq_true, beq_iff_eq] at h
    have := h.1
    intro h1
    unfold zhE at this
    rw [h1] at this
    cases this
  | x :: y :: l, h, s, hs => by
    rw [endsOk, Bool.and_eq_true] at h
    rw [List.getLast?_cons_cons] at hs
    exact zin h.2 s hs
theorem zip : ∀ {l : List St}, zdd l = 0 ↔ ∀ s ∈ l, s.check = 0
  | [] => by simp [zdd]
  | s :: l => by
    rw [zdd]
    split
    · rename_i h
      constructor
      · intro h2; exact absurd h2 h
      · intro h2; exact absurd (h2 s (by simp)) h
    · rename_i h
      rw [zip]
      have h : s.check = 0 := Classical.not_not.1 h
      simp [h]
theorem ziF : ∀ {l : List Bl}, zff l = 0 ↔ ∀ b ∈ l, ∀ s ∈ b.stmts, s.check = 0
  | [] => by simp [zff]
  | b :: l => by
    rw [zff]
    split
    · rename_i h
      constructor
      · intro h2; exact absurd h2 h
      · intro h2; exact absurd (zip.2 (h2 b (by simp))) h
    · rename_i h
      rw [ziF]
      have h : zdd b.stmts = 0 := Classical.not_not.1 h
      rw [zip] at h
      constructor
      · intro h2 c hc
        rcases List.mem_cons.1 hc with rfl | hc
        · exact h
        · exact h2 c hc
      · exact fun h2 c hc => h2 c (List.mem_cons_of_mem _ hc)
structure OkG (g : G) : Prop where
  len : g.blocks.length ≤ 256
  cnt : zz g.blocks ≤ 1024
  ne : g.blocks ≠ []
  closed : ∀ b ∈ g.blocks, b.stmts ≠ [] ∧ endsOk b.stmts = true ∧ ∀ t ∈ zD b.stmts, 0 ≤ t ∧ t < g.blocks.length
  chk : ∀ b ∈ g.blocks, ∀ s ∈ b.stmts, s.check = 0
theorem zt5 {g : G} : zgR g = 0 ↔ OkG g := by
  unfold zgR zrL
  constructor
  · intro h
    split at h
    · cases h
    · rename_i h1
      split at h
      · rename_i h2
        rw [Bool.and_eq_true, List.all_eq_true] at h2
        refine ⟨by omega, by omega, ?_, fun b hb => ?_, ziF.1 h⟩
        · rintro h3
          rw [h3] at h2
          cases h2.1
        · have := h2.2 b hb
          unfold zcH at this
          rw [Bool.and_eq_true, Bool.and_eq_true, List.all_eq_true] at this
          refine ⟨?_, this.2.1, fun t ht => of_decide_eq_true (this.2.2 t ht)⟩
          rintro h3
          rw [h3] at this
          cases this.1
      · cases h
  · rintro ⟨h1, h2, h3, h4, h5⟩
    rw [if_neg (by omega), if_pos, ziF.2 h5]
    rw [Bool.and_eq_true, List.all_eq_true]
    refine ⟨?_, fun b hb => ?_⟩
    · cases hg : g.blocks with
      | nil => exact absurd hg h3
      | cons a l => rfl
    · obtain ⟨k1, k2, k3⟩ := h4 b hb
      unfold zcH
      rw [Bool.and_eq_true, Bool.and_eq_true, List.all_eq_true]
      refine ⟨?_, k2, fun t ht => decide_eq_true (k3 t ht)⟩
      cases hg : b.stmts with
      | nil => exact absurd hg k1
      | cons a l => rfl
theorem OkG.ends {g : G} (h : OkG g) : zjf g.blocks := fun b hb => ⟨(h.closed b hb).1, zin (h.closed b hb).2.1⟩
theorem OkG.rel {exit : List Int} {g : G} (h : OkG g) {x : List Bl} (k : RelD exit x g.blocks) : OkG ⟨g.addr, x⟩ := by
  have hs := k.subB
  refine ⟨by have := k.len; have := h.len; simp only; omega, Nat.le_trans hs.count h.cnt, ?_, fun b hb => ?_, fun b hb s hm => ?_⟩
  · have := k.len
    intro h2
    simp only at h2
    rw [h2] at this
    exact h.ne (List.eq_nil_of_length_eq_zero this.symm)
  · obtain ⟨i, hi, rfl⟩ := List.mem_iff_getElem.1 hb
    simp only at hi ⊢
    have hig : i < g.blocks.length := by have := k.len; omega
    obtain ⟨c1, c2, c3⟩ := h.closed _ (List.getElem_mem hig)
    obtain ⟨_, h2⟩ := k.blk i hi hig
    obtain ⟨e1, e2⟩ := h2.endsOk c2
    refine ⟨e2 c1, e1, ?_⟩
    have hl := h2.last (zin c2)
    have : zD x[i].stmts = zD g.blocks[i].stmts := by unfold zD; rw [hl]
    rw [this, k.len]
    exact c3
  · obtain ⟨y, hy, _, h2⟩ := hs.mem hb
    exact h.chk y hy s (h2.mem hm)
def st0 : St := ⟨0, 0, 0, 0, 0, 0, [], []⟩
def revP (l : List St) (i x : Nat) : St := if x < i ∨ l.length - i ≤ x then l.getD (l.length - 1 - x) st0 else l.getD x st0
def revL (l : List St) (i : Nat) : List St := (List.range l.length).map (revP l i)
theorem zxy {l : List St} {i : Nat} : (revL l i).length = l.length := by simp [revL]
theorem zpl {l : List St} : revL l 0 = l := by
  apply List.ext_getElem?
  intro x
  unfold revL revP
  by_cases hx : x < l.length
  · have : ¬ l.length ≤ x := by omega
    simp [hx, List.getD_eq_getElem?_getD, this]
  · simp [hx]
theorem zxm {l : List St} {i : Nat} (h : l.length ≤ 2 * i + 1) : revL l i = l.reverse := by
  apply List.ext_getElem?
  intro x
  unfold revL revP
  by_cases hx : x < l.length
  · rw [List.getElem?_reverse hx]
    simp only [List.getElem?_map, List.getElem?_range hx, Option.map_some]
    by_cases hc : x < i ∨ l.length - i ≤ x
    · rw [if_pos hc]
      rw [List.getD_eq_getElem?_getD, List.getElem?_eq_getElem (show l.length - 1 - x < l.length by omega)]
      rfl
    · rw [if_neg hc, show l.length - 1 - x = x by omega, List.getD_eq_getElem?_getD, List.getElem?_eq_getElem hx]
      rfl
  · simp [hx]
theorem zr3 {l : List St} {i x : Nat} (hx : x < l.length) : ((revL l i).map St.cells).getD x [] = (revP l i x).cells := by
  simp [revL, List.getD_eq_getElem?_getD, hx]
theorem zuz {l : List St} {i : Nat} (h : 2 * i + 1 < l.length) :
    (((revL l i).map St.cells).set i (revP l i (l.length - 1 - i)).cells).set (l.length - 1 - i) (revP l i i).cells = (revL l (i + 1)).map St.cells := by
  unfold revL
  rw [List.map_map, List.map_map, zes, zes]
  refine List.map_congr_left fun x hx => ?_
  have hx' := List.mem_range.1 hx
  unfold updF
  simp only [Function.comp]
  by_cases h1 : x = l.length - 1 - i
  · rw [if_pos h1]
    unfold revP
    rw [if_neg (by omega), if_pos (by omega), show l.length - 1 - x = i by omega]
  · rw [if_neg h1]
    by_cases h2 : x = i
    · rw [if_pos h2]
      unfold revP
      rw [if_neg (by omega), if_pos (by omega), h2]
    · rw [if_neg h2]
      unfold revP
      by_cases h3 : x < i ∨ l.length - i ≤ x
      · rw [if_pos h3, if_pos (by omega)]
      · rw [if_neg h3, if_neg (by omega)]
theorem renS {ρ : Nat → Nat} {l : List St} {g : Nat} : AObj.ren ρ (.row 8 (l.map St.cells) g) = .row 8 (l.map St.cells) g := by
  simp only [AObj.ren]
  rw [zgd (zg fun s => s.flat)]
theorem zjJ (l : List St) (g : Nat) (hl : l.length ≤ 1000000) : zZ Tryz.prog zak [.own 0 0 g 0 l.length] [(0, .row 8 (l.map St.cells) g)] 1
    (fun v H nx => v = .tup [] ∧ H = [(0, .row 8 (l.reverse.map St.cells) g)] ∧ nx = 1) := by
  refine zce (fn_x zcK rfl ?_)
  unfold zaW
  have hB := hBig
  (repeat first | simp (disch := try exact dis1) only [evD, Nat.reduceBEq, Nat.reduceAdd, Nat.reduceLeDiff] | with_reducible intro _ | ((with_reducible apply And.intro); omega))
  refine zl (fun i : Nat => ([(0, .own 0 0 g 0 l.length), (2, .int .i64 i), (3, .int .i64 ((l.length : Int) - 1 - i))], [(0, .row 8 ((revL l i).map St.cells) g)])) 1 (fun i => 2 * i ≤ l.length + 1) (fun i => l.length + 1 - i) 0 (by omega) (Ent.tabB [(0, 0, 0)] [] rfl rfl rfl (by (try simp only [evWB, Nat.reduceBEq, Nat.reduceAdd, Nat.reduceSub, Nat.reduceLeDiff, Nat.reduceLT, implies_true, zpl]) <;> exact fin2) (by (try simp only [evWB, Nat.reduceBEq, Nat.reduceAdd, Nat.reduceSub, Nat.reduceLeDiff, Nat.reduceLT, implies_true, zpl]) <;> exact fin2)) ?_
  intro i hi wf
  unfold zaL
  (repeat first | simp (disch := try exact dis1) only [evD, Nat.reduceBEq, Nat.reduceAdd, Nat.reduceLeDiff] | with_reducible intro _ | ((with_reducible apply And.intro); omega))
  (refine zas (fun h => ?_) (fun h => ?_)) <;> (try simp only [dcd] at h)
  · have e : ((l.length : Int) - 1 - i).toNat = l.length - 1 - i := by omega
    have hsw := zuz (l := l) (i := i) (by omega)
    have g1 := zr3 (l := l) (i := i) (show l.length - 1 - i < l.length by omega)
    have g2 := zr3 (l := l) (i := i) (show i < l.length by omega)
    (repeat first | simp (disch := try exact dis1) only [evD, Nat.reduceBEq, Nat.reduceAdd, Nat.reduceLeDiff, e, zxy, g1, g2, St.len, St.eight, List.length_set] | with_reducible intro _ | ((with_reducible apply And.intro); omega))
    rw [hsw]
    exact ⟨i + 1, by omega, by omega, (Ent.tabB [(0, 0, 0)] [] rfl rfl rfl (by (try simp only [evWB, Nat.reduceBEq, Nat.reduceAdd, Nat.reduceSub, Nat.reduceLeDiff, Nat.reduceLT, implies_true]) <;> exact fin2) (by (try simp only [evWB, Nat.reduceBEq, Nat.reduceAdd, Nat.reduceSub, Nat.reduceLeDiff, Nat.reduceLT, implies_true]) <;> exact fin2))⟩
  · (repeat first | simp (disch := try exact dis1) only [evD, Nat.reduceBEq, Nat.reduceAdd, Nat.reduceLeDiff, zaY] | with_reducible intro _ | ((with_reducible apply And.intro); omega))
    refine ⟨.tup [], [(0, .row 8 (l.reverse.map St.cells) g)], 1, ?_, rfl, rfl, rfl⟩
    rw [zxm (by omega)]
    exact (Ent.tabB [(0, 0, 0)] [] rfl rfl rfl (by (try simp only [evWB, Nat.reduceBEq, Nat.reduceAdd, Nat.reduceSub, Nat.reduceLeDiff, Nat.reduceLT, implies_true]) <;> exact fin2) (by (try simp only [evWB, Nat.reduceBEq, Nat.reduceAdd, Nat.reduceSub, Nat.reduceLeDiff, Nat.reduceLT, implies_true]) <;> exact fin2))
def zer (ad : Int) (n : Nat) (D : List Bl) (T : Nat → MS) : AH := [(0, .row 2 [[.int .u32 0, .nilsl]] 0), (1, .row 2 [[.int .u32 ad, .own 2 0 0 0 n]] 0), (2, .row 2 (D.map Bl.cells) 0), (3, .row 1 (mps 4 n) 0), (4, famS n T)]
theorem zxc {exit : List Int} {sts : List St} {i : Nat} {a : MS} (h : i < sts.length) : keepM exit (sts.drop i) a = if remS sts[i] (keepM exit (sts.drop (i + 1)) a).2.keys = true then keepM exit (sts.drop (i + 1)) a else (sts[i] :: (keepM exit (sts.drop (i + 1)) a).1, zdc exit sts[i] (keepM exit (sts.drop (i + 1)) a).2) := by
  rw [List.drop_eq_getElem_cons h, keepM]
theorem ztN {α : Type} {f : α → List AV} {A : List α} {a : α} {i : Nat} {c : List AV} {H HH : AH} {σ : Nat → Nat → Option (Nat × Nat × Nat)} {D : Nat → Nat → Prop} (hf : ∀ a, zI (f a) = true) (hi : i < A.length) (hl : (f a).length = c.length)
    (h : ∀ (j : Nat) (x y : AV), c[j]? = some x → (f a)[j]? = some y → Vw H HH σ D true x y) : RowV H HH σ D ((A.map f).set i c) ((A.set i a).map f) := by
  refine ⟨by simp, fun k c2 hk => ?_⟩
  rw [List.map_set] at hk
  by_cases hki : i = k
  · subst hki
    rw [List.getElem?_set_self (by simpa using hi)] at hk ⊢
    cases hk
    exact ⟨c, rfl, hl, h⟩
  · rw [List.getElem?_set_ne hki] at hk ⊢
    refine ⟨c2, hk, rfl, fun j x y h1 h2 => ?_⟩
    rw [h1] at h2
    cases h2
    obtain ⟨b, _, rfl⟩ := List.mem_map.1 (List.mem_of_getElem? hk)
    exact zcd (zaO (hf b) h1)
theorem zsY {H HH : AH} {σ : Nat → Nat → Option (Nat × Nat × Nat)} {D : Nat → Nat → Prop} {r : Nat} {kp : List St} {x : Int} (hD : D r 0) (hg : H.get r 0 = some (.row 8 (kp.map St.cells) 0)) (hb : kp.length ≤ big) :
    ∀ (j : Nat) (a b : AV), [AV.int .u32 x, .own r 0 0 0 kp.length][j]? = some a → (Bl.cells ⟨x, kp⟩)[j]? = some b → Vw H HH σ D true a b := by
  intro j a b h1 h2
  match j with
  | 0 => cases h1; cases h2; exact .int _ _ _
  | 1 => cases h1; cases h2; exact zyc hD hg hb
  | j + 2 => cases h1
theorem zyJ {Q : QT} (ad : Int) (n b : Nat) (hb : b < n) (hn : n ≤ 1000000) (D : List Bl) (hD : D.length = n) (T : Nat → MS) (exit : List Int) (sts : List St) (a0 : MS) (r0 : Nat) (m0 : Bool)
    (hsz : ∀ s ∈ sts, zA s.e ≤ 100000) (ha : a0.ok) (h1 : a0.1 + zaT exit.length sts ≤ 1000000) (h2 : a0.2.length + zaT exit.length sts ≤ 1000000) (hlen : sts.length ≤ 1000000) (hr0 : r0 + sts.length ≤ 2000000)
    (hfin : ∀ K H nx, Ent 0 K H nx [(1, za exit), (4, .ptr 0 0 0 0 0), (8, .ptr 1 0 0 0 0), (9, .int .i64 ((r0 + (sts.length - (keepM exit sts a0).1.length) : Nat) : Int)), (10, .bool (m0 || decide ((keepM exit sts a0).1.length < sts.length))), (12, .own 3 0 0 0 n), (35, .int .i64 n), (36, .int .i64 ((b + 1 : Nat) : Int))]
      (zer ad n (D.set b ⟨(D[b]'(by omega)).addr, (keepM exit sts a0).1⟩) T) 5 → Q .normal K H nx)
    {K : Kn} {H : AH} {nx : Nat} (hent : Ent 0 K H nx [(1, za exit), (4, .ptr 0 0 0 0 0), (8, .ptr 1 0 0 0 0), (9, .int .i64 r0), (10, .bool m0), (12, .own 3 0 0 0 n), (13, .int .i64 b), (14, .mp 5 0), (15, encL 8 St.cells sts), (16, .own 6 0 0 0 0), (17, .int .i64 ((sts.length : Int) - 1)), (35, .int .i64 n), (36, .int .i64 b)]
      (zer ad n D T ++ [(5, .row 3 ((setM a0.1 a0.2).map cm) 0), (6, .row 8 [] 0)]) 7) :
    ziK Tryz.prog 0 zcN (zbw 4 (seqQ Tryz.prog 0 zcP (zbw 3 (seqQ Tryz.prog 0 zcM Q)))) K H nx := by
  have hB := hBig
  have hz : keepM exit (sts.drop sts.length) a0 = ([], a0) := by rw [List.drop_length]; rfl
  have hlk := fun i => (zkK (exit := exit) (e := a0) (sts.drop i)).length_le
  simp only [List.length_drop] at hlk
  refine zl (fun i : Nat => ([(1, za exit), (4, .ptr 0 0 0 0 0), (8, .ptr 1 0 0 0 0), (9, .int .i64 ((r0 + (sts.length - i - (keepM exit (sts.drop i) a0).1.length) : Nat) : Int)), (10, .bool (m0 || decide ((keepM exit (sts.drop i) a0).1.length < sts.length - i))), (12, .own 3 0 0 0 n), (13, .int .i64 b), (14, .mp 5 0), (15, encL 8 St.cells sts), (16, .own 6 0 0 0 (keepM exit (sts.drop i) a0).1.length), (17, .int .i64 ((i : Int) - 1)), (35, .int .i64 n), (36, .int .i64 b)],
      zer ad n D T ++ [(5, .row 3 ((setM (keepM exit (sts.drop i) a0).2.1 (keepM exit (sts.drop i) a0).2.2).map cm) 0), (6, .row 8 ((keepM exit (sts.drop i) a0).1.reverse.map St.cells) 0)])) 7
    (fun i => i ≤ sts.length) (fun i => i) sts.length (Nat.le_refl _) ?_ ?_
  · rw [hz]
    simp only [List.length_nil, Nat.sub_self, Nat.lt_irrefl, decide_false, Bool.or_false, Nat.add_zero, List.reverse_nil, List.map_nil]
    exact hent
  rintro i hi wf
  unfold zcN
  have hc := zkG (k := exit.length) (l := sts) (i := i)
  obtain ⟨k1, k2, k3⟩ := zsk (exit := exit) (l := sts.drop i) ha (by omega) (by omega)
  have hli := hlk i
  rcases Nat.eq_zero_or_pos i with rfl | hp
  · rw [List.drop_zero] at *
    generalize keepM exit sts a0 = R at *
    obtain ⟨kp, a⟩ := R
    simp only [Nat.sub_zero] at *
    have hrl : kp.reverse.length = kp.length := List.length_reverse
    have hrr : kp.reverse.reverse = kp := List.reverse_reverse kp
    have hbD : b < D.length := by omega
    have hrev := zjJ kp.reverse 0 (by omega)
    rw [hrl, hrr] at hrev
    (repeat first | simp (disch := try exact dis1) only [evD, Nat.reduceBEq, Nat.reduceAdd, Nat.reduceLeDiff, dF, Int.natCast_zero, zer, List.cons_append, List.nil_append] | with_reducible intro _ | ((with_reducible apply And.intro); omega))
    unfold zcP
    (repeat first | simp (disch := try exact dis1) only [evD, Nat.reduceBEq, Nat.reduceAdd, Nat.reduceLeDiff] | with_reducible intro _ | ((with_reducible apply And.intro); omega))
    refine zS [(0, 6, 0)] 1 _ (hrev) rfl rfl fin8 fin8 ?_
    rintro _ _ _ ⟨rfl, rfl, rfl⟩
    have hg : (D.map Bl.cells).getD b [] = [.int .u32 D[b].addr, encL 8 St.cells D[b].stmts] := zx (f := Bl.cells) (d := []) hbD
    have hsp : ∀ x y z : AV, splice [x, y] 1 [z] = [x, z] := fun _ _ _ => rfl
    (repeat first | simp (disch := try exact dis1) only [evD, Nat.reduceBEq, Nat.reduceAdd, Nat.reduceLeDiff, renS, hg, hsp] | with_reducible intro _ | ((with_reducible apply And.intro); omega))
    unfold zcM
    (repeat first | simp (disch := try exact dis1) only [evD, Nat.reduceBEq, Nat.reduceAdd, Nat.reduceLeDiff] | with_reducible intro _ | ((with_reducible apply And.intro); omega))
    refine hfin _ _ _ ?_
    refine Ent.tab [(0, 0, 0), (1, 1, 0), (2, 2, 0), (3, 3, 0), (4, 4, 0)] [6] rfl ?_ ?_
    · ((try simp only [evWB, Nat.reduceBEq, Nat.reduceAdd, Nat.reduceSub, Nat.reduceLeDiff, Nat.reduceLT, implies_true, zer, famS]) <;> ((repeat' with_reducible apply And.intro) <;> first | omega | rfl | (exact ztN (fun _ => rfl) hbD rfl (zsY rfl rfl (by omega)); done) | (refine zF zM (by decide) ⟨rfl, rfl⟩ ?_; (try simp only [evWB, Nat.reduceBEq, Nat.reduceAdd, Nat.reduceSub, Nat.reduceLeDiff, Nat.reduceLT, implies_true, zer, famS]) <;> ((repeat' with_reducible apply And.intro) <;> first | omega | rfl | (refine zF zM (by decide) ⟨rfl, rfl⟩ ?_; (try simp only [evWB, Nat.reduceBEq, Nat.reduceAdd, Nat.reduceSub, Nat.reduceLeDiff, Nat.reduceLT, implies_true, zer, famS]) <;> ((repeat' with_reducible apply And.intro) <;> first | omega | rfl | exact zgj (fun _ => rfl) | exact Vw.it _ _ rfl | exact Vw.mp _ _ _ _ rfl | exact zF zM (by decide) ⟨rfl, rfl⟩ trivial | exact zF zM (by decide) (fun _ _ => ⟨rfl, rfl⟩) trivial | (refine ziv rfl ?_; (repeat' (first | exact zg zM | exact z6 | exact zg (fun _ => rfl) | exact zg (fun _ => zi) | exact zg (fun _ => zb) | exact zo zi | exact zo zb | exact zaf rfl | exact zae | exact zo rfl | refine zO ?_ ?_ | refine zh rfl ?_ | refine zh zi ?_ | refine zh zb ?_)); done) | exact zdz rfl | (refine RowV.of_flat ?_; (repeat' (first | exact zg zM | exact z6 | exact zg (fun _ => rfl) | exact zg (fun _ => zi) | exact zg (fun _ => zb) | exact zo zi | exact zo zb | exact zaf rfl | exact zae | exact zo rfl | refine zO ?_ ?_ | refine zh rfl ?_ | refine zh zi ?_ | refine zh zb ?_)); done) | ((repeat' (first | exact zg zM | exact z6 | exact zg (fun _ => rfl) | exact zg (fun _ => zi) | exact zg (fun _ => zb) | exact zo zi | exact zo zb | exact zaf rfl | exact zae | exact zo rfl | refine zO ?_ ?_ | refine zh rfl ?_ | refine zh zi ?_ | refine zh zb ?_)); done) | exact zfH rfl rfl (by omega) | exact zbh rfl rfl (by omega) | exact zdE rfl rfl (by omega) | exact zfK (fun _ => rfl) | exact zF (fun _ => rfl) (by decide) ⟨rfl, rfl⟩ trivial | exact zF (fun _ => rfl) (by decide) (fun _ _ => ⟨rfl, rfl⟩) trivial | (simp; done)); done) | exact zgj (fun _ => rfl) | exact Vw.it _ _ rfl | exact Vw.mp _ _ _ _ rfl | exact zF zM (by decide) ⟨rfl, rfl⟩ trivial | exact zF zM (by decide) (fun _ _ => ⟨rfl, rfl⟩) trivial | (refine ziv rfl ?_; (repeat' (first | exact zg zM | exact z6 | exact zg (fun _ => rfl) | exact zg (fun _ => zi) | exact zg (fun _ => zb) | exact zo zi | exact zo zb | exact zaf rfl | exact zae | exact zo rfl | refine zO ?_ ?_ | refine zh rfl ?_ | refine zh zi ?_ | refine zh zb ?_)); done) | exact zdz rfl | (refine RowV.of_flat ?_; (repeat' (first | exact zg zM | exact z6 | exact zg (fun _ => rfl) | exact zg (fun _ => zi) | exact zg (fun _ => zb) | exact zo zi | exact zo zb | exact zaf rfl | exact zae | exact zo rfl | refine zO ?_ ?_ | refine zh rfl ?_ | refine zh zi ?_ | refine zh zb ?_)); done) | ((repeat' (first | exact zg zM | exact z6 | exact zg (fun _ => rfl) | exact zg (fun _ => zi) | exact zg (fun _ => zb) | exact zo zi | exact zo zb | exact zaf rfl | exact zae | exact zo rfl | refine zO ?_ ?_ | refine zh rfl ?_ | refine zh zi ?_ | refine zh zb ?_)); done) | exact zfH rfl rfl (by omega) | exact zbh rfl rfl (by omega) | exact zdE rfl rfl (by omega) | exact zfK (fun _ => rfl) | exact zF (fun _ => rfl) (by decide) ⟨rfl, rfl⟩ trivial | exact zF (fun _ => rfl) (by decide) (fun _ _ => ⟨rfl, rfl⟩) trivial | (simp; done)); done) | exact zgj (fun _ => rfl) | exact Vw.it _ _ rfl | exact Vw.mp _ _ _ _ rfl | exact zF zM (by decide) ⟨rfl, rfl⟩ trivial | exact zF zM (by decide) (fun _ _ => ⟨rfl, rfl⟩) trivial | (refine ziv rfl ?_; (repeat' (first | exact zg zM | exact z6 | exact zg (fun _ => rfl) | exact zg (fun _ => zi) | exact zg (fun _ => zb) | exact zo zi | exact zo zb | exact zaf rfl | exact zae | exact zo rfl | refine zO ?_ ?_ | refine zh rfl ?_ | refine zh zi ?_ | refine zh zb ?_)); done) | exact zdz rfl | (refine RowV.of_flat ?_; (repeat' (first | exact zg zM | exact z6 | exact zg (fun _ => rfl) | exact zg (fun _ => zi) | exact zg (fun _ => zb) | exact zo zi | exact zo zb | exact zaf rfl | exact zae | exact zo rfl | refine zO ?_ ?_ | refine zh rfl ?_ | refine zh zi ?_ | refine zh zb ?_)); done) | ((repeat' (first | exact zg zM | exact z6 | exact zg (fun _ => rfl) | exact zg (fun _ => zi) | exact zg (fun _ => zb) | exact zo zi | exact zo zb | exact zaf rfl | exact zae | exact zo rfl | refine zO ?_ ?_ | refine zh rfl ?_ | refine zh zi ?_ | refine zh zb ?_)); done) | exact zfH rfl rfl (by omega) | exact zbh rfl rfl (by omega) | exact zdE rfl rfl (by omega) | exact zfK (fun _ => rfl) | exact zF (fun _ => rfl) (by decide) ⟨rfl, rfl⟩ trivial | exact zF (fun _ => rfl) (by decide) (fun _ _ => ⟨rfl, rfl⟩) trivial | (simp; done)))
    · ((try simp only [evWB, Nat.reduceBEq, Nat.reduceAdd, Nat.reduceSub, Nat.reduceLeDiff, Nat.reduceLT, implies_true, zer]) <;> ((repeat' with_reducible apply And.intro) <;> first | omega | rfl | (rfl; done) | (refine zF zM (by decide) ⟨rfl, rfl⟩ ?_; (try simp only [evWB, Nat.reduceBEq, Nat.reduceAdd, Nat.reduceSub, Nat.reduceLeDiff, Nat.reduceLT, implies_true, zer]) <;> ((repeat' with_reducible apply And.intro) <;> first | omega | rfl | (refine zF zM (by decide) ⟨rfl, rfl⟩ ?_; (try simp only [evWB, Nat.reduceBEq, Nat.reduceAdd, Nat.reduceSub, Nat.reduceLeDiff, Nat.reduceLT, implies_true, zer]) <;> ((repeat' with_reducible apply And.intro) <;> first | omega | rfl | exact zgj (fun _ => rfl) | exact Vw.it _ _ rfl | exact Vw.mp _ _ _ _ rfl | exact zF zM (by decide) ⟨rfl, rfl⟩ trivial | exact zF zM (by decide) (fun _ _ => ⟨rfl, rfl⟩) trivial | (refine ziv rfl ?_; (repeat' (first | exact zg zM | exact z6 | exact zg (fun _ => rfl) | exact zg (fun _ => zi) | exact zg (fun _ => zb) | exact zo zi | exact zo zb | exact zaf rfl | exact zae | exact zo rfl | refine zO ?_ ?_ | refine zh rfl ?_ | refine zh zi ?_ | refine zh zb ?_)); done) | exact zdz rfl | (refine RowV.of_flat ?_; (repeat' (first | exact zg zM | exact z6 | exact zg (fun _ => rfl) | exact zg (fun _ => zi) | exact zg (fun _ => zb) | exact zo zi | exact zo zb | exact zaf rfl | exact zae | exact zo rfl | refine zO ?_ ?_ | refine zh rfl ?_ | refine zh zi ?_ | refine zh zb ?_)); done) | ((repeat' (first | exact zg zM | exact z6 | exact zg (fun _ => rfl) | exact zg (fun _ => zi) | exact zg (fun _ => zb) | exact zo zi | exact zo zb | exact zaf rfl | exact zae | exact zo rfl | refine zO ?_ ?_ | refine zh rfl ?_ | refine zh zi ?_ | refine zh zb ?_)); done) | exact zfH rfl rfl (by omega) | exact zbh rfl rfl (by omega) | exact zdE rfl rfl (by omega) | exact zfK (fun _ => rfl) | exact zF (fun _ => rfl) (by decide) ⟨rfl, rfl⟩ trivial | exact zF (fun _ => rfl) (by decide) (fun _ _ => ⟨rfl, rfl⟩) trivial | (simp; done)); done) | exact zgj (fun _ => rfl) | exact Vw.it _ _ rfl | exact Vw.mp _ _ _ _ rfl | exact zF zM (by decide) ⟨rfl, rfl⟩ trivial | exact zF zM (by decide) (fun _ _ => ⟨rfl, rfl⟩) trivial | (refine ziv rfl ?_; (repeat' (first | exact zg zM | exact z6 | exact zg (fun _ => rfl) | exact zg (fun _ => zi) | exact zg (fun _ => zb) | exact zo zi | exact zo zb | exact zaf rfl | exact zae | exact zo rfl | refine zO ?_ ?_ | refine zh rfl ?_ | refine zh zi ?_ | refine zh zb ?_)); done) | exact zdz rfl | (refine RowV.of_flat ?_; (repeat' (first | exact zg zM | exact z6 | exact zg (fun _ => rfl) | exact zg (fun _ => zi) | exact zg (fun _ => zb) | exact zo zi | exact zo zb | exact zaf rfl | exact zae | exact zo rfl | refine zO ?_ ?_ | refine zh rfl ?_ | refine zh zi ?_ | refine zh zb ?_)); done) | ((repeat' (first | exact zg zM | exact z6 | exact zg (fun _ => rfl) | exact zg (fun _ => zi) | exact zg (fun _ => zb) | exact zo zi | exact zo zb | exact zaf rfl | exact zae | exact zo rfl | refine zO ?_ ?_ | refine zh rfl ?_ | refine zh zi ?_ | refine zh zb ?_)); done) | exact zfH rfl rfl (by omega) | exact zbh rfl rfl (by omega) | exact zdE rfl rfl (by omega) | exact zfK (fun _ => rfl) | exact zF (fun _ => rfl) (by decide) ⟨rfl, rfl⟩ trivial | exact zF (fun _ => rfl) (by decide) (fun _ _ => ⟨rfl, rfl⟩) trivial | (simp; done)); done) | exact zgj (fun _ => rfl) | exact Vw.it _ _ rfl | exact Vw.mp _ _ _ _ rfl | exact zF zM (by decide) ⟨rfl, rfl⟩ trivial | exact zF zM (by decide) (fun _ _ => ⟨rfl, rfl⟩) trivial | (refine ziv rfl ?_; (repeat' (first | exact zg zM | exact z6 | exact zg (fun _ => rfl) | exact zg (fun _ => zi) | exact zg (fun _ => zb) | exact zo zi | exact zo zb | exact zaf rfl | exact zae | exact zo rfl | refine zO ?_ ?_ | refine zh rfl ?_ | refine zh zi ?_ | refine zh zb ?_)); done) | exact zdz rfl | (refine RowV.of_flat ?_; (repeat' (first | exact zg zM | exact z6 | exact zg (fun _ => rfl) | exact zg (fun _ => zi) | exact zg (fun _ => zb) | exact zo zi | exact zo zb | exact zaf rfl | exact zae | exact zo rfl | refine zO ?_ ?_ | refine zh rfl ?_ | refine zh zi ?_ | refine zh zb ?_)); done) | ((repeat' (first | exact zg zM | exact z6 | exact zg (fun _ => rfl) | exact zg (fun _ => zi) | exact zg (fun _ => zb) | exact zo zi | exact zo zb | exact zaf rfl | exact zae | exact zo rfl | refine zO ?_ ?_ | refine zh rfl ?_ | refine zh zi ?_ | refine zh zb ?_)); done) | exact zfH rfl rfl (by omega) | exact zbh rfl rfl (by omega) | exact zdE rfl rfl (by omega) | exact zfK (fun _ => rfl) | exact zF (fun _ => rfl) (by decide) ⟨rfl, rfl⟩ trivial | exact zF (fun _ => rfl) (by decide) (fun _ _ => ⟨rfl, rfl⟩) trivial | (simp; done)))
  · obtain ⟨i, rfl⟩ : ∃ k, i = k + 1 := ⟨i - 1, by omega⟩
    have hil : i < sts.length := by omega
    have hgl := zx (f := St.cells) (d := []) hil
    have ei : ((i + 1 : Nat) : Int) - 1 = i := by omega
    have hat := zxc (exit := exit) (a := a0) hil
    have hl0 := hlk i
    have hci := zm3 (k := exit.length) hil
    have hc0 := zkG (k := exit.length) (l := sts) (i := i)
    have hrem := zhq sts[i] (keepM exit (sts.drop (i + 1)) a0).2
    have hbk := zgH (keepM exit (sts.drop (i + 1)) a0).2 sts[i] exit k1 (hsz _ (List.getElem_mem hil)) (by omega) (by omega)
    generalize keepM exit (sts.drop (i + 1)) a0 = R at *
    obtain ⟨kp, a⟩ := R
    simp only at hrem hbk hli k1 k2 k3 hat
    (repeat first | simp (disch := try exact dis1) only [evD, Nat.reduceBEq, Nat.reduceAdd, Nat.reduceLeDiff, ei, dT, zer, List.cons_append, List.nil_append, hgl, St.len, St.eight] | with_reducible intro _ | ((with_reducible apply And.intro); omega))
    refine zS [(0, 5, 0)] 1 _ (hrem) rfl rfl fin8 fin8 ?_
    rintro _ _ _ ⟨rfl, rfl, rfl⟩
    cases hx : remS sts[i] a.keys with
    | true =>
      rw [hx, if_pos rfl] at hat
      have hbt : (m0 || decide (kp.length < sts.length - i)) = true := by rw [decide_eq_true (by omega)]; simp
      (repeat first | simp (disch := try exact dis1) only [evD, Nat.reduceBEq, Nat.reduceAdd, Nat.reduceLeDiff, renM] | with_reducible intro _ | ((with_reducible apply And.intro); omega))
      refine ⟨i, by omega, by omega, ?_⟩
      exact (Ent.tab [(0, 0, 0), (1, 1, 0), (2, 2, 0), (3, 3, 0), (4, 4, 0), (5, 5, 0), (6, 6, 0)] [] rfl (by (try simp only [evWB, Nat.reduceBEq, Nat.reduceAdd, Nat.reduceSub, Nat.reduceLeDiff, Nat.reduceLT, implies_true, zer, famS, hat, hbt, List.cons_append, List.nil_append]) <;> exact fin8) (by (try simp only [evWB, Nat.reduceBEq, Nat.reduceAdd, Nat.reduceSub, Nat.reduceLeDiff, Nat.reduceLT, implies_true, zer, famS, hat, hbt, List.cons_append, List.nil_append]) <;> exact fin8))
    | false =>
      rw [hx, if_neg (by simp)] at hat
      (repeat first | simp (disch := try exact dis1) only [evD, Nat.reduceBEq, Nat.reduceAdd, Nat.reduceLeDiff, renM, hgl, St.len, St.eight] | with_reducible intro _ | ((with_reducible apply And.intro); omega))
      refine zS [(0, 5, 0)] 1 _ (hbk) rfl rfl fin8 fin8 ?_
      rintro _ _ _ ⟨rfl, rfl, rfl⟩
      have hkl : kp.reverse.length = kp.length := List.length_reverse
      have htk : (kp.reverse.map St.cells).take kp.length = kp.reverse.map St.cells := List.take_of_length_le (by rw [List.length_map, hkl]; omega)
      have hbt : decide (kp.length + 1 < sts.length - i) = decide (kp.length < sts.length - (i + 1)) := decide_eq_decide.2 (by omega)
      (repeat first | simp (disch := try exact dis1) only [evD, Nat.reduceBEq, Nat.reduceAdd, Nat.reduceLeDiff, renM, hgl, St.len, St.eight, hkl, htk] | with_reducible intro _ | ((with_reducible apply And.intro); omega))
      refine ⟨i, by omega, by omega, ?_⟩
      exact (Ent.tab [(0, 0, 0), (1, 1, 0), (2, 2, 0), (3, 3, 0), (4, 4, 0), (5, 5, 0), (6, 6, 1)] [] rfl (by (try simp only [evWB, Nat.reduceBEq, Nat.reduceAdd, Nat.reduceSub, Nat.reduceLeDiff, Nat.reduceLT, implies_true, zer, famS, hat, hbt, List.cons_append, List.nil_append, List.length_cons, List.reverse_cons, List.map_append, List.map_cons, List.map_nil]) <;> exact fin8) (by (try simp only [evWB, Nat.reduceBEq, Nat.reduceAdd, Nat.reduceSub, Nat.reduceLeDiff, Nat.reduceLT, implies_true, zer, famS, hat, hbt, List.cons_append, List.nil_append, List.length_cons, List.reverse_cons, List.map_append, List.map_cons, List.map_nil]) <;> exact fin8))
def zbn (exit : List Int) (bl : List Bl) (i : Nat) : List Bl := bl.mapIdx fun j b => if j < i then blkD exit bl j b else b
theorem zdw {exit : List Int} {bl : List Bl} {i : Nat} : (zbn exit bl i).length = bl.length := by simp [zbn]
theorem zqD {exit : List Int} {bl : List Bl} : zbn exit bl 0 = bl := by
  apply List.ext_getElem
  · exact zdw
  · intro k h1 h2; simp [zbn]
theorem zpY {exit : List Int} {bl : List Bl} : zbn exit bl bl.length = zbF exit bl := by
  apply List.ext_getElem
  · rw [zdw, zdx]
  · intro k h1 h2
    rw [zdw] at h1
    simp [zbn, zbF, h1]
theorem zsu {exit : List Int} {bl : List Bl} {i : Nat} (h : i < bl.length) : (zbn exit bl i)[i]'(by rw [zdw]; exact h) = bl[i] := by simp [zbn]
theorem ztb {exit : List Int} {bl : List Bl} {i : Nat} (h : i < bl.length) : (zbn exit bl i).set i ⟨bl[i].addr, (zdL exit bl[i].stmts (zW exit bl i)).1⟩ = zbn exit bl (i + 1) := by
  apply List.ext_getElem
  · simp [zbn]
  · intro k h1 h2
    rw [zdw] at h2
    rw [List.getElem_set]
    by_cases hk : i = k
    · subst hk
      simp [zbn, blkD]
    · rw [if_neg hk]
      simp only [zbn, List.getElem_mapIdx]
      by_cases hl : k < i
      · rw [if_pos hl, if_pos (by omega)]
      · rw [if_neg hl, if_neg (by omega)]
theorem zmX {exit : List Int} {bl : List Bl} {i : Nat} : SubB (zbn exit bl i) bl := by
  refine ⟨zdw, fun k h1 h2 => ?_⟩
  simp only [zbn, List.getElem_mapIdx]
  split
  · exact ⟨rfl, zf8 _⟩
  · exact ⟨rfl, List.Sublist.refl _⟩
theorem zmM {b : Bl} : ∀ {l : List Bl} {i : Nat} (h : i < l.length), zz (l.set i b) + l[i].stmts.length = zz l + b.stmts.length
  | x :: l, 0, h => by simp only [zz, List.set_cons_zero, List.map_cons, List.sum_cons, List.getElem_cons_zero]; omega
  | x :: l, i + 1, h => by
    have := zmM (b := b) (l := l) (i := i) (by simpa using h)
    simp only [zz, List.set_cons_succ, List.map_cons, List.sum_cons, List.getElem_cons_succ] at *
    omega
theorem zsR {exit : List Int} {x : List Bl} : zg7 exit x = if zz (zbF exit x) = zz x then x else zg7 exit (zbF exit x) := by
  unfold zg7
  rw [zhW]
  split
  · rfl
  · have := (zbH (exit := exit) (bl := x)).count
    exact znc _ _ _ (by omega) (by omega)
theorem zzi {Q : QT} (ad : Int) (bl : List Bl) (exit U : List Int) (hU : GoodB U exit bl) (S T : Nat → MS) (hE : EndB U exit bl S T) (r0 : Nat) (hr0 : r0 + zz bl ≤ 1000000)
    (hfin : ∀ K H nx, Ent 0 K H nx [(1, za exit), (4, .ptr 0 0 0 0 0), (8, .ptr 1 0 0 0 0), (9, .int .i64 ((r0 + (zz bl - zz (zbF exit bl)) : Nat) : Int)), (10, .bool (decide (zz (zbF exit bl) < zz bl)))]
      [(0, .row 2 [[.int .u32 0, .nilsl]] 0), (1, .row 2 [[.int .u32 ad, .own 2 0 0 0 bl.length]] 0), (2, .row 2 ((zbF exit bl).map Bl.cells) 0)] 3 → Q .normal K H nx)
    {K : Kn} {H : AH} {nx : Nat} (hent : Ent 0 K H nx [(1, za exit), (4, .ptr 0 0 0 0 0), (8, .ptr 1 0 0 0 0), (9, .int .i64 r0), (10, .bool false), (12, .own 3 0 0 0 bl.length), (35, .int .i64 bl.length), (36, .int .i64 0)] (zer ad bl.length bl T) 5) :
    ziK Tryz.prog 0 zcO (zbw 2 Q) K H nx := by
  have hB := hBig
  have hlen := hU.len
  refine zl (fun i : Nat => ([(1, za exit), (4, .ptr 0 0 0 0 0), (8, .ptr 1 0 0 0 0), (9, .int .i64 ((r0 + (zz bl - zz (zbn exit bl i)) : Nat) : Int)), (10, .bool (decide (zz (zbn exit bl i) < zz bl))), (12, .own 3 0 0 0 bl.length), (35, .int .i64 bl.length), (36, .int .i64 i)], zer ad bl.length (zbn exit bl i) T)) 5
    (fun i => i ≤ bl.length) (fun i => bl.length - i) 0 (Nat.zero_le _) ?_ ?_
  · rw [zqD]
    simp only [Nat.sub_self, Nat.lt_irrefl, decide_false, Nat.add_zero]
    exact hent
  rintro i hi wf
  unfold zcO
  by_cases hil : i < bl.length
  · have hm := List.getElem_mem hil
    have hDl := zdw (exit := exit) (bl := bl) (i := i)
    have hDi := zsu (exit := exit) hil
    have hDs := ztb (exit := exit) hil
    have hDc := (zmX (exit := exit) (bl := bl) (i := i)).count
    have hcs := zmM (b := ⟨bl[i].addr, (zdL exit bl[i].stmts (zW exit bl i)).1⟩) (l := zbn exit bl i) (i := i) (by omega)
    rw [hDs, hDi] at hcs
    simp only at hcs
    have hDc1 := (zmX (exit := exit) (bl := bl) (i := i + 1)).count
    have hT := hE.t i
    have hTl := hT.len
    have hks : zb0 ((T i).2.map (·.1)) = zW exit bl i := hE.keyT hil
    have hkl : (zW exit bl i).length = (T i).2.length := by rw [← hks, (zR _).length_eq, List.length_map]
    have hcost := hU.cost _ hm
    have hok : (addL (0, []) (zW exit bl i)).ok := ziw zlV (by simp only; omega) (by simp only [List.length_nil]; omega)
    have hbd := zcT (l := zW exit bl i) (s := (0, []))
    simp only [List.length_nil] at hbd
    have hkeys : ∀ x, x ∈ (addL (0, []) (zW exit bl i)).keys ↔ x ∈ zW exit bl i := fun x => by rw [zdD]; simp [MS.keys]
    obtain ⟨hkp, _⟩ := zpn (exit := exit) hkeys bl[i].stmts
    have hll := (zf8 (exit := exit) (e := zW exit bl i) bl[i].stmts).length_le
    have hstl := zjC hm
    have hl0 := fun (Q : QT) => zyJ (Q := Q) ad bl.length i hil hlen (zbn exit bl i) hDl T exit bl[i].stmts (addL (0, []) (zW exit bl i)) (r0 + (zz bl - zz (zbn exit bl i))) (decide (zz (zbn exit bl i) < zz bl)) (fun s hs => (hU.hsz _ hm s hs).1) hok (by omega) (by omega) (by omega) (by omega)
    simp only [hDi] at hl0
    rw [hkp, hDs] at hl0
    have hg : ((zbn exit bl i).map Bl.cells).getD i [] = [.int .u32 bl[i].addr, encL 8 St.cells bl[i].stmts] := by
      have := zx (f := Bl.cells) (d := []) (l := zbn exit bl i) (i := i) (by omega)
      rw [hDi] at this
      exact this
    have hDml : ((zbn exit bl i).map Bl.cells).length = bl.length := by rw [List.length_map, hDl]
    have hsa := zf2 (0, []) (zW exit bl i) zlV (by simp only; omega) (by simp only [List.length_nil]; omega)
    generalize addL (0, []) (zW exit bl i) = a0 at *
    generalize zW exit bl i = lo at *
    clear hDi hDs hDl
    generalize hD : zbn exit bl i = D at *
    (repeat first | simp (disch := try exact dis1) only [evD, Nat.reduceBEq, Nat.reduceAdd, Nat.reduceLeDiff, dT, zer, za, zfM, zdX hil] | with_reducible intro _ | ((with_reducible apply And.intro); omega))
    refine zS [(0, 4, 0)] 1 _ (zb3 bl.length i hil T hT.ok) rfl rfl (by (try simp only [evWB, Nat.reduceBEq, Nat.reduceAdd, Nat.reduceSub, Nat.reduceLeDiff, Nat.reduceLT, implies_true, famS]) <;> exact fin8) (by (try simp only [evWB, Nat.reduceBEq, Nat.reduceAdd, Nat.reduceSub, Nat.reduceLeDiff, Nat.reduceLT, implies_true, famS]) <;> exact fin8) ?_
    rintro _ _ _ ⟨rfl, rfl, rfl⟩
    (repeat first | simp (disch := try exact dis1) only [evD, Nat.reduceBEq, Nat.reduceAdd, Nat.reduceLeDiff, renE, renF, hks, za, zfM, zdX hil] | with_reducible intro _ | ((with_reducible apply And.intro); omega))
    refine zS [(0, 5, 0)] 1 _ (hsa) rfl rfl (by (try simp only [evWB, Nat.reduceBEq, Nat.reduceAdd, Nat.reduceSub, Nat.reduceLeDiff, Nat.reduceLT, implies_true, zr]) <;> exact fin8) (by (try simp only [evWB, Nat.reduceBEq, Nat.reduceAdd, Nat.reduceSub, Nat.reduceLeDiff, Nat.reduceLT, implies_true, zr]) <;> exact fin8) ?_
    rintro _ _ _ ⟨rfl, rfl, rfl⟩
    (repeat first | simp (disch := try exact dis1) only [evD, Nat.reduceBEq, Nat.reduceAdd, Nat.reduceLeDiff, renM, za, hg, hDml] | with_reducible intro _ | ((with_reducible apply And.intro); omega))
    refine hl0 _ ?_ ?_
    · intro K2 H2 nx2 he
      refine ⟨i + 1, by omega, by show bl.length - (i + 1) < bl.length - i; omega, ?_⟩
      have e1 : r0 + (zz bl - zz D) + (bl[i].stmts.length - (zdL exit bl[i].stmts lo).1.length) = r0 + (zz bl - zz (zbn exit bl (i + 1))) := by omega
      have e2 : (decide (zz D < zz bl) || decide ((zdL exit bl[i].stmts lo).1.length < bl[i].stmts.length)) = decide (zz (zbn exit bl (i + 1)) < zz bl) := by
        rw [← Bool.decide_or]
        exact decide_eq_decide.2 (by omega)
      rw [e1, e2] at he
      exact he
    · exact (Ent.tab [(0, 0, 0), (1, 1, 0), (2, 2, 0), (3, 3, 0), (4, 4, 0), (5, 5, 0), (6, 8, 0)] [] rfl (by (try simp only [evWB, Nat.reduceBEq, Nat.reduceAdd, Nat.reduceSub, Nat.reduceLeDiff, Nat.reduceLT, implies_true, zer, famS, List.cons_append, List.nil_append]) <;> exact fin8) (by (try simp only [evWB, Nat.reduceBEq, Nat.reduceAdd, Nat.reduceSub, Nat.reduceLeDiff, Nat.reduceLT, implies_true, zer, famS, List.cons_append, List.nil_append]) <;> exact fin8))
  · obtain rfl : i = bl.length := by omega
    rw [zpY]
    (repeat first | simp (disch := try exact dis1) only [evD, Nat.reduceBEq, Nat.reduceAdd, Nat.reduceLeDiff, dF] | with_reducible intro _ | ((with_reducible apply And.intro); omega))
    refine hfin _ _ _ ?_
    exact (Ent.tab [(0, 0, 0), (1, 1, 0), (2, 2, 0)] [] rfl (by (try simp only [evWB, Nat.reduceBEq, Nat.reduceAdd, Nat.reduceSub, Nat.reduceLeDiff, Nat.reduceLT, implies_true, zer, famS, za]) <;> exact fin8) (by (try simp only [evWB, Nat.reduceBEq, Nat.reduceAdd, Nat.reduceSub, Nat.reduceLeDiff, Nat.reduceLT, implies_true, zer, famS, za]) <;> exact fin8))
theorem zrN {F n g : Nat} : AObj.refs (.row 1 (mps F n) g) := by
  intro c hc
  obtain ⟨i, _, rfl⟩ := List.mem_map.1 hc
  rfl
theorem zyr (a : MC) : (cm a).all AV.ref0 = true := by
  unfold cm
  split <;> rfl
theorem zob {n : Nat} {S : Nat → MS} : AObj.refs (famS n S) := by
  intro p hp
  unfold fi at hp
  obtain ⟨i, _, rfl⟩ := List.mem_map.1 hp
  exact zxH zyr
theorem zxr {n : Nat} {S T : Nat → MS} : AH.refs (bdH n S T) := ⟨zrN, zrN, zob, zob, trivial⟩
structure RunD (U exit : List Int) (bl0 R x : List Bl) (m : Bool) : Prop where
  good : GoodB U exit x
  len : x.length = bl0.length
  cnt : zz x ≤ zz bl0
  go : zg7 exit x = R
  done : m = false → x = R
theorem RunD.next {U exit : List Int} {bl0 R x : List Bl} (h : RunD U exit bl0 R x true) :
    RunD U exit bl0 R (zbF exit x) (decide (zz (zbF exit x) < zz x)) ∧ 2 * zz (zbF exit x) + (bif decide (zz (zbF exit x) < zz x) then 1 else 0) < 2 * zz x + (bif true then 1 else 0) := by
  have hc := (zbH (exit := exit) (bl := x)).count
  have hg := h.go
  have hn := h.cnt
  rw [zsR] at hg
  refine ⟨⟨h.good.sub zbH, by rw [zdx]; exact h.len, by omega, ?_, fun hm => ?_⟩, ?_⟩
  · split at hg
    · rename_i he
      rw [zbH.same he]
      exact h.go
    · exact hg
  · have hm := of_decide_eq_false hm
    rw [if_pos (by omega)] at hg
    rw [zbH.same (by omega)]
    exact hg
  · by_cases hlt : zz (zbF exit x) < zz x
    · rw [decide_eq_true hlt]
      simp only [cond_true]
      omega
    · rw [decide_eq_false hlt]
      simp only [cond_true, cond_false]
      omega
theorem zyf {Q : QT} (ad : Int) (bl0 R : List Bl) (exit U : List Int)
    (hcnt : zz bl0 ≤ 1000000)
    (hfin : wpX Tryz.prog 0 zbC Q [(4, .ptr 0 0 0 0 0), (8, .ptr 1 0 0 0 0), (9, .int .i64 ((zz bl0 - zz R : Nat) : Int)), (26, .bool false)]
      [(0, .row 2 [[.int .u32 0, .nilsl]] 0), (1, .row 2 [[.int .u32 ad, .own 2 0 0 0 bl0.length]] 0), (2, .row 2 (R.map Bl.cells) 0)] 3)
    {K : Kn} {H : AH} {nx : Nat} (hrun : RunD U exit bl0 R bl0 true) (hent : Ent 0 K H nx [(1, za exit), (4, .ptr 0 0 0 0 0), (8, .ptr 1 0 0 0 0), (9, .int .i64 0), (10, .bool true)]
      [(0, .row 2 [[.int .u32 0, .nilsl]] 0), (1, .row 2 [[.int .u32 ad, .own 2 0 0 0 bl0.length]] 0), (2, .row 2 (bl0.map Bl.cells) 0)] 3) :
    ziK Tryz.prog 0 zcE (zbw 0 (seqQ Tryz.prog 0 zbC Q)) K H nx := by
  have hB := hBig
  refine zl (fun a : List Bl × Bool => ([(1, za exit), (4, .ptr 0 0 0 0 0), (8, .ptr 1 0 0 0 0), (9, .int .i64 ((zz bl0 - zz a.1 : Nat) : Int)), (10, .bool a.2)],
      [(0, .row 2 [[.int .u32 0, .nilsl]] 0), (1, .row 2 [[.int .u32 ad, .own 2 0 0 0 bl0.length]] 0), (2, .row 2 (a.1.map Bl.cells) 0)])) 3
    (fun a => RunD U exit bl0 R a.1 a.2) (fun a => 2 * zz a.1 + (bif a.2 then 1 else 0)) (bl0, true) hrun ?_ ?_
  · simp only [Nat.sub_self]
    exact hent
  rintro ⟨x, m⟩ hrn wf
  simp only at hrn
  unfold zcE
  cases m with
  | false =>
    obtain rfl := hrn.done rfl
    (repeat first | simp (disch := try exact dis1) only [evD, Nat.reduceBEq, Nat.reduceAdd, Nat.reduceLeDiff] | with_reducible intro _ | ((with_reducible apply And.intro); omega))
    exact hfin
  | true =>
    obtain ⟨n1, n2⟩ := hrn.next
    have hxl := hrn.len
    have hxc := hrn.cnt
    have hbd := zjk ⟨ad, x⟩ exit U hrn.good.univ
    have hxb := hrn.good.len
    have hml : (x.map Bl.cells).length = x.length := List.length_map _
    (repeat first | simp (disch := try exact dis1) only [evD, Nat.reduceBEq, Nat.reduceAdd, Nat.reduceLeDiff] | with_reducible intro _ | ((with_reducible apply And.intro); omega))
    refine zsB (D := inD [2]) hbd (.cons (.agg _ _ _ rfl (fun j a c h1 h2 => ?_)) (.cons (zaI rfl) .nil)) ?_ ?_
    · match j with
      | 0 => cases h1; cases h2; exact .int _ _ _
      | 1 => cases h1; cases h2; rw [← hxl]; exact zu7 rfl rfl (by omega)
      | j + 2 => cases h1
    · rintro _ _ _ ⟨S, T, rfl, rfl, rfl, _⟩
      exact ⟨rfl, zxr⟩
    rintro _ _ _ ⟨S, T, rfl, rfl, rfl, hend⟩
    simp only at hend
    (repeat first | simp (disch := try exact dis1) only [evD, Nat.reduceBEq, Nat.reduceAdd, Nat.reduceLeDiff, bdH, renP, renF] | with_reducible intro _ | ((with_reducible apply And.intro); omega))
    refine zzi ad x exit U hrn.good S T hend (zz bl0 - zz x) (by omega) ?_ ?_
    · intro K2 H2 nx2 he
      refine ⟨(zbF exit x, _), n1, n2, ?_⟩
      have hc := (zbH (exit := exit) (bl := x)).count
      have e1 : zz bl0 - zz x + (zz x - zz (zbF exit x)) = zz bl0 - zz (zbF exit x) := by omega
      rw [e1, hxl] at he
      exact he
    · rw [hxl]
      exact (Ent.tab [(0, 0, 0), (1, 1, 0), (2, 2, 0), (3, 4, 0), (4, 6, 0)] [] rfl (by (try simp only [evWB, Nat.reduceBEq, Nat.reduceAdd, Nat.reduceSub, Nat.reduceLeDiff, Nat.reduceLT, implies_true, zer, famS]) <;> exact fin8) (by (try simp only [evWB, Nat.reduceBEq, Nat.reduceAdd, Nat.reduceSub, Nat.reduceLeDiff, Nat.reduceLT, implies_true, zer, famS]) <;> exact fin8))
def zs6 (g : G) (exit : List Int) : AV := if zgR g = 0 then .tup [.agg (G.cells ⟨g.addr, zg7 exit g.blocks⟩), .int .i64 ((zz g.blocks - zz (zg7 exit g.blocks) : Nat) : Int), .int .i64 0] else .tup [.agg (G.cells ⟨0, []⟩), .int .i64 0, .int .i64 (zgR g)]
theorem zus {exit : List Int} {bl : List Bl} : (zg7 exit bl).length = bl.length := (zpL _ _).1
theorem zcx (g : G) (exit U : List Int) (hU : GoodB U exit g.blocks) (hf : fewB g) : zB Tryz.prog zbr [.agg g.cells, za exit] (· = zs6 g exit) := by
  refine fn_x zkC rfl ?_
  unfold zgT zs6
  have hB := hBig
  have hcg := zkr g hf (fun b hb s hs => by have := (hU.hsz b hb s hs).2; omega)
  have hcp := zuS g hU.len (fun b hb => Nat.le_trans (zjC hb) hU.cnt) (fun b hb s hs => ⟨(hU.hsz b hb s hs).1, by have := (hU.hsz b hb s hs).2; omega⟩)
  have hpl := zus (exit := exit) (bl := g.blocks)
  have hlen := hU.len
  have hcnt := hU.cnt
  obtain ⟨ad, bl⟩ := g
  simp only [G.cells] at hcg hcp hpl hU hlen hcnt ⊢
  (repeat first | simp (disch := try exact dis1) only [evD, Nat.reduceBEq, Nat.reduceAdd, Nat.reduceLeDiff, fldP, za, zh2, tab, List.getD_cons_zero, List.getD_cons_succ] | with_reducible intro _ | ((with_reducible apply And.intro); omega))
  refine zm (zp hcg rfl) ?_
  by_cases hc : zgR ⟨ad, bl⟩ = 0
  · rw [if_pos hc, hc]
    (repeat first | simp (disch := try exact dis1) only [evD, Nat.reduceBEq, Nat.reduceAdd, Nat.reduceLeDiff, dF, fldP, za, zh2, tab, List.getD_cons_zero, List.getD_cons_succ] | with_reducible intro _ | ((with_reducible apply And.intro); omega))
    refine zS [] 0 _ (hcp) rfl rfl fin9 fin9 ?_
    rintro _ _ _ ⟨rfl, rfl, rfl⟩
    have hrb : ∀ {ρ : Nat → Nat} {l : List Bl} {g : Nat}, AObj.ren ρ (.row 2 (l.map Bl.cells) g) = .row 2 (l.map Bl.cells) g := fun {ρ l g} => by
      simp only [AObj.ren]
      rw [zgd (zg fun s => rfl)]
    (repeat first | simp (disch := try exact dis1) only [evD, Nat.reduceBEq, Nat.reduceAdd, Nat.reduceLeDiff, hrb] | with_reducible intro _ | ((with_reducible apply And.intro); omega))
    refine zyf ad bl (zg7 exit bl) exit U hcnt ?_ ⟨hU, rfl, Nat.le_refl _, rfl, fun h => by cases h⟩ ?_
    · unfold zbC
      (repeat first | simp (disch := try exact dis1) only [evD, Nat.reduceBEq, Nat.reduceAdd, Nat.reduceLeDiff, zd1] | with_reducible intro _ | ((with_reducible apply And.intro); omega))
      refine ⟨.tup [.agg [.int .u32 ad, encL 2 Bl.cells (zg7 exit bl)], .int .i64 ((zz bl - zz (zg7 exit bl) : Nat) : Int), .int .i64 0], .tup _ _ _ rfl (fun j a c h1 h2 => ?_), rfl⟩
      match j with
      | 0 =>
        cases h1; cases h2
        refine .agg _ _ _ rfl (fun j a c h1 h2 => ?_)
        match j with
        | 0 => cases h1; cases h2; exact .int _ _ _
        | 1 => cases h1; cases h2; rw [← hpl]; exact zu7 trivial rfl (by omega)
        | j + 2 => cases h1
      | 1 => cases h1; cases h2; exact .int _ _ _
      | 2 => cases h1; cases h2; exact .int _ _ _
      | j + 3 => cases h1
    · exact (Ent.tab [(0, 0, 0), (1, 2, 0), (2, 1, 0)] [] rfl (by (try simp only [evWB, Nat.reduceBEq, Nat.reduceAdd, Nat.reduceSub, Nat.reduceLeDiff, Nat.reduceLT, implies_true, za]) <;> exact fin2) (by (try simp only [evWB, Nat.reduceBEq, Nat.reduceAdd, Nat.reduceSub, Nat.reduceLeDiff, Nat.reduceLT, implies_true, za]) <;> exact fin2))
  · rw [if_neg hc]
    (repeat first | simp (disch := try exact dis1) only [evD, Nat.reduceBEq, Nat.reduceAdd, Nat.reduceLeDiff, fldP, dT, za, zd1] | with_reducible intro _ | ((with_reducible apply And.intro); omega))
    refine ⟨.tup [.agg [.int .u32 0, encL 2 Bl.cells []], .int .i64 0, .int .i64 (zgR ⟨ad, bl⟩)], .tup _ _ _ rfl (fun j a c h1 h2 => ?_), rfl⟩
    match j with
    | 0 =>
      cases h1; cases h2
      refine .agg _ _ _ rfl (fun j a c h1 h2 => ?_)
      match j with
      | 0 => cases h1; cases h2; exact .int _ _ _
      | 1 => cases h1; cases h2; exact .nil0 _ _ _
      | j + 2 => cases h1
    | 1 => cases h1; cases h2; exact .int _ _ _
    | 2 => cases h1; cases h2; exact .int _ _ _
    | j + 3 => cases h1
end Go.Ab
