/-
  Part 11 of the proof: how the calls of this program run, over values instead of memory, and what each function computes.
-/
import Derived.KernelRfl
import Derived.Test.YtdhlfajcofgpkaaGreatKj
set_option maxRecDepth 100000
set_option linter.unusedVariables false
set_option linter.unusedSimpArgs false
set_option linter.unnecessarySimpa false
set_option linter.unusedSectionVars false

namespace Go.Ab
open Go.RowKit Go.Proofs
structure FewD (exit : List Int) (bl : List Bl) : Prop where
  sz : ∀ b ∈ bl, ∀ s ∈ b.stmts, zA s.e ≤ 100000 ∧ s.cases.length ≤ 100000 ∧ (s.op = 1 → s.e.length = 1)
  len : bl.length ≤ 1000000
  cnt : zz bl ≤ 1000
  uni : (univ exit bl).length + exit.length ≤ 400000
structure RunR (exit : List Int) (bl0 R x : List Bl) (k : Nat) : Prop where
  few : FewD exit x
  len : x.length = bl0.length
  cnt : k + zz x ≤ zz bl0
  go : ∀ j, zz x < j → deadR exit j x = R
theorem znV : ∀ (k : Nat) (e : Ex) (m n : Int), za2 e ≤ k → -1000 ≤ m → m ≤ 1000 → -1 ≤ n → n ≤ 30000 → zB Tryz.prog zgg [.agg (encX e), .int .i64 m, .int .i64 n] (· = .int .i64 (zfo e m n)) := by
  intro k
  induction k with
  | zero => intro e m n h; obtain ⟨_, _, _, _, l⟩ := e; rw [za2] at h; omega
  | succ k ih =>
  intro e m n hk h1 h2 h3 h4
  obtain ⟨op, nn, v, w, l⟩ := e
  refine fn_x zpH rfl ?_
  unfold zjX
  have hB := hBig
  rw [za2] at hk
  have hR := zft (.mk op nn v w l) m n h3
  rw [zfo] at hR ⊢
  generalize hE : encX (.mk op nn v w l) = E
  rw [zbD] at hE
  subst hE
  by_cases c1 : m < 1
  · rw [if_pos (.inl c1)]
    (repeat first | simp (disch := try exact dis1) only [evD, Nat.reduceBEq, Nat.reduceAdd, Nat.reduceLeDiff, dT, zcS] | with_reducible intro _ | ((with_reducible apply And.intro); omega))
    exact ⟨_, .int _ _ _, rfl⟩
  by_cases c2 : n < 1
  · rw [if_pos (.inr (.inl c2))]
    (repeat first | simp (disch := try exact dis1) only [evD, Nat.reduceBEq, Nat.reduceAdd, Nat.reduceLeDiff, dT, dF, zcS] | with_reducible intro _ | ((with_reducible apply And.intro); omega))
    exact ⟨_, .int _ _ _, rfl⟩
  by_cases c3 : 4 < l.length
  · rw [if_pos (.inr (.inr c3))]
    (repeat first | simp (disch := try exact dis1) only [evD, Nat.reduceBEq, Nat.reduceAdd, Nat.reduceLeDiff, dT, dF, zcS] | with_reducible intro _ | ((with_reducible apply And.intro); omega))
    exact ⟨_, .int _ _ _, rfl⟩
  rw [if_neg (by omega)] at hR ⊢
  (repeat first | simp (disch := try exact dis1) only [evD, Nat.reduceBEq, Nat.reduceAdd, Nat.reduceLeDiff, dF] | with_reducible intro _ | ((with_reducible apply And.intro); omega))
  generalize hG : za1 l (m - 1) (n - 1) = R at hR ⊢
  refine zl (fun s : Nat × Int => ([(1, .int .i64 m), (3, encP 5 [.int .i64 op, .int .u32 nn, .int .i64 v, .int .i64 w, encL 5 encX l]), (7, .int .i64 s.2), (8, .int .i64 s.1)], [])) 0 (fun s => s.1 ≤ l.length ∧ -1 ≤ s.2 ∧ s.2 ≤ n ∧ za1 (l.drop s.1) (m - 1) s.2 = R) (fun s => l.length - s.1) (0, n - 1) ⟨Nat.zero_le _, by simp only; omega, by simp only; omega, hG⟩ (Ent.keep rfl fin5) ?_
  rintro ⟨i, x⟩ ⟨hi, hx1, hx2, hgo⟩ wf
  simp only at hi hx1 hx2 hgo
  unfold zhu
  by_cases hl : i < l.length
  · by_cases hx : 0 ≤ x
    · rw [zj8 hl hx] at hgo
      have hm := zcw (List.getElem_mem hl)
      have hr := zft l[i] (m - 1) x hx1
      (repeat first | simp (disch := try exact dis1) only [evD, Nat.reduceBEq, Nat.reduceAdd, Nat.reduceLeDiff, fldP, dT, dF, zx hl, zaM, zaj] | with_reducible intro _ | ((with_reducible apply And.intro); omega))
      refine zm (zp (ih l[i] (m - 1) x (by omega) (by omega) (by omega) (by omega) (by omega)) (flX rfl)) ?_
      (repeat first | simp (disch := try exact dis1) only [evD, Nat.reduceBEq, Nat.reduceAdd, Nat.reduceLeDiff] | with_reducible intro _ | ((with_reducible apply And.intro); omega))
      exact ⟨(i + 1, zfo l[i] (m - 1) x), ⟨by simp only; omega, by simp only; omega, by simp only; omega, hgo⟩, by simp only; omega, Ent.keep rfl fin5⟩
    · rw [ziD (by omega)] at hgo
      subst hgo
      (repeat first | simp (disch := try exact dis1) only [evD, Nat.reduceBEq, Nat.reduceAdd, Nat.reduceLeDiff, fldP, dT, dF] | with_reducible intro _ | ((with_reducible apply And.intro); omega))
      unfold ze2
      (repeat first | simp (disch := try exact dis1) only [evD, Nat.reduceBEq, Nat.reduceAdd, Nat.reduceLeDiff, zcS] | with_reducible intro _ | ((with_reducible apply And.intro); omega))
      exact ⟨_, .int _ _ _, rfl⟩
  · rw [List.drop_of_length_le (by omega), za1] at hgo
    subst hgo
    (repeat first | simp (disch := try exact dis1) only [evD, Nat.reduceBEq, Nat.reduceAdd, Nat.reduceLeDiff, fldP, dT, dF] | with_reducible intro _ | ((with_reducible apply And.intro); omega))
    unfold ze2
    (repeat first | simp (disch := try exact dis1) only [evD, Nat.reduceBEq, Nat.reduceAdd, Nat.reduceLeDiff, zcS] | with_reducible intro _ | ((with_reducible apply And.intro); omega))
    exact ⟨_, .int _ _ _, rfl⟩
def zp0 (s : St) (n : Int) : Int := if 4 < s.e.length ∨ 100 < s.cases.length then -1 else za1 s.e 8 n
def zeL : List St → Int → Int
  | [], n => n
  | s :: l, n => if n < 0 then n else zeL l (zp0 s n)
def zp9 (b : Bl) (n : Int) : Int := if 1100 < b.stmts.length then -1 else zeL b.stmts n
def ze4 : List Bl → Int → Int
  | [], n => n
  | b :: l, n => if n < 0 then n else ze4 l (zp9 b n)
def zoK (g : G) : Bool := decide (g.blocks.length ≤ 300) && decide (0 ≤ ze4 g.blocks 20000)
def zoC (g : G) (exit : List Int) : Bool := decide (g.blocks.length ≤ 12) && (decide (exit.length ≤ 20) && (zoK g && g.blocks.all fun b => decide (b.stmts.length ≤ 12)))
theorem zp5 {l : List St} {i : Nat} {n : Int} (h : i < l.length) (hn : 0 ≤ n) : zeL (l.drop i) n = zeL (l.drop (i + 1)) (zp0 l[i] n) := by
  rw [List.drop_eq_getElem_cons h, zeL, if_neg (by omega)]
theorem zhU {l : List St} {n : Int} (hn : n < 0) : zeL l n = n := by
  cases l with
  | nil => rw [zeL]
  | cons a l => rw [zeL, if_pos hn]
theorem zqH {l : List Bl} {i : Nat} {n : Int} (h : i < l.length) (hn : 0 ≤ n) : ze4 (l.drop i) n = ze4 (l.drop (i + 1)) (zp9 l[i] n) := by
  rw [List.drop_eq_getElem_cons h, ze4, if_neg (by omega)]
theorem zjn {l : List Bl} {n : Int} (hn : n < 0) : ze4 l n = n := by
  cases l with
  | nil => rw [ze4]
  | cons a l => rw [ze4, if_pos hn]
theorem zjE (g : G) : zB Tryz.prog zd2 [.agg g.cells, .int .i64 8] (· = .bool (zoK g)) := by
  refine fn_x zjB rfl ?_
  unfold zf4 zoK
  have hB := hBig
  obtain ⟨ad, bl⟩ := g
  simp only [G.cells]
  by_cases h300 : 300 < bl.length
  · rw [decide_eq_false (by omega), Bool.false_and]
    (repeat first | simp (disch := try exact dis1) only [evD, Nat.reduceBEq, Nat.reduceAdd, Nat.reduceLeDiff, fldP, dT, zau] | with_reducible intro _ | ((with_reducible apply And.intro); omega))
    exact ⟨_, .bool _ _, rfl⟩
  rw [decide_eq_true (by omega), Bool.true_and]
  generalize hR : ze4 bl 20000 = R
  have fin : R < 0 → decide (0 ≤ R) = false := fun h => decide_eq_false (by omega)
  (repeat first | simp (disch := try exact dis1) only [evD, Nat.reduceBEq, Nat.reduceAdd, Nat.reduceLeDiff, fldP, dF] | with_reducible intro _ | ((with_reducible apply And.intro); omega))
  refine zl (fun a : Nat × Int => ([(1, .int .i64 8), (2, encP 2 [.int .u32 ad, encL 2 Bl.cells bl]), (5, .int .i64 a.2), (6, .int .i64 a.1)], [])) 0 (fun a => a.1 ≤ bl.length ∧ 0 ≤ a.2 ∧ a.2 ≤ 20000 ∧ ze4 (bl.drop a.1) a.2 = R) (fun a => bl.length - a.1) (0, 20000) ⟨Nat.zero_le _, by simp only; omega, by simp only; omega, hR⟩ (Ent.keep rfl fin5) ?_
  rintro ⟨i, n⟩ ⟨hi, hn1, hn2, hgo⟩ wf
  simp only at hi hn1 hn2 hgo
  unfold zeb
  by_cases hil : i < bl.length
  case neg =>
    rw [List.drop_of_length_le (by omega), ze4] at hgo
    subst hgo
    rw [decide_eq_true hn1]
    (repeat first | simp (disch := try exact dis1) only [evD, Nat.reduceBEq, Nat.reduceAdd, Nat.reduceLeDiff, fldP, dF] | with_reducible intro _ | ((with_reducible apply And.intro); omega))
    unfold zed
    (repeat first | simp (disch := try exact dis1) only [evD, Nat.reduceBEq, Nat.reduceAdd, Nat.reduceLeDiff, zau] | with_reducible intro _ | ((with_reducible apply And.intro); omega))
    exact ⟨_, .bool _ _, rfl⟩
  have hg : (bl.map Bl.cells).getD i [] = [.int .u32 bl[i].addr, encL 8 St.cells bl[i].stmts] := zx hil
  rw [zqH hil hn1] at hgo
  unfold zp9 at hgo
  generalize bl[i].addr = ad2 at hg
  generalize bl[i].stmts = m at hg hgo
  by_cases h11 : 1100 < m.length
  · rw [if_pos h11, zjn (by omega)] at hgo
    rw [fin (by omega)]
    (repeat first | simp (disch := try exact dis1) only [evD, Nat.reduceBEq, Nat.reduceAdd, Nat.reduceLeDiff, fldP, dT, hg, zau] | with_reducible intro _ | ((with_reducible apply And.intro); omega))
    exact ⟨_, .bool _ _, rfl⟩
  rw [if_neg h11] at hgo
  (repeat first | simp (disch := try exact dis1) only [evD, Nat.reduceBEq, Nat.reduceAdd, Nat.reduceLeDiff, fldP, dT, dF, hg] | with_reducible intro _ | ((with_reducible apply And.intro); omega))
  generalize hM : zeL m n = M at hgo
  have hMR : M < 0 → R < 0 := fun h => by rw [zjn h] at hgo; omega
  refine zl (fun a : Nat × Int => ([(1, .int .i64 8), (2, encP 2 [.int .u32 ad, encL 2 Bl.cells bl]), (5, .int .i64 a.2), (6, .int .i64 i), (7, .int .i64 a.1)], [])) 0 (fun a => a.1 ≤ m.length ∧ 0 ≤ a.2 ∧ a.2 ≤ 20000 ∧ zeL (m.drop a.1) a.2 = M) (fun a => m.length - a.1) (0, n) ⟨Nat.zero_le _, hn1, hn2, hM⟩ (Ent.keep rfl fin5) ?_
  rintro ⟨k, n2⟩ ⟨hk, hk1, hk2, hgo2⟩ wf2
  simp only at hk hk1 hk2 hgo2
  unfold zef
  by_cases hkl : k < m.length
  case neg =>
    rw [List.drop_of_length_le (by omega), zeL] at hgo2
    subst hgo2
    (repeat first | simp (disch := try exact dis1) only [evD, Nat.reduceBEq, Nat.reduceAdd, Nat.reduceLeDiff, fldP, dF, hg] | with_reducible intro _ | ((with_reducible apply And.intro); omega))
    unfold zd7
    (repeat first | simp (disch := try exact dis1) only [evD, Nat.reduceBEq, Nat.reduceAdd, Nat.reduceLeDiff] | with_reducible intro _ | ((with_reducible apply And.intro); omega))
    exact ⟨(i + 1, n2), ⟨by simp only; omega, hk1, hk2, hgo⟩, by simp only; omega, Ent.keep rfl fin5⟩
  have hgm := zx (f := St.cells) (d := []) hkl
  rw [zp5 hkl hk1] at hgo2
  unfold zp0 at hgo2
  generalize m[k] = s at hgm hgo2
  obtain ⟨op, var, width, next, els, tgt, e, cs⟩ := s
  simp only at hgo2
  simp only [St.cells] at hgm
  by_cases h4 : 4 < e.length
  · rw [if_pos (.inl h4), zhU (by omega)] at hgo2
    have := hMR (by omega)
    rw [fin this]
    (repeat first | simp (disch := try exact dis1) only [evD, Nat.reduceBEq, Nat.reduceAdd, Nat.reduceLeDiff, fldP, dT, hg, hgm, zau] | with_reducible intro _ | ((with_reducible apply And.intro); omega))
    exact ⟨_, .bool _ _, rfl⟩
  by_cases h100 : 100 < cs.length
  · rw [if_pos (.inr h100), zhU (by omega)] at hgo2
    have := hMR (by omega)
    rw [fin this]
    (repeat first | simp (disch := try exact dis1) only [evD, Nat.reduceBEq, Nat.reduceAdd, Nat.reduceLeDiff, fldP, dT, dF, hg, hgm, za, zau] | with_reducible intro _ | ((with_reducible apply And.intro); omega))
    exact ⟨_, .bool _ _, rfl⟩
  rw [if_neg (by omega)] at hgo2
  generalize hE : za1 e 8 n2 = E at hgo2
  have hEM : E < 0 → M < 0 := fun h => by rw [zhU h] at hgo2; omega
  (repeat first | simp (disch := try exact dis1) only [evD, Nat.reduceBEq, Nat.reduceAdd, Nat.reduceLeDiff, fldP, dT, dF, hg, hgm, za] | with_reducible intro _ | ((with_reducible apply And.intro); omega))
  refine zl (fun a : Nat × Int => ([(1, .int .i64 8), (2, encP 2 [.int .u32 ad, encL 2 Bl.cells bl]), (5, .int .i64 a.2), (6, .int .i64 i), (7, .int .i64 k), (8, .ptr 0 0 0 0 0), (9, .int .i64 a.1)], [(0, .row 8 [[.int .i64 op, .int .i64 var, .int .i64 width, .int .i64 next, .int .i64 els, .int .u32 tgt, encL 5 encX e, za cs]] 0)])) 1 (fun a => a.1 ≤ e.length ∧ 0 ≤ a.2 ∧ a.2 ≤ 20000 ∧ za1 (e.drop a.1) 8 a.2 = E) (fun a => e.length - a.1) (0, n2) ⟨Nat.zero_le _, hk1, hk2, hE⟩ (Ent.tab [(0, 0, 0)] [] rfl (by (try simp only [evWB, Nat.reduceBEq, Nat.reduceAdd, Nat.reduceSub, Nat.reduceLeDiff, Nat.reduceLT, implies_true, za]) <;> exact fin2) (by (try simp only [evWB, Nat.reduceBEq, Nat.reduceAdd, Nat.reduceSub, Nat.reduceLeDiff, Nat.reduceLT, implies_true, za]) <;> exact fin2)) ?_
  rintro ⟨j, n3⟩ ⟨hj, hj1, hj2, hgo3⟩ wf3
  simp only at hj hj1 hj2 hgo3
  unfold zek
  by_cases hjl : j < e.length
  case neg =>
    rw [List.drop_of_length_le (by omega), za1] at hgo3
    subst hgo3
    (repeat first | simp (disch := try exact dis1) only [evD, Nat.reduceBEq, Nat.reduceAdd, Nat.reduceLeDiff, fldP, dF, hg] | with_reducible intro _ | ((with_reducible apply And.intro); omega))
    unfold zec
    (repeat first | simp (disch := try exact dis1) only [evD, Nat.reduceBEq, Nat.reduceAdd, Nat.reduceLeDiff] | with_reducible intro _ | ((with_reducible apply And.intro); omega))
    exact ⟨(k + 1, n3), ⟨by simp only; omega, hj1, hj2, hgo2⟩, by simp only; omega, (Ent.tab [] [] rfl (by (try simp only [evWB, Nat.reduceBEq, Nat.reduceAdd, Nat.reduceSub, Nat.reduceLeDiff, Nat.reduceLT, implies_true, za]) <;> exact fin2) (by (try simp only [evWB, Nat.reduceBEq, Nat.reduceAdd, Nat.reduceSub, Nat.reduceLeDiff, Nat.reduceLT, implies_true, za]) <;> exact fin2))⟩
  rw [zj8 hjl hj1] at hgo3
  have hr := zft e[j] 8 n3 (by omega)
  (repeat first | simp (disch := try exact dis1) only [evD, Nat.reduceBEq, Nat.reduceAdd, Nat.reduceLeDiff, fldP, dT, dF, zx hjl, zaM, zaj, za] | with_reducible intro _ | ((with_reducible apply And.intro); omega))
  refine zm (zp (znV (za2 e[j]) e[j] 8 n3 (Nat.le_refl _) (by omega) (by omega) (by omega) (by omega)) (flX rfl)) ?_
  by_cases hx : zfo e[j] 8 n3 < 0
  · rw [ziD hx] at hgo3
    have := hMR (hEM (by omega))
    rw [fin this]
    (repeat first | simp (disch := try exact dis1) only [evD, Nat.reduceBEq, Nat.reduceAdd, Nat.reduceLeDiff, dT, zau] | with_reducible intro _ | ((with_reducible apply And.intro); omega))
    exact ⟨_, .bool _ _, rfl⟩
  · (repeat first | simp (disch := try exact dis1) only [evD, Nat.reduceBEq, Nat.reduceAdd, Nat.reduceLeDiff, dF] | with_reducible intro _ | ((with_reducible apply And.intro); omega))
    exact ⟨(j + 1, zfo e[j] 8 n3), ⟨by simp only; omega, by simp only; omega, by simp only; omega, hgo3⟩, by simp only; omega, (Ent.tab [(0, 0, 0)] [] rfl (by (try simp only [evWB, Nat.reduceBEq, Nat.reduceAdd, Nat.reduceSub, Nat.reduceLeDiff, Nat.reduceLT, implies_true, za]) <;> exact fin2) (by (try simp only [evWB, Nat.reduceBEq, Nat.reduceAdd, Nat.reduceSub, Nat.reduceLeDiff, Nat.reduceLT, implies_true, za]) <;> exact fin2))⟩
theorem zpu (g : G) (exit : List Int) : zB Tryz.prog ziG [.agg g.cells, za exit] (· = .bool (zoC g exit)) := by
  refine fn_x zpa rfl ?_
  unfold zkh zoC
  have hB := hBig
  have hsg := zjE g
  generalize zoK g = sg at hsg
  obtain ⟨ad, bl⟩ := g
  simp only [G.cells] at hsg ⊢
  by_cases h12 : 12 < bl.length
  · rw [decide_eq_false (by omega), Bool.false_and]
    (repeat first | simp (disch := try exact dis1) only [evD, Nat.reduceBEq, Nat.reduceAdd, Nat.reduceLeDiff, fldP, dT, za, zcR] | with_reducible intro _ | ((with_reducible apply And.intro); omega))
    exact ⟨_, .bool _ _, rfl⟩
  rw [decide_eq_true (by omega), Bool.true_and]
  by_cases h20 : 20 < exit.length
  · rw [decide_eq_false (by omega), Bool.false_and]
    (repeat first | simp (disch := try exact dis1) only [evD, Nat.reduceBEq, Nat.reduceAdd, Nat.reduceLeDiff, fldP, dT, dF, za, zcR] | with_reducible intro _ | ((with_reducible apply And.intro); omega))
    exact ⟨_, .bool _ _, rfl⟩
  rw [decide_eq_true (by omega), Bool.true_and]
  (repeat first | simp (disch := try exact dis1) only [evD, Nat.reduceBEq, Nat.reduceAdd, Nat.reduceLeDiff, fldP, dT, dF, za, zh2, tab, List.getD_cons_zero, List.getD_cons_succ] | with_reducible intro _ | ((with_reducible apply And.intro); omega))
  refine zm (zp hsg rfl) ?_
  cases sg with
  | false =>
    rw [Bool.false_and]
    (repeat first | simp (disch := try exact dis1) only [evD, Nat.reduceBEq, Nat.reduceAdd, Nat.reduceLeDiff, zcR] | with_reducible intro _ | ((with_reducible apply And.intro); omega))
    exact ⟨_, .bool _ _, rfl⟩
  | true =>
  rw [Bool.true_and]
  generalize hR : (bl.all fun b => decide (b.stmts.length ≤ 12)) = R
  (repeat first | simp (disch := try exact dis1) only [evD, Nat.reduceBEq, Nat.reduceAdd, Nat.reduceLeDiff, fldP] | with_reducible intro _ | ((with_reducible apply And.intro); omega))
  refine zl (fun i : Nat => ([(2, encP 2 [.int .u32 ad, encL 2 Bl.cells bl]), (5, .int .i64 i)], [])) 0 (fun i => i ≤ bl.length ∧ ((bl.drop i).all fun b => decide (b.stmts.length ≤ 12)) = R) (fun i => bl.length - i) 0 ⟨Nat.zero_le _, hR⟩ (Ent.keep rfl fin5) ?_
  rintro i ⟨hi, hgo⟩ wf
  unfold zhD
  by_cases hil : i < bl.length
  · have hg : (bl.map Bl.cells).getD i [] = [.int .u32 bl[i].addr, encL 8 St.cells bl[i].stmts] := zx hil
    rw [List.drop_eq_getElem_cons hil, List.all_cons] at hgo
    by_cases h : 12 < bl[i].stmts.length
    · rw [decide_eq_false (by omega), Bool.false_and] at hgo
      rw [← hgo]
      (repeat first | simp (disch := try exact dis1) only [evD, Nat.reduceBEq, Nat.reduceAdd, Nat.reduceLeDiff, fldP, dT, hg, zcR] | with_reducible intro _ | ((with_reducible apply And.intro); omega))
      exact ⟨_, .bool _ _, rfl⟩
    · rw [decide_eq_true (by omega), Bool.true_and] at hgo
      (repeat first | simp (disch := try exact dis1) only [evD, Nat.reduceBEq, Nat.reduceAdd, Nat.reduceLeDiff, fldP, dT, dF, hg] | with_reducible intro _ | ((with_reducible apply And.intro); omega))
      exact ⟨i + 1, ⟨by omega, hgo⟩, by omega, Ent.keep rfl fin5⟩
  · rw [List.drop_of_length_le (by omega)] at hgo
    rw [← hgo]
    (repeat first | simp (disch := try exact dis1) only [evD, Nat.reduceBEq, Nat.reduceAdd, Nat.reduceLeDiff, fldP, dF] | with_reducible intro _ | ((with_reducible apply And.intro); omega))
    unfold zhw
    (repeat first | simp (disch := try exact dis1) only [evD, Nat.reduceBEq, Nat.reduceAdd, Nat.reduceLeDiff, zcR] | with_reducible intro _ | ((with_reducible apply And.intro); omega))
    exact ⟨_, .bool _ _, rfl⟩
mutual
theorem zu0 : ∀ (e : Ex) (m n : Int), 0 ≤ zfo e m n → (za2 e : Int) + zfo e m n ≤ n
  | .mk _ _ _ _ l, m, n, h => by
    rw [zfo] at h ⊢
    split
    · rename_i hc
      rw [if_pos hc] at h
      omega
    · rename_i hc
      rw [if_neg hc] at h
      have := zjw l (m - 1) (n - 1) (by omega) h
      rw [za2]
      omega
theorem zjw : ∀ (l : List Ex) (m n : Int), 0 ≤ n → 0 ≤ za1 l m n → (zA l : Int) + za1 l m n ≤ n
  | [], m, n, _, h => by rw [za1] at h ⊢; rw [zA]; omega
  | e :: l, m, n, hn, h => by
    rw [za1, if_neg (by omega)] at h ⊢
    by_cases h0 : zfo e m n < 0
    · rw [ziD h0] at h
      omega
    · have h1 := zu0 e m n (by omega)
      have h2 := zjw l m _ (by omega) h
      rw [zA]
      omega
end
theorem zlb : ∀ {l : List St} {n : Int}, 0 ≤ n → 0 ≤ zeL l n → (zaT 0 l : Int) + zeL l n ≤ n ∧ ∀ s ∈ l, s.e.length ≤ 4 ∧ s.cases.length ≤ 100
  | [], n, hn, h => by
    rw [zeL] at h ⊢
    exact ⟨by show ((0 : Nat) : Int) + n ≤ n; omega, fun s hs => by cases hs⟩
  | s :: l, n, hn, h => by
    rw [zeL, if_neg (by omega)] at h ⊢
    by_cases h0 : zp0 s n < 0
    · rw [zhU h0] at h
      omega
    · obtain ⟨h2, h3⟩ := zlb (l := l) (n := zp0 s n) (by omega) h
      have e : (zaT 0 (s :: l) : Int) = zA s.e + zaT 0 l := by
        show ((zA s.e + 0 + zaT 0 l : Nat) : Int) = _
        omega
      unfold zp0 at h0 h2
      split at h0
      · omega
      · rename_i hc
        rw [if_neg hc] at h2
        have h4 := zjw s.e 8 n hn (by omega)
        refine ⟨?_, fun t ht => ?_⟩
        · rw [e]
          unfold zp0
          rw [if_neg hc]
          omega
        · rcases List.mem_cons.1 ht with rfl | ht
          · omega
          · exact h3 t ht
def zg0 (bl : List Bl) : Nat := (bl.map fun b => zaT 0 b.stmts).sum
theorem zk5 : ∀ {l : List Bl} {n : Int}, 0 ≤ n → 0 ≤ ze4 l n → (zg0 l : Int) + ze4 l n ≤ n ∧ ∀ b ∈ l, ∀ s ∈ b.stmts, s.e.length ≤ 4 ∧ s.cases.length ≤ 100
  | [], n, hn, h => by
    rw [ze4] at h ⊢
    exact ⟨by show ((0 : Nat) : Int) + n ≤ n; omega, fun s hs => by cases hs⟩
  | b :: l, n, hn, h => by
    rw [ze4, if_neg (by omega)] at h ⊢
    by_cases h0 : zp9 b n < 0
    · rw [zjn h0] at h
      omega
    · obtain ⟨h2, h3⟩ := zk5 (l := l) (n := zp9 b n) (by omega) h
      have e : (zg0 (b :: l) : Int) = zaT 0 b.stmts + zg0 l := by
        unfold zg0
        rw [List.map_cons, List.sum_cons]
        omega
      unfold zp9 at h0 h2
      split at h0
      · omega
      · rename_i hc
        rw [if_neg hc] at h2
        obtain ⟨h4, h5⟩ := zlb (l := b.stmts) hn (by omega)
        refine ⟨?_, fun t ht => ?_⟩
        · rw [e]
          unfold zp9
          rw [if_neg hc]
          omega
        · rcases List.mem_cons.1 ht with rfl | ht
          · exact h5
          · exact h3 t ht
theorem zk9 : ∀ {bl : List Bl} {b : Bl}, b ∈ bl → zaT 0 b.stmts ≤ zg0 bl
  | [], b, h => by cases h
  | x :: l, b, h => by
    have e : zg0 (x :: l) = zaT 0 x.stmts + zg0 l := by unfold zg0; rw [List.map_cons, List.sum_cons]
    rcases List.mem_cons.1 h with rfl | h
    · omega
    · have := zk9 h; omega
theorem zv4 {k : Nat} : ∀ {l : List St}, zaT k l = zaT 0 l + k * l.length
  | [] => by simp [zaT]
  | s :: l => by
    have e1 : zaT k (s :: l) = zA s.e + k + zaT k l := rfl
    have e2 : zaT 0 (s :: l) = zA s.e + 0 + zaT 0 l := rfl
    rw [e1, e2, zv4 (l := l), List.length_cons, Nat.mul_succ]
    omega
theorem zoW : ∀ {l : List St} {s : St}, s ∈ l → zA s.e ≤ zaT 0 l
  | [], s, h => by cases h
  | x :: l, s, h => by
    have e : zaT 0 (x :: l) = zA x.e + 0 + zaT 0 l := rfl
    rcases List.mem_cons.1 h with rfl | h
    · omega
    · have := zoW h; omega
theorem zoL : ∀ {l : List St}, (l.flatMap zew).length ≤ zaT 0 l
  | [] => by simp [zaT]
  | s :: l => by
    have e : zaT 0 (s :: l) = zA s.e + 0 + zaT 0 l := rfl
    have := zoL (l := l)
    have := zk8 s
    rw [List.flatMap_cons, List.length_append]
    omega
theorem zoN {exit : List Int} : ∀ {bl : List Bl}, (univ exit bl).length ≤ exit.length + zg0 bl
  | [] => by simp [univ, zg0]
  | b :: l => by
    have h := zoN (exit := exit) (bl := l)
    have e : zg0 (b :: l) = zaT 0 b.stmts + zg0 l := by unfold zg0; rw [List.map_cons, List.sum_cons]
    have := zoL (l := b.stmts)
    unfold univ at h ⊢
    rw [List.length_append] at h ⊢
    rw [List.flatMap_cons, List.length_append]
    omega
theorem zpO {m : Nat} : ∀ {l : List Bl}, (∀ b ∈ l, b.stmts.length ≤ m) → zz l ≤ l.length * m
  | [], _ => by simp [zz]
  | b :: l, h => by
    have h1 := zpO (l := l) fun c hc => h c (List.mem_cons_of_mem _ hc)
    have h2 := h b (by simp)
    simp only [zz, List.map_cons, List.sum_cons, List.length_cons] at h1 ⊢
    rw [Nat.succ_mul]
    omega
structure SmallP (g : G) : Prop where
  blocks : g.blocks.length ≤ 12
  stmts : ∀ b ∈ g.blocks, b.stmts.length ≤ 12
  parts : ∀ b ∈ g.blocks, ∀ s ∈ b.stmts, s.e.length ≤ 4 ∧ s.cases.length ≤ 100
  size : zg0 g.blocks ≤ 20000
theorem zlX {g : G} {exit : List Int} (h : zoC g exit = true) : SmallP g ∧ exit.length ≤ 20 := by
  unfold zoC zoK at h
  simp only [Bool.and_eq_true, decide_eq_true_eq, List.all_eq_true] at h
  obtain ⟨h1, h2, ⟨_, h3⟩, h4⟩ := h
  obtain ⟨h5, h6⟩ := zk5 (n := 20000) (by omega) h3
  exact ⟨⟨h1, h4, h6, by omega⟩, h2⟩
theorem SmallP.few {g : G} (h : SmallP g) : fewB g := ⟨by have := h.blocks; omega, fun b hb => by have := h.stmts b hb; omega⟩
theorem SmallP.cnt {g : G} (h : SmallP g) : zz g.blocks ≤ 144 := by
  have h1 := zpO h.stmts
  have h2 := h.blocks
  have : g.blocks.length * 12 ≤ 12 * 12 := Nat.mul_le_mul_right 12 h2
  omega
theorem SmallP.good {g : G} {exit : List Int} (h : SmallP g) (he : exit.length ≤ 40) : GoodB (univ exit g.blocks) exit g.blocks := by
  have hs := h.size
  have hu := zoN (exit := exit) (bl := g.blocks)
  refine ⟨fun x hx => List.mem_append_left _ hx, fun b hb s hs => zvn hb hs, fun b hb s hm => ?_, fun b hb => ?_, by have := h.cnt; omega, by have := h.blocks; omega⟩
  · have h1 := zoW hm
    have h2 := zk9 hb
    have h3 := (h.parts b hb s hm).2
    exact ⟨by omega, by omega⟩
  · have h1 := zv4 (k := exit.length) (l := b.stmts)
    have h2 := zk9 hb
    have h3 := h.stmts b hb
    have h4 : exit.length * b.stmts.length ≤ 40 * 12 := Nat.mul_le_mul he h3
    omega
theorem SmallP.sub {g : G} (h : SmallP g) {x : List Bl} (k : SubB x g.blocks) : SmallP ⟨g.addr, x⟩ := by
  refine ⟨by have := k.1; have := h.blocks; simp only; omega, fun b hb => ?_, fun b hb s hs => ?_, ?_⟩
  · obtain ⟨y, hy, _, h2⟩ := k.mem hb
    exact Nat.le_trans h2.length_le (h.stmts y hy)
  · obtain ⟨y, hy, _, h2⟩ := k.mem hb
    exact h.parts y hy s (h2.mem hs)
  · refine Nat.le_trans ?_ h.size
    have : ∀ {a b : List Bl}, SubB a b → zg0 a ≤ zg0 b := by
      intro a
      induction a with
      | nil => intro b _; simp [zg0]
      | cons x a ih =>
        intro b h
        cases b with
        | nil => have := h.1; simp at this
        | cons y b =>
          obtain ⟨_, hs⟩ := h.2 0 (by simp) (by simp)
          have h2 : SubB a b := ⟨by have := h.1; simpa using this, fun i h1 h2 => h.2 (i + 1) (by simpa using h1) (by simpa using h2)⟩
          have h3 := ih h2
          simp only [List.getElem_cons_zero] at hs
          have := zoE (k := 0) hs
          simp only [zg0, List.map_cons, List.sum_cons] at h3 ⊢
          omega
    exact this k
def exV (v : Int) : Ex := .mk 2 0 v 0 []
def exC (n : Int) : Ex := .mk 1 n 0 0 []
def zsW (v : Int) (e : Ex) : St := ⟨1, v, 0, 0, 0, 0, [e], []⟩
def exE1 : G := ⟨0, [⟨0, [zsW 12 (exV 1), zsW 13 (exV 12), zsW 0 (exC 1), ⟨9, 0, 0, 0, 0, 0, [], []⟩]⟩]⟩
def exE1d : G := ⟨0, [⟨0, [zsW 0 (exC 1), ⟨9, 0, 0, 0, 0, 0, [], []⟩]⟩]⟩
def exE2 : G := ⟨0, [⟨0, [zsW 12 (.mk 18 0 0 4 [exV 1]), ⟨10, 0, 0, 0, 0, 0, [], []⟩]⟩]⟩
def exSt : St := zsW 1 (.mk 3 0 0 0 [exV 1, .mk 18 0 0 4 [exV 2]])
theorem zjP : SmallP exE1 := (zlX (exit := [0, 7]) (by decide)).1
theorem zmW : SmallP exE2 := (zlX (exit := []) (by decide)).1
theorem zvS : zs6 exE1 [0, 7] = .tup [.agg (G.cells exE1d), .int .i64 2, .int .i64 0] := by kernel_rfl
theorem zvh : zs6 exE2 [] = .tup [.agg (G.cells exE2), .int .i64 0, .int .i64 0] := by kernel_rfl
theorem ztJ : AV.tup [zjv (zaX [0, 7] exE1.blocks), zjv (outsL [0, 7] exE1.blocks)] = .tup [zjv [[1, 7]], zjv [[]]] := by kernel_rfl
theorem zuu : za (zew exSt) = za [1, 2] := by kernel_rfl
def zx0 : List Memo := [⟨zbr, [.agg exE1.cells, za [0, 7]], .tup [.agg (G.cells exE1d), .int .i64 2, .int .i64 0]⟩, ⟨ze3, [.agg exE1.cells, za [0, 7]], .tup [zjv [[1, 7]], zjv [[]]]⟩,
  ⟨zc9, [.agg exSt.cells], za [1, 2]⟩, ⟨zbr, [.agg exE2.cells, za []], .tup [.agg (G.cells exE2), .int .i64 0, .int .i64 0]⟩]
theorem zvd : ∀ e ∈ zx0, zB Tryz.prog e.f e.args (· = e.res) := by
  have h1 := zcx exE1 [0, 7] _ (zjP.good (by decide)) zjP.few
  have h2 := zkw exE1 [0, 7] _ (zjP.good (exit := [0, 7]) (by decide)).univ
  have h3 := zgM exSt (by decide)
  have h4 := zcx exE2 [] _ (zmW.good (by decide)) zmW.few
  rw [zvS] at h1
  rw [ztJ] at h2
  rw [zuu] at h3
  rw [zvh] at h4
  intro e he
  unfold zx0 at he
  simp only [List.mem_cons, List.not_mem_nil, or_false] at he
  rcases he with rfl | rfl | rfl | rfl
  · exact h1
  · exact h2
  · exact h3
  · exact h4
def q25 : FuncId → Nat → List Nat := qTabK [(zbb, ([19, 21, 25, 32, 45, 47, 78, 79, 84, 90, 96, 109, 111, 114], [3583], [])),
  (zkV, ([], [67126323], [])),
  (zdF, ([], [33571891], [])),
  (zc5, ([], [1031], [])),
  (zvz, ([7], [27], [])),
  (zvj, ([], [5], [])),
  (zqK, ([], [5], [])),
  (ztM, ([10], [119], [])),
  (zs2, ([7], [27], [])),
  (zrs, ([], [33571891], [])),
  (zkx, ([], [17768111], [])),
  (zeT, ([], [5], [])),
  (zdP, ([], [17596514574653], [])),
  (zdI, ([], [10384593871817177683247510831234831], [])),
  (zlF, ([], [5], [])),
  (zct, ([], [1073746119], [])),
  (zjy, ([], [16661], []))]
theorem zil : zB Tryz.prog zbb [] (· = .bool true) := ztu (qf := q25) (zl5 zrp zvd) 3000 (by kernel_rfl)
theorem flXX {r : List AV} (h : r.all AV.flat = true) {e e2 : Ex} : (AV.agg (encX e) :: AV.agg (encX e2) :: r).all AV.flat = true := by
  have h1 := flX (e := e) h
  have h2 := flX (e := e2) h
  simp only [List.all_cons, Bool.and_eq_true] at h1 h2 ⊢
  exact ⟨h1.1, h2⟩
mutual
def eqX : Ex → Ex → Bool
  | .mk a b c d l, .mk a2 b2 c2 d2 l2 => decide (a = a2) && (decide (b = b2) && (decide (c = c2) && (decide (d = d2) && eqXs l l2)))
def eqXs : List Ex → List Ex → Bool
  | [], [] => true
  | x :: l, y :: m => eqX x y && eqXs l m
  | [], _ :: _ => false
  | _ :: _, [] => false
end
mutual
theorem zxB : ∀ e : Ex, eqX e e = true
  | .mk a b c d l => by rw [eqX, zkZ l]; simp
theorem zkZ : ∀ l : List Ex, eqXs l l = true
  | [] => by rw [eqXs]
  | x :: l => by rw [eqXs, zxB x, zkZ l]; rfl
end
theorem zrU : ∀ {l m : List Ex}, l.length ≠ m.length → eqXs l m = false
  | [], [], h => absurd rfl h
  | x :: l, y :: m, h => by rw [eqXs, zrU (fun e => h (by simp [e])), Bool.and_false]
  | [], _ :: _, _ => by rw [eqXs]
  | _ :: _, [], _ => by rw [eqXs]
theorem zpf {l m : List Ex} {i : Nat} (h1 : i < l.length) (h2 : i < m.length) : eqXs (l.drop i) (m.drop i) = (eqX l[i] m[i] && eqXs (l.drop (i + 1)) (m.drop (i + 1))) := by
  rw [List.drop_eq_getElem_cons h1, List.drop_eq_getElem_cons h2, eqXs]
theorem zoQ : ∀ (k : Nat) (e e2 : Ex), za2 e ≤ k → zB Tryz.prog zhP [.agg (encX e), .agg (encX e2)] (· = .bool (eqX e e2)) := by
  intro k
  induction k with
  | zero => intro e e2 h; obtain ⟨_, _, _, _, l⟩ := e; rw [za2] at h; omega
  | succ k ih =>
  intro e e2 hk
  obtain ⟨op, nn, v, w, l⟩ := e
  obtain ⟨op2, nn2, v2, w2, l2⟩ := e2
  refine fn_x zqB rfl ?_
  unfold zkP
  have hB := hBig
  rw [za2] at hk
  rw [zbD, zbD, eqX]
  by_cases h1 : op = op2
  case neg =>
    rw [decide_eq_false h1, Bool.false_and]
    (repeat first | simp (disch := try exact dis1) only [evD, Nat.reduceBEq, Nat.reduceAdd, Nat.reduceLeDiff, fldP, dT, zbS] | with_reducible intro _ | ((with_reducible apply And.intro); omega))
    exact ⟨_, .bool _ _, rfl⟩
  by_cases h2 : nn = nn2
  case neg =>
    rw [decide_eq_true h1, decide_eq_false h2, Bool.true_and, Bool.false_and]
    (repeat first | simp (disch := try exact dis1) only [evD, Nat.reduceBEq, Nat.reduceAdd, Nat.reduceLeDiff, fldP, dT, dF, zbS] | with_reducible intro _ | ((with_reducible apply And.intro); omega))
    exact ⟨_, .bool _ _, rfl⟩
  by_cases h3 : v = v2
  case neg =>
    rw [decide_eq_true h1, decide_eq_true h2, decide_eq_false h3, Bool.true_and, Bool.true_and, Bool.false_and]
    (repeat first | simp (disch := try exact dis1) only [evD, Nat.reduceBEq, Nat.reduceAdd, Nat.reduceLeDiff, fldP, dT, dF, zbS] | with_reducible intro _ | ((with_reducible apply And.intro); omega))
    exact ⟨_, .bool _ _, rfl⟩
  by_cases h4 : w = w2
  case neg =>
    rw [decide_eq_true h1, decide_eq_true h2, decide_eq_true h3, decide_eq_false h4, Bool.true_and, Bool.true_and, Bool.true_and, Bool.false_and]
    (repeat first | simp (disch := try exact dis1) only [evD, Nat.reduceBEq, Nat.reduceAdd, Nat.reduceLeDiff, fldP, dT, dF, zbS] | with_reducible intro _ | ((with_reducible apply And.intro); omega))
    exact ⟨_, .bool _ _, rfl⟩
  rw [decide_eq_true h1, decide_eq_true h2, decide_eq_true h3, decide_eq_true h4, Bool.true_and, Bool.true_and, Bool.true_and, Bool.true_and]
  by_cases h5 : l.length = l2.length
  case neg =>
    rw [zrU h5]
    (repeat first | simp (disch := try exact dis1) only [evD, Nat.reduceBEq, Nat.reduceAdd, Nat.reduceLeDiff, fldP, dT, dF, zbS] | with_reducible intro _ | ((with_reducible apply And.intro); omega))
    exact ⟨_, .bool _ _, rfl⟩
  generalize hR : eqXs l l2 = R
  (repeat first | simp (disch := try exact dis1) only [evD, Nat.reduceBEq, Nat.reduceAdd, Nat.reduceLeDiff, fldP, dF] | with_reducible intro _ | ((with_reducible apply And.intro); omega))
  refine zl (fun i : Nat => ([(2, encP 5 [.int .i64 op, .int .u32 nn, .int .i64 v, .int .i64 w, encL 5 encX l]), (3, encP 5 [.int .i64 op2, .int .u32 nn2, .int .i64 v2, .int .i64 w2, encL 5 encX l2]), (5, .int .i64 i)], [])) 0 (fun i => i ≤ l.length ∧ eqXs (l.drop i) (l2.drop i) = R) (fun i => l.length - i) 0 ⟨Nat.zero_le _, hR⟩ (Ent.keep rfl fin5) ?_
  rintro i ⟨hi, hgo⟩ wf
  unfold zig
  by_cases hl : i < l.length
  · have hl2 : i < l2.length := by omega
    have hm := zcw (List.getElem_mem hl)
    rw [zpf hl hl2] at hgo
    (repeat first | simp (disch := try exact dis1) only [evD, Nat.reduceBEq, Nat.reduceAdd, Nat.reduceLeDiff, fldP, dT, zx hl, zx hl2, zaM, zaj] | with_reducible intro _ | ((with_reducible apply And.intro); omega))
    refine zcc (zp (ih l[i] l2[i] (by omega)) (flXX rfl)) ?_
    cases hx : eqX l[i] l2[i] with
    | true =>
      rw [hx, Bool.true_and] at hgo
      (repeat first | simp (disch := try exact dis1) only [evD, Nat.reduceBEq, Nat.reduceAdd, Nat.reduceLeDiff] | with_reducible intro _ | ((with_reducible apply And.intro); omega))
      exact ⟨i + 1, ⟨by omega, hgo⟩, by omega, Ent.keep rfl fin5⟩
    | false =>
      rw [hx, Bool.false_and] at hgo
      rw [← hgo]
      (repeat first | simp (disch := try exact dis1) only [evD, Nat.reduceBEq, Nat.reduceAdd, Nat.reduceLeDiff, zbS] | with_reducible intro _ | ((with_reducible apply And.intro); omega))
      exact ⟨_, .bool _ _, rfl⟩
  · rw [List.drop_of_length_le (by omega), List.drop_of_length_le (by omega), eqXs] at hgo
    rw [← hgo]
    (repeat first | simp (disch := try exact dis1) only [evD, Nat.reduceBEq, Nat.reduceAdd, Nat.reduceLeDiff, fldP, dF] | with_reducible intro _ | ((with_reducible apply And.intro); omega))
    unfold zib
    (repeat first | simp (disch := try exact dis1) only [evD, Nat.reduceBEq, Nat.reduceAdd, Nat.reduceLeDiff, zbS] | with_reducible intro _ | ((with_reducible apply And.intro); omega))
    exact ⟨_, .bool _ _, rfl⟩
def eqS (a b : St) : Bool := decide (a.op = b.op) && (decide (a.var = b.var) && (decide (a.width = b.width) && (decide (a.next = b.next) && (decide (a.els = b.els) && (decide (a.tgt = b.tgt) && (decide (a.e.length = b.e.length) && (decide (a.cases = b.cases) && eqXs a.e b.e)))))))
theorem zwj (a : St) : eqS a a = true := by unfold eqS; rw [zkZ]; simp
theorem eqS_op {a b : St} (h : eqS a b = true) : a.op = b.op := by
  unfold eqS at h
  rw [Bool.and_eq_true] at h
  exact of_decide_eq_true h.1
set_option maxHeartbeats 1000000 in
theorem zmk (a b : St) : zB Tryz.prog zfL [.agg a.cells, .agg b.cells] (· = .bool (eqS a b)) := by
  refine fn_x zl2 rfl ?_
  unfold zhb eqS
  have hB := hBig
  obtain ⟨op, var, width, next, els, tgt, l, cs⟩ := a
  obtain ⟨op2, var2, width2, next2, els2, tgt2, l2, cs2⟩ := b
  simp only [St.cells]
  have hsi := zkW cs cs2
  by_cases h1 : op = op2
  case neg =>
    rw [decide_eq_false h1, Bool.false_and]
    (repeat first | simp (disch := try exact dis1) only [evD, Nat.reduceBEq, Nat.reduceAdd, Nat.reduceLeDiff, fldP, dT, za, zV] | with_reducible intro _ | ((with_reducible apply And.intro); omega))
    exact ⟨_, .bool _ _, rfl⟩
  rw [decide_eq_true h1, Bool.true_and]
  by_cases h2 : var = var2
  case neg =>
    rw [decide_eq_false h2, Bool.false_and]
    (repeat first | simp (disch := try exact dis1) only [evD, Nat.reduceBEq, Nat.reduceAdd, Nat.reduceLeDiff, fldP, dT, dF, za, zV] | with_reducible intro _ | ((with_reducible apply And.intro); omega))
    exact ⟨_, .bool _ _, rfl⟩
  rw [decide_eq_true h2, Bool.true_and]
  by_cases h3 : width = width2
  case neg =>
    rw [decide_eq_false h3, Bool.false_and]
    (repeat first | simp (disch := try exact dis1) only [evD, Nat.reduceBEq, Nat.reduceAdd, Nat.reduceLeDiff, fldP, dT, dF, za, zV] | with_reducible intro _ | ((with_reducible apply And.intro); omega))
    exact ⟨_, .bool _ _, rfl⟩
  rw [decide_eq_true h3, Bool.true_and]
  by_cases h4 : next = next2
  case neg =>
    rw [decide_eq_false h4, Bool.false_and]
    (repeat first | simp (disch := try exact dis1) only [evD, Nat.reduceBEq, Nat.reduceAdd, Nat.reduceLeDiff, fldP, dT, dF, za, zV] | with_reducible intro _ | ((with_reducible apply And.intro); omega))
    exact ⟨_, .bool _ _, rfl⟩
  rw [decide_eq_true h4, Bool.true_and]
  by_cases h5 : els = els2
  case neg =>
    rw [decide_eq_false h5, Bool.false_and]
    (repeat first | simp (disch := try exact dis1) only [evD, Nat.reduceBEq, Nat.reduceAdd, Nat.reduceLeDiff, fldP, dT, dF, za, zV] | with_reducible intro _ | ((with_reducible apply And.intro); omega))
    exact ⟨_, .bool _ _, rfl⟩
  rw [decide_eq_true h5, Bool.true_and]
  by_cases h6 : tgt = tgt2
  case neg =>
    rw [decide_eq_false h6, Bool.false_and]
    (repeat first | simp (disch := try exact dis1) only [evD, Nat.reduceBEq, Nat.reduceAdd, Nat.reduceLeDiff, fldP, dT, dF, za, zV] | with_reducible intro _ | ((with_reducible apply And.intro); omega))
    exact ⟨_, .bool _ _, rfl⟩
  rw [decide_eq_true h6, Bool.true_and]
  by_cases h7 : l.length = l2.length
  case neg =>
    rw [decide_eq_false h7, Bool.false_and]
    (repeat first | simp (disch := try exact dis1) only [evD, Nat.reduceBEq, Nat.reduceAdd, Nat.reduceLeDiff, fldP, dT, dF, za, zV] | with_reducible intro _ | ((with_reducible apply And.intro); omega))
    exact ⟨_, .bool _ _, rfl⟩
  rw [decide_eq_true h7, Bool.true_and]
  generalize decide (cs = cs2) = q at hsi
  (repeat first | simp (disch := try exact dis1) only [evD, Nat.reduceBEq, Nat.reduceAdd, Nat.reduceLeDiff, fldP, dF, za] | with_reducible intro _ | ((with_reducible apply And.intro); omega))
  refine zm (zp hsi rfl) ?_
  cases q with
  | false =>
    rw [Bool.false_and]
    (repeat first | simp (disch := try exact dis1) only [evD, Nat.reduceBEq, Nat.reduceAdd, Nat.reduceLeDiff, zV] | with_reducible intro _ | ((with_reducible apply And.intro); omega))
    exact ⟨_, .bool _ _, rfl⟩
  | true =>
  rw [Bool.true_and]
  generalize hR : eqXs l l2 = R
  (repeat first | simp (disch := try exact dis1) only [evD, Nat.reduceBEq, Nat.reduceAdd, Nat.reduceLeDiff, fldP, dF, za] | with_reducible intro _ | ((with_reducible apply And.intro); omega))
  refine zl (fun i : Nat => ([(2, encP 8 (St.cells ⟨op, var, width, next, els, tgt, l, cs⟩)), (3, encP 8 (St.cells ⟨op2, var2, width2, next2, els2, tgt2, l2, cs2⟩)), (5, .int .i64 i)], [])) 0 (fun i => i ≤ l.length ∧ eqXs (l.drop i) (l2.drop i) = R) (fun i => l.length - i) 0 ⟨Nat.zero_le _, hR⟩ (Ent.tab [] [] rfl (by (try simp only [evWB, Nat.reduceBEq, Nat.reduceAdd, Nat.reduceSub, Nat.reduceLeDiff, Nat.reduceLT, implies_true, St.cells, za]) <;> exact fin2) (by (try simp only [evWB, Nat.reduceBEq, Nat.reduceAdd, Nat.reduceSub, Nat.reduceLeDiff, Nat.reduceLT, implies_true, St.cells, za]) <;> exact fin2)) ?_
  rintro i ⟨hi, hgo⟩ wf
  unfold zfu
  by_cases hl : i < l.length
  · have hl2 : i < l2.length := by omega
    rw [zpf hl hl2] at hgo
    (repeat first | simp (disch := try exact dis1) only [evD, Nat.reduceBEq, Nat.reduceAdd, Nat.reduceLeDiff, fldP, dT, St.cells, zx hl, zx hl2, zaM, zaj] | with_reducible intro _ | ((with_reducible apply And.intro); omega))
    refine zcc (zp (zoQ _ l[i] l2[i] (Nat.le_refl _)) (flXX rfl)) ?_
    cases hx : eqX l[i] l2[i] with
    | true =>
      rw [hx, Bool.true_and] at hgo
      (repeat first | simp (disch := try exact dis1) only [evD, Nat.reduceBEq, Nat.reduceAdd, Nat.reduceLeDiff] | with_reducible intro _ | ((with_reducible apply And.intro); omega))
      exact ⟨i + 1, ⟨by omega, hgo⟩, by omega, (Ent.tab [] [] rfl (by (try simp only [evWB, Nat.reduceBEq, Nat.reduceAdd, Nat.reduceSub, Nat.reduceLeDiff, Nat.reduceLT, implies_true, St.cells, za]) <;> exact fin2) (by (try simp only [evWB, Nat.reduceBEq, Nat.reduceAdd, Nat.reduceSub, Nat.reduceLeDiff, Nat.reduceLT, implies_true, St.cells, za]) <;> exact fin2))⟩
    | false =>
      rw [hx, Bool.false_and] at hgo
      rw [← hgo]
      (repeat first | simp (disch := try exact dis1) only [evD, Nat.reduceBEq, Nat.reduceAdd, Nat.reduceLeDiff, zV] | with_reducible intro _ | ((with_reducible apply And.intro); omega))
      exact ⟨_, .bool _ _, rfl⟩
  · rw [List.drop_of_length_le (by omega), List.drop_of_length_le (by omega), eqXs] at hgo
    rw [← hgo]
    (repeat first | simp (disch := try exact dis1) only [evD, Nat.reduceBEq, Nat.reduceAdd, Nat.reduceLeDiff, fldP, dF, St.cells] | with_reducible intro _ | ((with_reducible apply And.intro); omega))
    unfold zfb
    (repeat first | simp (disch := try exact dis1) only [evD, Nat.reduceBEq, Nat.reduceAdd, Nat.reduceLeDiff, zV] | with_reducible intro _ | ((with_reducible apply And.intro); omega))
    exact ⟨_, .bool _ _, rfl⟩
def ziH : List St → List St → Bool
  | [], [] => true
  | _ :: _, [] => false
  | [], t :: b => decide (t.op = 1) && ziH [] b
  | s :: a, t :: b => if eqS s t = true then ziH a b else decide (t.op = 1) && ziH (s :: a) b
inductive PartR : List St → List St → Prop
  | nil : PartR [] []
  | keep {s : St} {a b : List St} : PartR a b → PartR (s :: a) (s :: b)
  | drop {s : St} {a b : List St} : PartR a b → s.op = 1 → PartR a (s :: b)
theorem PartR.tail {s : St} {a b : List St} (h : PartR (s :: a) b) (h1 : s.op = 1) : PartR a b := by
  generalize hx : s :: a = x at h
  induction h with
  | nil => cases hx
  | keep h _ => cases hx; exact .drop h h1
  | drop h h2 ih => exact .drop (ih hx) h2
theorem PartR.part : ∀ {b a : List St}, PartR a b → ziH a b = true
  | [], [], _ => by rw [ziH]
  | [], _ :: _, h => by cases h
  | t :: b, [], h => by
    cases h with
    | drop h h1 => rw [ziH, decide_eq_true h1, PartR.part h]; rfl
  | t :: b, s :: a, h => by
    rw [ziH]
    split
    · rename_i he
      cases h with
      | keep h => exact PartR.part h
      | drop h h1 => exact PartR.part (h.tail ((eqS_op he).trans h1))
    · rename_i he
      cases h with
      | keep h => exact absurd (zwj _) he
      | drop h h1 => rw [decide_eq_true h1, PartR.part h]; rfl
theorem SubD.part {exit e : List Int} {a b : List St} (h : SubD exit e a b) : PartR a b := by
  induction h with
  | nil => exact .nil
  | keep _ ih => exact .keep ih
  | drop _ hr ih => exact .drop ih (zlA hr).1
theorem zn9 (a b : List St) (ha : a.length ≤ 1000000) : zB Tryz.prog zhA [encL 8 St.cells a, encL 8 St.cells b] (· = .bool (ziH a b)) := by
  refine fn_x znO rfl ?_
  unfold zi6
  have hB := hBig
  generalize hR : ziH a b = R
  (repeat first | simp (disch := try exact dis1) only [evD, Nat.reduceBEq, Nat.reduceAdd, Nat.reduceLeDiff] | with_reducible intro _ | ((with_reducible apply And.intro); omega))
  refine zl (fun q : Nat × Nat => ([(0, encL 8 St.cells a), (1, encL 8 St.cells b), (5, .int .i64 q.1), (6, .int .i64 q.2)], [])) 0 (fun q => q.1 ≤ a.length ∧ q.2 ≤ b.length ∧ ziH (a.drop q.1) (b.drop q.2) = R) (fun q => b.length - q.2) (0, 0) ⟨Nat.zero_le _, Nat.zero_le _, hR⟩ (Ent.keep rfl fin5) ?_
  rintro ⟨k, i⟩ ⟨hk, hi, hgo⟩ wf
  simp only at hk hi hgo
  unfold zgY
  by_cases hil : i < b.length
  case neg =>
    have hb0 : b.drop i = [] := List.drop_of_length_le (by omega)
    rw [hb0] at hgo
    by_cases hkl : k < a.length
    · rw [List.drop_eq_getElem_cons hkl, ziH] at hgo
      rw [← hgo]
      (repeat first | simp (disch := try exact dis1) only [evD, Nat.reduceBEq, Nat.reduceAdd, Nat.reduceLeDiff, dF] | with_reducible intro _ | ((with_reducible apply And.intro); omega))
      unfold zdV
      (repeat first | simp (disch := try exact dis1) only [evD, Nat.reduceBEq, Nat.reduceAdd, Nat.reduceLeDiff, dF, zcV] | with_reducible intro _ | ((with_reducible apply And.intro); omega))
      exact ⟨_, .bool _ _, rfl⟩
    · rw [List.drop_of_length_le (by omega), ziH] at hgo
      rw [← hgo]
      (repeat first | simp (disch := try exact dis1) only [evD, Nat.reduceBEq, Nat.reduceAdd, Nat.reduceLeDiff, dF] | with_reducible intro _ | ((with_reducible apply And.intro); omega))
      unfold zdV
      (repeat first | simp (disch := try exact dis1) only [evD, Nat.reduceBEq, Nat.reduceAdd, Nat.reduceLeDiff, dT, zcV] | with_reducible intro _ | ((with_reducible apply And.intro); omega))
      exact ⟨_, .bool _ _, rfl⟩
  have hgb := zx (f := St.cells) (d := []) hil
  have hop : b[i].cells.getD 0 .undef = .int .i64 b[i].op := rfl
  rw [List.drop_eq_getElem_cons hil] at hgo
  have hrest : (decide (b[i].op = 1) && ziH (a.drop k) (b.drop (i + 1))) = R → zmB Tryz.prog 0 true .skip .skip (fun _ _ _ _ => True) [] [] 0 → True := fun _ _ => trivial
  clear hrest
  by_cases hkl : k < a.length
  · have hga := zx (f := St.cells) (d := []) hkl
    have hss := zmk a[k] b[i]
    rw [List.drop_eq_getElem_cons hkl, ziH] at hgo
    (repeat first | simp (disch := try exact dis1) only [evD, Nat.reduceBEq, Nat.reduceAdd, Nat.reduceLeDiff, dT, hga, hgb, St.len, St.eight] | with_reducible intro _ | ((with_reducible apply And.intro); omega))
    refine zcc (zp hss rfl) ?_
    cases hx : eqS a[k] b[i] with
    | true =>
      rw [hx, if_pos rfl] at hgo
      (repeat first | simp (disch := try exact dis1) only [evD, Nat.reduceBEq, Nat.reduceAdd, Nat.reduceLeDiff] | with_reducible intro _ | ((with_reducible apply And.intro); omega))
      exact ⟨(k + 1, i + 1), ⟨by simp only; omega, by simp only; omega, hgo⟩, by simp only; omega, Ent.keep rfl fin5⟩
    | false =>
      rw [hx, if_neg (by simp), ← List.drop_eq_getElem_cons hkl] at hgo
      by_cases ho : b[i].op = 1
      · rw [decide_eq_true ho, Bool.true_and] at hgo
        (repeat first | simp (disch := try exact dis1) only [evD, Nat.reduceBEq, Nat.reduceAdd, Nat.reduceLeDiff, dF, hgb, fldP, hop, St.len] | with_reducible intro _ | ((with_reducible apply And.intro); omega))
        exact ⟨(k, i + 1), ⟨hk, by simp only; omega, hgo⟩, by simp only; omega, Ent.keep rfl fin5⟩
      · rw [decide_eq_false ho, Bool.false_and] at hgo
        rw [← hgo]
        (repeat first | simp (disch := try exact dis1) only [evD, Nat.reduceBEq, Nat.reduceAdd, Nat.reduceLeDiff, dT, hgb, fldP, hop, St.len, zcV] | with_reducible intro _ | ((with_reducible apply And.intro); omega))
        exact ⟨_, .bool _ _, rfl⟩
  · rw [List.drop_of_length_le (by omega), ziH] at hgo
    have hka : a.drop k = [] := List.drop_of_length_le (by omega)
    by_cases ho : b[i].op = 1
    · rw [decide_eq_true ho, Bool.true_and] at hgo
      (repeat first | simp (disch := try exact dis1) only [evD, Nat.reduceBEq, Nat.reduceAdd, Nat.reduceLeDiff, dT, dF, hgb, fldP, hop, St.len] | with_reducible intro _ | ((with_reducible apply And.intro); omega))
      exact ⟨(k, i + 1), ⟨hk, by simp only; omega, by simp only [hka]; exact hgo⟩, by simp only; omega, Ent.keep rfl fin5⟩
    · rw [decide_eq_false ho, Bool.false_and] at hgo
      rw [← hgo]
      (repeat first | simp (disch := try exact dis1) only [evD, Nat.reduceBEq, Nat.reduceAdd, Nat.reduceLeDiff, dT, dF, hgb, fldP, hop, St.len, zcV] | with_reducible intro _ | ((with_reducible apply And.intro); omega))
      exact ⟨_, .bool _ _, rfl⟩
theorem zf1 (g : G) (h : zz g.blocks ≤ 500) : zB Tryz.prog zcz [.agg g.cells] (· = .int .i64 (zz g.blocks)) := by
  refine fn_x zjI rfl ?_
  unfold zfO
  have hB := hBig
  obtain ⟨ad, bl⟩ := g
  simp only [G.cells] at h ⊢
  (repeat first | simp (disch := try exact dis1) only [evD, Nat.reduceBEq, Nat.reduceAdd, Nat.reduceLeDiff, fldP] | with_reducible intro _ | ((with_reducible apply And.intro); omega))
  refine zl (fun i : Nat => ([(1, encP 2 [.int .u32 ad, encL 2 Bl.cells bl]), (3, .int .i64 (zz (bl.take i))), (4, .int .i64 i)], [])) 0 (fun i => i ≤ bl.length ∧ zz (bl.take i) ≤ 500) (fun i => bl.length - i) 0 ⟨Nat.zero_le _, by show 0 ≤ _; omega⟩ (Ent.keep rfl fin5) ?_
  rintro i ⟨hi, hc⟩ wf
  unfold zem
  by_cases hil : i < bl.length
  · have hg : (bl.map Bl.cells).getD i [] = [.int .u32 bl[i].addr, encL 8 St.cells bl[i].stmts] := zx hil
    have ht := ziA hil
    have hle : zz (bl.take (i + 1)) ≤ zz bl := by
      have e : bl = bl.take (i + 1) ++ bl.drop (i + 1) := (List.take_append_drop _ _).symm
      conv => rhs; rw [e]
      simp only [zz, List.map_append, List.sum_append]
      omega
    have hmn : min (bl[i].stmts.length : Int) 1000 = bl[i].stmts.length := by omega
    (repeat first | simp (disch := try exact dis1) only [evD, Nat.reduceBEq, Nat.reduceAdd, Nat.reduceLeDiff, fldP, dT, hg, hmn] | with_reducible intro _ | ((with_reducible apply And.intro); omega))
    exact ⟨i + 1, ⟨by omega, by omega⟩, by omega, (Ent.tab [] [] rfl (by (try simp only [evWB, Nat.reduceBEq, Nat.reduceAdd, Nat.reduceSub, Nat.reduceLeDiff, Nat.reduceLT, implies_true, ht]) <;> exact fin2) (by (try simp only [evWB, Nat.reduceBEq, Nat.reduceAdd, Nat.reduceSub, Nat.reduceLeDiff, Nat.reduceLT, implies_true, ht]) <;> exact fin2))⟩
  · obtain rfl : i = bl.length := by omega
    rw [List.take_length] at hc ⊢
    have hmn : (if (1000 : Int) < (zz bl : Int) then (1000 : Int) else (zz bl : Int)) = zz bl := if_neg (by omega)
    (repeat first | simp (disch := try exact dis1) only [evD, Nat.reduceBEq, Nat.reduceAdd, Nat.reduceLeDiff, fldP, dF] | with_reducible intro _ | ((with_reducible apply And.intro); omega))
    unfold zeg
    (repeat first | simp (disch := try exact dis1) only [evD, Nat.reduceBEq, Nat.reduceAdd, Nat.reduceLeDiff, hmn, zfZ] | with_reducible intro _ | ((with_reducible apply And.intro); omega))
    exact ⟨_, .int _ _ _, rfl⟩
theorem zut {g : G} (h : OkG g) (exit : List Int) : RelD exit (zg7 exit g.blocks) g.blocks := zo1 _ h.ends
theorem zqk {exit : List Int} {bl : List Bl} : zg7 exit (zg7 exit bl) = zg7 exit bl := zrt (Nat.lt_succ_self _)
set_option maxHeartbeats 1000000 in
theorem L25_LivenessDeadPart_ok (g : G) (exit : List Int) : zB Tryz.prog zdh [.agg g.cells, za exit] (· = .bool true) := by
  refine fn_x zgB rfl ?_
  unfold zc6
  have hB := hBig
  have hsm := zpu g exit
  have hex := zil
  cases hs : zoC g exit with
  | false =>
    rw [hs] at hsm
    obtain ⟨ad, bl⟩ := g
    simp only [G.cells] at hsm ⊢
    (repeat first | simp (disch := try exact dis1) only [evD, Nat.reduceBEq, Nat.reduceAdd, Nat.reduceLeDiff, fldP, zh2, tab, List.getD_cons_zero, List.getD_cons_succ] | with_reducible intro _ | ((with_reducible apply And.intro); omega))
    refine zm (zp hsm rfl) ?_
    (repeat first | simp (disch := try exact dis1) only [evD, Nat.reduceBEq, Nat.reduceAdd, Nat.reduceLeDiff] | with_reducible intro _ | ((with_reducible apply And.intro); omega))
    refine zm (zp hex rfl) ?_
    (repeat first | simp (disch := try exact dis1) only [evD, Nat.reduceBEq, Nat.reduceAdd, Nat.reduceLeDiff, zaS] | with_reducible intro _ | ((with_reducible apply And.intro); omega))
    exact ⟨_, .bool _ _, rfl⟩
  | true =>
    rw [hs] at hsm
    obtain ⟨hp, hel⟩ := zlX hs
    have hcg := zjN g hp.few
    have hd := zcx g exit _ (hp.good (by omega)) hp.few
    have hcnt := hp.cnt
    by_cases hc : zgR g = 0
    case neg =>
      unfold zs6 at hd
      rw [if_neg hc] at hd
      obtain ⟨ad, bl⟩ := g
      simp only [G.cells] at hsm hcg hd ⊢
      generalize hce : zgR ⟨ad, bl⟩ = ce at hc hcg hd
      (repeat first | simp (disch := try exact dis1) only [evD, Nat.reduceBEq, Nat.reduceAdd, Nat.reduceLeDiff, fldP, zh2, tab, List.getD_cons_zero, List.getD_cons_succ] | with_reducible intro _ | ((with_reducible apply And.intro); omega))
      refine zm (zp hsm rfl) ?_
      (repeat first | simp (disch := try exact dis1) only [evD, Nat.reduceBEq, Nat.reduceAdd, Nat.reduceLeDiff, fldP, zh2, tab, List.getD_cons_zero, List.getD_cons_succ] | with_reducible intro _ | ((with_reducible apply And.intro); omega))
      refine zm (zp hd rfl) ?_
      (repeat first | simp (disch := try exact dis1) only [evD, Nat.reduceBEq, Nat.reduceAdd, Nat.reduceLeDiff, dT, fldP, zh2, tab, List.getD_cons_zero, List.getD_cons_succ, List.length_nil] | with_reducible intro _ | ((with_reducible apply And.intro); omega))
      refine zm (zp hcg rfl) ?_
      (repeat first | simp (disch := try exact dis1) only [evD, Nat.reduceBEq, Nat.reduceAdd, Nat.reduceLeDiff, dT] | with_reducible intro _ | ((with_reducible apply And.intro); omega))
      refine zm (zp hex rfl) ?_
      (repeat first | simp (disch := try exact dis1) only [evD, Nat.reduceBEq, Nat.reduceAdd, Nat.reduceLeDiff, zaS] | with_reducible intro _ | ((with_reducible apply And.intro); omega))
      exact ⟨_, .bool _ _, rfl⟩
    have hok := zt5.1 hc
    have hrel := zut hok exit
    have hsub := hrel.subB
    have hok2 := hok.rel hrel
    have hp2 := hp.sub hsub
    have hd2 := zcx ⟨g.addr, zg7 exit g.blocks⟩ exit _ (hp2.good (by omega)) hp2.few
    have hc2 := zt5.2 hok2
    have hst1 := zf1 g (by omega)
    have hst2 := zf1 ⟨g.addr, zg7 exit g.blocks⟩ (by have := hp2.cnt; omega)
    have hcnt2 := hsub.count
    have hlen := hsub.1
    have hblk := hrel.blk
    have hstm := hp2.stmts
    unfold zs6 at hd hd2
    rw [if_pos hc] at hd
    rw [if_pos hc2] at hd2
    simp only [zqk, Nat.sub_self] at hd2
    obtain ⟨ad, bl⟩ := g
    simp only [G.cells] at hsm hd hd2 hst1 hst2 hcnt hcnt2 hlen hblk hstm ⊢
    clear hsub hok2 hp2 hc2 hrel
    generalize zg7 exit bl = x at *
    (repeat first | simp (disch := try exact dis1) only [evD, Nat.reduceBEq, Nat.reduceAdd, Nat.reduceLeDiff, fldP, zh2, tab, List.getD_cons_zero, List.getD_cons_succ] | with_reducible intro _ | ((with_reducible apply And.intro); omega))
    refine zm (zp hsm rfl) ?_
    (repeat first | simp (disch := try exact dis1) only [evD, Nat.reduceBEq, Nat.reduceAdd, Nat.reduceLeDiff, fldP, zh2, tab, List.getD_cons_zero, List.getD_cons_succ] | with_reducible intro _ | ((with_reducible apply And.intro); omega))
    refine zm (zp hd rfl) ?_
    (repeat first | simp (disch := try exact dis1) only [evD, Nat.reduceBEq, Nat.reduceAdd, Nat.reduceLeDiff, dF, fldP, zh2, tab, List.getD_cons_zero, List.getD_cons_succ] | with_reducible intro _ | ((with_reducible apply And.intro); omega))
    refine zcc (zp hst1 rfl) ?_
    (repeat first | simp (disch := try exact dis1) only [evD, Nat.reduceBEq, Nat.reduceAdd, Nat.reduceLeDiff, dF, fldP, zh2, tab, List.getD_cons_zero, List.getD_cons_succ] | with_reducible intro _ | ((with_reducible apply And.intro); omega))
    refine zcc (zp hst2 rfl) ?_
    (repeat first | simp (disch := try exact dis1) only [evD, Nat.reduceBEq, Nat.reduceAdd, Nat.reduceLeDiff, dF, fldP, zh2, tab, List.getD_cons_zero, List.getD_cons_succ] | with_reducible intro _ | ((with_reducible apply And.intro); omega))
    refine zl (fun i : Nat => ([(1, za exit), (2, encP 2 [.int .u32 ad, encL 2 Bl.cells bl]), (5, .ptr 0 0 0 0 0), (8, .int .i64 i)], [(0, .row 2 [[.int .u32 ad, encL 2 Bl.cells x]] 0)])) 1 (fun i => i ≤ bl.length) (fun i => bl.length - i) 0 (Nat.zero_le _) (Ent.tab [(0, 0, 0)] [] rfl (by (try simp only [evWB, Nat.reduceBEq, Nat.reduceAdd, Nat.reduceSub, Nat.reduceLeDiff, Nat.reduceLT, implies_true, za]) <;> exact fin2) (by (try simp only [evWB, Nat.reduceBEq, Nat.reduceAdd, Nat.reduceSub, Nat.reduceLeDiff, Nat.reduceLT, implies_true, za]) <;> exact fin2)) ?_
    rintro i hi wf
    unfold zcg
    by_cases hil : i < bl.length
    case neg =>
      (repeat first | simp (disch := try exact dis1) only [evD, Nat.reduceBEq, Nat.reduceAdd, Nat.reduceLeDiff, fldP, dF] | with_reducible intro _ | ((with_reducible apply And.intro); omega))
      unfold zch
      (repeat first | simp (disch := try exact dis1) only [evD, Nat.reduceBEq, Nat.reduceAdd, Nat.reduceLeDiff, fldP, zh2, tab, List.getD_cons_zero, List.getD_cons_succ] | with_reducible intro _ | ((with_reducible apply And.intro); omega))
      refine zm (zp hd2 rfl) ?_
      (repeat first | simp (disch := try exact dis1) only [evD, Nat.reduceBEq, Nat.reduceAdd, Nat.reduceLeDiff, dT, fldP] | with_reducible intro _ | ((with_reducible apply And.intro); omega))
      refine zm (zp hex rfl) ?_
      (repeat first | simp (disch := try exact dis1) only [evD, Nat.reduceBEq, Nat.reduceAdd, Nat.reduceLeDiff, zaS] | with_reducible intro _ | ((with_reducible apply And.intro); omega))
      exact ⟨_, .bool _ _, rfl⟩
    have hix : i < x.length := by omega
    obtain ⟨e1, e2⟩ := hblk i hix hil
    have hpart := e2.part.part
    have hgb : (bl.map Bl.cells).getD i [] = [.int .u32 bl[i].addr, encL 8 St.cells bl[i].stmts] := zx hil
    have hgx : (x.map Bl.cells).getD i [] = [.int .u32 x[i].addr, encL 8 St.cells x[i].stmts] := zx hix
    have hpt := zn9 x[i].stmts bl[i].stmts (by have := hstm _ (List.getElem_mem hix); omega)
    rw [hpart] at hpt
    (repeat first | simp (disch := try exact dis1) only [evD, Nat.reduceBEq, Nat.reduceAdd, Nat.reduceLeDiff, fldP, dT, dF, hgb, hgx] | with_reducible intro _ | ((with_reducible apply And.intro); omega))
    refine zcc (zp hpt rfl) ?_
    (repeat first | simp (disch := try exact dis1) only [evD, Nat.reduceBEq, Nat.reduceAdd, Nat.reduceLeDiff] | with_reducible intro _ | ((with_reducible apply And.intro); omega))
    exact ⟨i + 1, by omega, by omega, (Ent.tab [(0, 0, 0)] [] rfl (by (try simp only [evWB, Nat.reduceBEq, Nat.reduceAdd, Nat.reduceSub, Nat.reduceLeDiff, Nat.reduceLT, implies_true, za]) <;> exact fin2) (by (try simp only [evWB, Nat.reduceBEq, Nat.reduceAdd, Nat.reduceSub, Nat.reduceLeDiff, Nat.reduceLT, implies_true, za]) <;> exact fin2))⟩
end Go.Ab
