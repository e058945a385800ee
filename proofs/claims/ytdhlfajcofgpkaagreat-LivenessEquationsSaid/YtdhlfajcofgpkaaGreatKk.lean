/-
  Part 11 of the proof: how the calls of this program run, over values instead of memory, and what each function computes.
-/
import Derived.KernelRfl
import Derived.Test.YtdhlfajcofgpkaaGreatKj
set_option maxRecDepth 100000
set_option linter.unusedVariables false
set_option linter.unusedSimpArgs false
set_option linter.unnecessarySimpa false
set_option linter.unusedSectionVars false

namespace Go.Ab
open Go.RowKit Go.Proofs
structure FewD (exit : List Int) (bl : List Bl) : Prop where
  sz : ∀ b ∈ bl, ∀ s ∈ b.stmts, zA s.e ≤ 100000 ∧ s.cases.length ≤ 100000 ∧ (s.op = 1 → s.e.length = 1)
  len : bl.length ≤ 1000000
  cnt : zD bl ≤ 1000
  uni : (univ exit bl).length + exit.length ≤ 400000
structure RunR (exit : List Int) (bl0 R x : List Bl) (k : Nat) : Prop where
  few : FewD exit x
  len : x.length = bl0.length
  cnt : k + zD x ≤ zD bl0
  go : ∀ j, zD x < j → deadR exit j x = R
theorem zn6 : ∀ (k : Nat) (e : Ex) (m n : Int), zbl e ≤ k → -1000 ≤ m → m ≤ 1000 → -1 ≤ n → n ≤ 30000 → zB Tryz.prog zgA [.agg (encX e), .int .i64 m, .int .i64 n] (· = .int .i64 (zfu e m n)) := by
  intro k
  induction k with
  | zero => intro e m n h; obtain ⟨_, _, _, _, l⟩ := e; rw [zbl] at h; omega
  | succ k ih =>
  intro e m n hk h1 h2 h3 h4
  obtain ⟨op, nn, v, w, l⟩ := e
  refine fn_x zoI rfl ?_
  unfold zj2
  have hB := hBig
  rw [zbl] at hk
  have hR := zfy (.mk op nn v w l) m n h3
  rw [zfu] at hR ⊢
  generalize hE : encX (.mk op nn v w l) = E
  rw [zb3] at hE
  subst hE
  by_cases c1 : m < 1
  · rw [if_pos (.inl c1)]
    (repeat first | simp (disch := try exact dis1) only [evD, Nat.reduceBEq, Nat.reduceAdd, Nat.reduceLeDiff, dT, zcY] | with_reducible intro _ | ((with_reducible apply And.intro); omega))
    exact ⟨_, .int _ _ _, rfl⟩
  by_cases c2 : n < 1
  · rw [if_pos (.inr (.inl c2))]
    (repeat first | simp (disch := try exact dis1) only [evD, Nat.reduceBEq, Nat.reduceAdd, Nat.reduceLeDiff, dT, dF, zcY] | with_reducible intro _ | ((with_reducible apply And.intro); omega))
    exact ⟨_, .int _ _ _, rfl⟩
  by_cases c3 : 4 < l.length
  · rw [if_pos (.inr (.inr c3))]
    (repeat first | simp (disch := try exact dis1) only [evD, Nat.reduceBEq, Nat.reduceAdd, Nat.reduceLeDiff, dT, dF, zcY] | with_reducible intro _ | ((with_reducible apply And.intro); omega))
    exact ⟨_, .int _ _ _, rfl⟩
  rw [if_neg (by omega)] at hR ⊢
  (repeat first | simp (disch := try exact dis1) only [evD, Nat.reduceBEq, Nat.reduceAdd, Nat.reduceLeDiff, dF] | with_reducible intro _ | ((with_reducible apply And.intro); omega))
  generalize hG : zbc l (m - 1) (n - 1) = R at hR ⊢
  refine zl (fun s : Nat × Int => ([(1, .int .i64 m), (3, encP 5 [.int .i64 op, .int .u32 nn, .int .i64 v, .int .i64 w, encL 5 encX l]), (7, .int .i64 s.2), (8, .int .i64 s.1)], [])) 0 (fun s => s.1 ≤ l.length ∧ -1 ≤ s.2 ∧ s.2 ≤ n ∧ zbc (l.drop s.1) (m - 1) s.2 = R) (fun s => l.length - s.1) (0, n - 1) ⟨Nat.zero_le _, by simp only; omega, by simp only; omega, hG⟩ (Ent.keep rfl fin5) ?_
  rintro ⟨i, x⟩ ⟨hi, hx1, hx2, hgo⟩ wf
  simp only at hi hx1 hx2 hgo
  unfold zhn
  by_cases hl : i < l.length
  · by_cases hx : 0 ≤ x
    · rw [zko hl hx] at hgo
      have hm := zdb (List.getElem_mem hl)
      have hr := zfy l[i] (m - 1) x hx1
      (repeat first | simp (disch := try exact dis1) only [evD, Nat.reduceBEq, Nat.reduceAdd, Nat.reduceLeDiff, fldP, dT, dF, zu hl, zbd, zau] | with_reducible intro _ | ((with_reducible apply And.intro); omega))
      refine zh (zn (ih l[i] (m - 1) x (by omega) (by omega) (by omega) (by omega) (by omega)) (flX rfl)) ?_
      (repeat first | simp (disch := try exact dis1) only [evD, Nat.reduceBEq, Nat.reduceAdd, Nat.reduceLeDiff] | with_reducible intro _ | ((with_reducible apply And.intro); omega))
      exact ⟨(i + 1, zfu l[i] (m - 1) x), ⟨by simp only; omega, by simp only; omega, by simp only; omega, hgo⟩, by simp only; omega, Ent.keep rfl fin5⟩
    · rw [ziA (by omega)] at hgo
      subst hgo
      (repeat first | simp (disch := try exact dis1) only [evD, Nat.reduceBEq, Nat.reduceAdd, Nat.reduceLeDiff, fldP, dT, dF] | with_reducible intro _ | ((with_reducible apply And.intro); omega))
      unfold zeX
      (repeat first | simp (disch := try exact dis1) only [evD, Nat.reduceBEq, Nat.reduceAdd, Nat.reduceLeDiff, zcY] | with_reducible intro _ | ((with_reducible apply And.intro); omega))
      exact ⟨_, .int _ _ _, rfl⟩
  · rw [List.drop_of_length_le (by omega), zbc] at hgo
    subst hgo
    (repeat first | simp (disch := try exact dis1) only [evD, Nat.reduceBEq, Nat.reduceAdd, Nat.reduceLeDiff, fldP, dT, dF] | with_reducible intro _ | ((with_reducible apply And.intro); omega))
    unfold zeX
    (repeat first | simp (disch := try exact dis1) only [evD, Nat.reduceBEq, Nat.reduceAdd, Nat.reduceLeDiff, zcY] | with_reducible intro _ | ((with_reducible apply And.intro); omega))
    exact ⟨_, .int _ _ _, rfl⟩
def zri (s : St) (n : Int) : Int := if 4 < s.e.length ∨ 100 < s.cases.length then -1 else zbc s.e 8 n
def zeV : List St → Int → Int
  | [], n => n
  | s :: l, n => if n < 0 then n else zeV l (zri s n)
def zqN (b : Bl) (n : Int) : Int := if 1100 < b.stmts.length then -1 else zeV b.stmts n
def ze1 : List Bl → Int → Int
  | [], n => n
  | b :: l, n => if n < 0 then n else ze1 l (zqN b n)
def zpp (g : G) : Bool := decide (g.blocks.length ≤ 300) && decide (0 ≤ ze1 g.blocks 20000)
def zpP (g : G) (exit : List Int) : Bool := decide (g.blocks.length ≤ 12) && (decide (exit.length ≤ 20) && (zpp g && g.blocks.all fun b => decide (b.stmts.length ≤ 12)))
theorem zqi {l : List St} {i : Nat} {n : Int} (h : i < l.length) (hn : 0 ≤ n) : zeV (l.drop i) n = zeV (l.drop (i + 1)) (zri l[i] n) := by
  rw [List.drop_eq_getElem_cons h, zeV, if_neg (by omega)]
theorem zhR {l : List St} {n : Int} (hn : n < 0) : zeV l n = n := by
  cases l with
  | nil => rw [zeV]
  | cons a l => rw [zeV, if_pos hn]
theorem zqY {l : List Bl} {i : Nat} {n : Int} (h : i < l.length) (hn : 0 ≤ n) : ze1 (l.drop i) n = ze1 (l.drop (i + 1)) (zqN l[i] n) := by
  rw [List.drop_eq_getElem_cons h, ze1, if_neg (by omega)]
theorem zjr {l : List Bl} {n : Int} (hn : n < 0) : ze1 l n = n := by
  cases l with
  | nil => rw [ze1]
  | cons a l => rw [ze1, if_pos hn]
theorem zjy (g : G) : zB Tryz.prog zd5 [.agg g.cells, .int .i64 8] (· = .bool (zpp g)) := by
  refine fn_x zjq rfl ?_
  unfold zga zpp
  have hB := hBig
  obtain ⟨ad, bl⟩ := g
  simp only [G.cells]
  by_cases h300 : 300 < bl.length
  · rw [decide_eq_false (by omega), Bool.false_and]
    (repeat first | simp (disch := try exact dis1) only [evD, Nat.reduceBEq, Nat.reduceAdd, Nat.reduceLeDiff, fldP, dT, zaw] | with_reducible intro _ | ((with_reducible apply And.intro); omega))
    exact ⟨_, .bool _ _, rfl⟩
  rw [decide_eq_true (by omega), Bool.true_and]
  generalize hR : ze1 bl 20000 = R
  have fin : R < 0 → decide (0 ≤ R) = false := fun h => decide_eq_false (by omega)
  (repeat first | simp (disch := try exact dis1) only [evD, Nat.reduceBEq, Nat.reduceAdd, Nat.reduceLeDiff, fldP, dF] | with_reducible intro _ | ((with_reducible apply And.intro); omega))
  refine zl (fun a : Nat × Int => ([(1, .int .i64 8), (2, encP 2 [.int .u32 ad, encL 2 Bl.cells bl]), (5, .int .i64 a.2), (6, .int .i64 a.1)], [])) 0 (fun a => a.1 ≤ bl.length ∧ 0 ≤ a.2 ∧ a.2 ≤ 20000 ∧ ze1 (bl.drop a.1) a.2 = R) (fun a => bl.length - a.1) (0, 20000) ⟨Nat.zero_le _, by simp only; omega, by simp only; omega, hR⟩ (Ent.keep rfl fin5) ?_
  rintro ⟨i, n⟩ ⟨hi, hn1, hn2, hgo⟩ wf
  simp only at hi hn1 hn2 hgo
  unfold zej
  by_cases hil : i < bl.length
  case neg =>
    rw [List.drop_of_length_le (by omega), ze1] at hgo
    subst hgo
    rw [decide_eq_true hn1]
    (repeat first | simp (disch := try exact dis1) only [evD, Nat.reduceBEq, Nat.reduceAdd, Nat.reduceLeDiff, fldP, dF] | with_reducible intro _ | ((with_reducible apply And.intro); omega))
    unfold zeg
    (repeat first | simp (disch := try exact dis1) only [evD, Nat.reduceBEq, Nat.reduceAdd, Nat.reduceLeDiff, zaw] | with_reducible intro _ | ((with_reducible apply And.intro); omega))
    exact ⟨_, .bool _ _, rfl⟩
  have hg : (bl.map Bl.cells).getD i [] = [.int .u32 bl[i].addr, encL 8 St.cells bl[i].stmts] := zu hil
  rw [zqY hil hn1] at hgo
  unfold zqN at hgo
  generalize bl[i].addr = ad2 at hg
  generalize bl[i].stmts = m at hg hgo
  by_cases h11 : 1100 < m.length
  · rw [if_pos h11, zjr (by omega)] at hgo
    rw [fin (by omega)]
    (repeat first | simp (disch := try exact dis1) only [evD, Nat.reduceBEq, Nat.reduceAdd, Nat.reduceLeDiff, fldP, dT, hg, zaw] | with_reducible intro _ | ((with_reducible apply And.intro); omega))
    exact ⟨_, .bool _ _, rfl⟩
  rw [if_neg h11] at hgo
  (repeat first | simp (disch := try exact dis1) only [evD, Nat.reduceBEq, Nat.reduceAdd, Nat.reduceLeDiff, fldP, dT, dF, hg] | with_reducible intro _ | ((with_reducible apply And.intro); omega))
  generalize hM : zeV m n = M at hgo
  have hMR : M < 0 → R < 0 := fun h => by rw [zjr h] at hgo; omega
  refine zl (fun a : Nat × Int => ([(1, .int .i64 8), (2, encP 2 [.int .u32 ad, encL 2 Bl.cells bl]), (5, .int .i64 a.2), (6, .int .i64 i), (7, .int .i64 a.1)], [])) 0 (fun a => a.1 ≤ m.length ∧ 0 ≤ a.2 ∧ a.2 ≤ 20000 ∧ zeV (m.drop a.1) a.2 = M) (fun a => m.length - a.1) (0, n) ⟨Nat.zero_le _, hn1, hn2, hM⟩ (Ent.keep rfl fin5) ?_
  rintro ⟨k, n2⟩ ⟨hk, hk1, hk2, hgo2⟩ wf2
  simp only at hk hk1 hk2 hgo2
  unfold zep
  by_cases hkl : k < m.length
  case neg =>
    rw [List.drop_of_length_le (by omega), zeV] at hgo2
    subst hgo2
    (repeat first | simp (disch := try exact dis1) only [evD, Nat.reduceBEq, Nat.reduceAdd, Nat.reduceLeDiff, fldP, dF, hg] | with_reducible intro _ | ((with_reducible apply And.intro); omega))
    unfold zeq
    (repeat first | simp (disch := try exact dis1) only [evD, Nat.reduceBEq, Nat.reduceAdd, Nat.reduceLeDiff] | with_reducible intro _ | ((with_reducible apply And.intro); omega))
    exact ⟨(i + 1, n2), ⟨by simp only; omega, hk1, hk2, hgo⟩, by simp only; omega, Ent.keep rfl fin5⟩
  have hgm := zu (f := St.cells) (d := []) hkl
  rw [zqi hkl hk1] at hgo2
  unfold zri at hgo2
  generalize m[k] = s at hgm hgo2
  obtain ⟨op, var, width, next, els, tgt, e, cs⟩ := s
  simp only at hgo2
  simp only [St.cells] at hgm
  by_cases h4 : 4 < e.length
  · rw [if_pos (.inl h4), zhR (by omega)] at hgo2
    have := hMR (by omega)
    rw [fin this]
    (repeat first | simp (disch := try exact dis1) only [evD, Nat.reduceBEq, Nat.reduceAdd, Nat.reduceLeDiff, fldP, dT, hg, hgm, zaw] | with_reducible intro _ | ((with_reducible apply And.intro); omega))
    exact ⟨_, .bool _ _, rfl⟩
  by_cases h100 : 100 < cs.length
  · rw [if_pos (.inr h100), zhR (by omega)] at hgo2
    have := hMR (by omega)
    rw [fin this]
    (repeat first | simp (disch := try exact dis1) only [evD, Nat.reduceBEq, Nat.reduceAdd, Nat.reduceLeDiff, fldP, dT, dF, hg, hgm, za, zaw] | with_reducible intro _ | ((with_reducible apply And.intro); omega))
    exact ⟨_, .bool _ _, rfl⟩
  rw [if_neg (by omega)] at hgo2
  generalize hE : zbc e 8 n2 = E at hgo2
  have hEM : E < 0 → M < 0 := fun h => by rw [zhR h] at hgo2; omega
  (repeat first | simp (disch := try exact dis1) only [evD, Nat.reduceBEq, Nat.reduceAdd, Nat.reduceLeDiff, fldP, dT, dF, hg, hgm, za] | with_reducible intro _ | ((with_reducible apply And.intro); omega))
  refine zl (fun a : Nat × Int => ([(1, .int .i64 8), (2, encP 2 [.int .u32 ad, encL 2 Bl.cells bl]), (5, .int .i64 a.2), (6, .int .i64 i), (7, .int .i64 k), (8, .ptr 0 0 0 0 0), (9, .int .i64 a.1)], [(0, .row 8 [[.int .i64 op, .int .i64 var, .int .i64 width, .int .i64 next, .int .i64 els, .int .u32 tgt, encL 5 encX e, za cs]] 0)])) 1 (fun a => a.1 ≤ e.length ∧ 0 ≤ a.2 ∧ a.2 ≤ 20000 ∧ zbc (e.drop a.1) 8 a.2 = E) (fun a => e.length - a.1) (0, n2) ⟨Nat.zero_le _, hk1, hk2, hE⟩ (Ent.tab [(0, 0, 0)] [] rfl (by (try simp only [evWB, Nat.reduceBEq, Nat.reduceAdd, Nat.reduceSub, Nat.reduceLeDiff, Nat.reduceLT, implies_true, za]) <;> exact fin2) (by (try simp only [evWB, Nat.reduceBEq, Nat.reduceAdd, Nat.reduceSub, Nat.reduceLeDiff, Nat.reduceLT, implies_true, za]) <;> exact fin2)) ?_
  rintro ⟨j, n3⟩ ⟨hj, hj1, hj2, hgo3⟩ wf3
  simp only at hj hj1 hj2 hgo3
  unfold zed
  by_cases hjl : j < e.length
  case neg =>
    rw [List.drop_of_length_le (by omega), zbc] at hgo3
    subst hgo3
    (repeat first | simp (disch := try exact dis1) only [evD, Nat.reduceBEq, Nat.reduceAdd, Nat.reduceLeDiff, fldP, dF, hg] | with_reducible intro _ | ((with_reducible apply And.intro); omega))
    unfold zef
    (repeat first | simp (disch := try exact dis1) only [evD, Nat.reduceBEq, Nat.reduceAdd, Nat.reduceLeDiff] | with_reducible intro _ | ((with_reducible apply And.intro); omega))
    exact ⟨(k + 1, n3), ⟨by simp only; omega, hj1, hj2, hgo2⟩, by simp only; omega, (Ent.tab [] [] rfl (by (try simp only [evWB, Nat.reduceBEq, Nat.reduceAdd, Nat.reduceSub, Nat.reduceLeDiff, Nat.reduceLT, implies_true, za]) <;> exact fin2) (by (try simp only [evWB, Nat.reduceBEq, Nat.reduceAdd, Nat.reduceSub, Nat.reduceLeDiff, Nat.reduceLT, implies_true, za]) <;> exact fin2))⟩
  rw [zko hjl hj1] at hgo3
  have hr := zfy e[j] 8 n3 (by omega)
  (repeat first | simp (disch := try exact dis1) only [evD, Nat.reduceBEq, Nat.reduceAdd, Nat.reduceLeDiff, fldP, dT, dF, zu hjl, zbd, zau, za] | with_reducible intro _ | ((with_reducible apply And.intro); omega))
  refine zh (zn (zn6 (zbl e[j]) e[j] 8 n3 (Nat.le_refl _) (by omega) (by omega) (by omega) (by omega)) (flX rfl)) ?_
  by_cases hx : zfu e[j] 8 n3 < 0
  · rw [ziA hx] at hgo3
    have := hMR (hEM (by omega))
    rw [fin this]
    (repeat first | simp (disch := try exact dis1) only [evD, Nat.reduceBEq, Nat.reduceAdd, Nat.reduceLeDiff, dT, zaw] | with_reducible intro _ | ((with_reducible apply And.intro); omega))
    exact ⟨_, .bool _ _, rfl⟩
  · (repeat first | simp (disch := try exact dis1) only [evD, Nat.reduceBEq, Nat.reduceAdd, Nat.reduceLeDiff, dF] | with_reducible intro _ | ((with_reducible apply And.intro); omega))
    exact ⟨(j + 1, zfu e[j] 8 n3), ⟨by simp only; omega, by simp only; omega, by simp only; omega, hgo3⟩, by simp only; omega, (Ent.tab [(0, 0, 0)] [] rfl (by (try simp only [evWB, Nat.reduceBEq, Nat.reduceAdd, Nat.reduceSub, Nat.reduceLeDiff, Nat.reduceLT, implies_true, za]) <;> exact fin2) (by (try simp only [evWB, Nat.reduceBEq, Nat.reduceAdd, Nat.reduceSub, Nat.reduceLeDiff, Nat.reduceLT, implies_true, za]) <;> exact fin2))⟩
theorem zoP (g : G) (exit : List Int) : zB Tryz.prog ziC [.agg g.cells, za exit] (· = .bool (zpP g exit)) := by
  refine fn_x zpE rfl ?_
  unfold zj5 zpP
  have hB := hBig
  have hsg := zjy g
  generalize zpp g = sg at hsg
  obtain ⟨ad, bl⟩ := g
  simp only [G.cells] at hsg ⊢
  by_cases h12 : 12 < bl.length
  · rw [decide_eq_false (by omega), Bool.false_and]
    (repeat first | simp (disch := try exact dis1) only [evD, Nat.reduceBEq, Nat.reduceAdd, Nat.reduceLeDiff, fldP, dT, za, zc1] | with_reducible intro _ | ((with_reducible apply And.intro); omega))
    exact ⟨_, .bool _ _, rfl⟩
  rw [decide_eq_true (by omega), Bool.true_and]
  by_cases h20 : 20 < exit.length
  · rw [decide_eq_false (by omega), Bool.false_and]
    (repeat first | simp (disch := try exact dis1) only [evD, Nat.reduceBEq, Nat.reduceAdd, Nat.reduceLeDiff, fldP, dT, dF, za, zc1] | with_reducible intro _ | ((with_reducible apply And.intro); omega))
    exact ⟨_, .bool _ _, rfl⟩
  rw [decide_eq_true (by omega), Bool.true_and]
  (repeat first | simp (disch := try exact dis1) only [evD, Nat.reduceBEq, Nat.reduceAdd, Nat.reduceLeDiff, fldP, dT, dF, za, zkD, tab, List.getD_cons_zero, List.getD_cons_succ] | with_reducible intro _ | ((with_reducible apply And.intro); omega))
  refine zh (zn hsg rfl) ?_
  cases sg with
  | false =>
    rw [Bool.false_and]
    (repeat first | simp (disch := try exact dis1) only [evD, Nat.reduceBEq, Nat.reduceAdd, Nat.reduceLeDiff, zc1] | with_reducible intro _ | ((with_reducible apply And.intro); omega))
    exact ⟨_, .bool _ _, rfl⟩
  | true =>
  rw [Bool.true_and]
  generalize hR : (bl.all fun b => decide (b.stmts.length ≤ 12)) = R
  (repeat first | simp (disch := try exact dis1) only [evD, Nat.reduceBEq, Nat.reduceAdd, Nat.reduceLeDiff, fldP] | with_reducible intro _ | ((with_reducible apply And.intro); omega))
  refine zl (fun i : Nat => ([(2, encP 2 [.int .u32 ad, encL 2 Bl.cells bl]), (5, .int .i64 i)], [])) 0 (fun i => i ≤ bl.length ∧ ((bl.drop i).all fun b => decide (b.stmts.length ≤ 12)) = R) (fun i => bl.length - i) 0 ⟨Nat.zero_le _, hR⟩ (Ent.keep rfl fin5) ?_
  rintro i ⟨hi, hgo⟩ wf
  unfold zhb
  by_cases hil : i < bl.length
  · have hg : (bl.map Bl.cells).getD i [] = [.int .u32 bl[i].addr, encL 8 St.cells bl[i].stmts] := zu hil
    rw [List.drop_eq_getElem_cons hil, List.all_cons] at hgo
    by_cases h : 12 < bl[i].stmts.length
    · rw [decide_eq_false (by omega), Bool.false_and] at hgo
      rw [← hgo]
      (repeat first | simp (disch := try exact dis1) only [evD, Nat.reduceBEq, Nat.reduceAdd, Nat.reduceLeDiff, fldP, dT, hg, zc1] | with_reducible intro _ | ((with_reducible apply And.intro); omega))
      exact ⟨_, .bool _ _, rfl⟩
    · rw [decide_eq_true (by omega), Bool.true_and] at hgo
      (repeat first | simp (disch := try exact dis1) only [evD, Nat.reduceBEq, Nat.reduceAdd, Nat.reduceLeDiff, fldP, dT, dF, hg] | with_reducible intro _ | ((with_reducible apply And.intro); omega))
      exact ⟨i + 1, ⟨by omega, hgo⟩, by omega, Ent.keep rfl fin5⟩
  · rw [List.drop_of_length_le (by omega)] at hgo
    rw [← hgo]
    (repeat first | simp (disch := try exact dis1) only [evD, Nat.reduceBEq, Nat.reduceAdd, Nat.reduceLeDiff, fldP, dF] | with_reducible intro _ | ((with_reducible apply And.intro); omega))
    unfold zhq
    (repeat first | simp (disch := try exact dis1) only [evD, Nat.reduceBEq, Nat.reduceAdd, Nat.reduceLeDiff, zc1] | with_reducible intro _ | ((with_reducible apply And.intro); omega))
    exact ⟨_, .bool _ _, rfl⟩
mutual
theorem ztW : ∀ (e : Ex) (m n : Int), 0 ≤ zfu e m n → (zbl e : Int) + zfu e m n ≤ n
  | .mk _ _ _ _ l, m, n, h => by
    rw [zfu] at h ⊢
    split
    · rename_i hc
      rw [if_pos hc] at h
      omega
    · rename_i hc
      rw [if_neg hc] at h
      have := zjv l (m - 1) (n - 1) (by omega) h
      rw [zbl]
      omega
theorem zjv : ∀ (l : List Ex) (m n : Int), 0 ≤ n → 0 ≤ zbc l m n → (zA l : Int) + zbc l m n ≤ n
  | [], m, n, _, h => by rw [zbc] at h ⊢; rw [zA]; omega
  | e :: l, m, n, hn, h => by
    rw [zbc, if_neg (by omega)] at h ⊢
    by_cases h0 : zfu e m n < 0
    · rw [ziA h0] at h
      omega
    · have h1 := ztW e m n (by omega)
      have h2 := zjv l m _ (by omega) h
      rw [zA]
      omega
end
theorem zmh : ∀ {l : List St} {n : Int}, 0 ≤ n → 0 ≤ zeV l n → (zY 0 l : Int) + zeV l n ≤ n ∧ ∀ s ∈ l, s.e.length ≤ 4 ∧ s.cases.length ≤ 100
  | [], n, hn, h => by
    rw [zeV] at h ⊢
    exact ⟨by show ((0 : Nat) : Int) + n ≤ n; omega, fun s hs => by cases hs⟩
  | s :: l, n, hn, h => by
    rw [zeV, if_neg (by omega)] at h ⊢
    by_cases h0 : zri s n < 0
    · rw [zhR h0] at h
      omega
    · obtain ⟨h2, h3⟩ := zmh (l := l) (n := zri s n) (by omega) h
      have e : (zY 0 (s :: l) : Int) = zA s.e + zY 0 l := by
        show ((zA s.e + 0 + zY 0 l : Nat) : Int) = _
        omega
      unfold zri at h0 h2
      split at h0
      · omega
      · rename_i hc
        rw [if_neg hc] at h2
        have h4 := zjv s.e 8 n hn (by omega)
        refine ⟨?_, fun t ht => ?_⟩
        · rw [e]
          unfold zri
          rw [if_neg hc]
          omega
        · rcases List.mem_cons.1 ht with rfl | ht
          · omega
          · exact h3 t ht
def zjl (bl : List Bl) : Nat := (bl.map fun b => zY 0 b.stmts).sum
theorem zkT : ∀ {l : List Bl} {n : Int}, 0 ≤ n → 0 ≤ ze1 l n → (zjl l : Int) + ze1 l n ≤ n ∧ ∀ b ∈ l, ∀ s ∈ b.stmts, s.e.length ≤ 4 ∧ s.cases.length ≤ 100
  | [], n, hn, h => by
    rw [ze1] at h ⊢
    exact ⟨by show ((0 : Nat) : Int) + n ≤ n; omega, fun s hs => by cases hs⟩
  | b :: l, n, hn, h => by
    rw [ze1, if_neg (by omega)] at h ⊢
    by_cases h0 : zqN b n < 0
    · rw [zjr h0] at h
      omega
    · obtain ⟨h2, h3⟩ := zkT (l := l) (n := zqN b n) (by omega) h
      have e : (zjl (b :: l) : Int) = zY 0 b.stmts + zjl l := by
        unfold zjl
        rw [List.map_cons, List.sum_cons]
        omega
      unfold zqN at h0 h2
      split at h0
      · omega
      · rename_i hc
        rw [if_neg hc] at h2
        obtain ⟨h4, h5⟩ := zmh (l := b.stmts) hn (by omega)
        refine ⟨?_, fun t ht => ?_⟩
        · rw [e]
          unfold zqN
          rw [if_neg hc]
          omega
        · rcases List.mem_cons.1 ht with rfl | ht
          · exact h5
          · exact h3 t ht
theorem zjk : ∀ {bl : List Bl} {b : Bl}, b ∈ bl → zY 0 b.stmts ≤ zjl bl
  | [], b, h => by cases h
  | x :: l, b, h => by
    have e : zjl (x :: l) = zY 0 x.stmts + zjl l := by unfold zjl; rw [List.map_cons, List.sum_cons]
    rcases List.mem_cons.1 h with rfl | h
    · omega
    · have := zjk h; omega
theorem zqf {k : Nat} : ∀ {l : List St}, zY k l = zY 0 l + k * l.length
  | [] => by simp [zY]
  | s :: l => by
    have e1 : zY k (s :: l) = zA s.e + k + zY k l := rfl
    have e2 : zY 0 (s :: l) = zA s.e + 0 + zY 0 l := rfl
    rw [e1, e2, zqf (l := l), List.length_cons, Nat.mul_succ]
    omega
theorem zpf : ∀ {l : List St} {s : St}, s ∈ l → zA s.e ≤ zY 0 l
  | [], s, h => by cases h
  | x :: l, s, h => by
    have e : zY 0 (x :: l) = zA x.e + 0 + zY 0 l := rfl
    rcases List.mem_cons.1 h with rfl | h
    · omega
    · have := zpf h; omega
theorem zoB : ∀ {l : List St}, (l.flatMap zc6).length ≤ zY 0 l
  | [] => by simp [zY]
  | s :: l => by
    have e : zY 0 (s :: l) = zA s.e + 0 + zY 0 l := rfl
    have := zoB (l := l)
    have := zhN s
    rw [List.flatMap_cons, List.length_append]
    omega
theorem zlx {exit : List Int} : ∀ {bl : List Bl}, (univ exit bl).length ≤ exit.length + zjl bl
  | [] => by simp [univ, zjl]
  | b :: l => by
    have h := zlx (exit := exit) (bl := l)
    have e : zjl (b :: l) = zY 0 b.stmts + zjl l := by unfold zjl; rw [List.map_cons, List.sum_cons]
    have := zoB (l := b.stmts)
    unfold univ at h ⊢
    rw [List.length_append] at h ⊢
    rw [List.flatMap_cons, List.length_append]
    omega
theorem zps {m : Nat} : ∀ {l : List Bl}, (∀ b ∈ l, b.stmts.length ≤ m) → zD l ≤ l.length * m
  | [], _ => by simp [zD]
  | b :: l, h => by
    have h1 := zps (l := l) fun c hc => h c (List.mem_cons_of_mem _ hc)
    have h2 := h b (by simp)
    simp only [zD, List.map_cons, List.sum_cons, List.length_cons] at h1 ⊢
    rw [Nat.succ_mul]
    omega
structure SmallP (g : G) : Prop where
  blocks : g.blocks.length ≤ 12
  stmts : ∀ b ∈ g.blocks, b.stmts.length ≤ 12
  parts : ∀ b ∈ g.blocks, ∀ s ∈ b.stmts, s.e.length ≤ 4 ∧ s.cases.length ≤ 100
  size : zjl g.blocks ≤ 20000
theorem zlR {g : G} {exit : List Int} (h : zpP g exit = true) : SmallP g ∧ exit.length ≤ 20 := by
  unfold zpP zpp at h
  simp only [Bool.and_eq_true, decide_eq_true_eq, List.all_eq_true] at h
  obtain ⟨h1, h2, ⟨_, h3⟩, h4⟩ := h
  obtain ⟨h5, h6⟩ := zkT (n := 20000) (by omega) h3
  exact ⟨⟨h1, h4, h6, by omega⟩, h2⟩
theorem SmallP.few {g : G} (h : SmallP g) : fewB g := ⟨by have := h.blocks; omega, fun b hb => by have := h.stmts b hb; omega⟩
theorem SmallP.cnt {g : G} (h : SmallP g) : zD g.blocks ≤ 144 := by
  have h1 := zps h.stmts
  have h2 := h.blocks
  have : g.blocks.length * 12 ≤ 12 * 12 := Nat.mul_le_mul_right 12 h2
  omega
theorem SmallP.good {g : G} {exit : List Int} (h : SmallP g) (he : exit.length ≤ 40) : GoodB (univ exit g.blocks) exit g.blocks := by
  have hs := h.size
  have hu := zlx (exit := exit) (bl := g.blocks)
  refine ⟨fun x hx => List.mem_append_left _ hx, fun b hb s hs => zu8 hb hs, fun b hb s hm => ?_, fun b hb => ?_, by have := h.cnt; omega, by have := h.blocks; omega⟩
  · have h1 := zpf hm
    have h2 := zjk hb
    have h3 := (h.parts b hb s hm).2
    exact ⟨by omega, by omega⟩
  · have h1 := zqf (k := exit.length) (l := b.stmts)
    have h2 := zjk hb
    have h3 := h.stmts b hb
    have h4 : exit.length * b.stmts.length ≤ 40 * 12 := Nat.mul_le_mul he h3
    omega
def exV (v : Int) : Ex := .mk 2 0 v 0 []
def exC (n : Int) : Ex := .mk 1 n 0 0 []
def zto (v : Int) (e : Ex) : St := ⟨1, v, 0, 0, 0, 0, [e], []⟩
def exE1 : G := ⟨0, [⟨0, [zto 12 (exV 1), zto 13 (exV 12), zto 0 (exC 1), ⟨9, 0, 0, 0, 0, 0, [], []⟩]⟩]⟩
def exE1d : G := ⟨0, [⟨0, [zto 0 (exC 1), ⟨9, 0, 0, 0, 0, 0, [], []⟩]⟩]⟩
def exE2 : G := ⟨0, [⟨0, [zto 12 (.mk 18 0 0 4 [exV 1]), ⟨10, 0, 0, 0, 0, 0, [], []⟩]⟩]⟩
def exSt : St := zto 1 (.mk 3 0 0 0 [exV 1, .mk 18 0 0 4 [exV 2]])
theorem zjK : SmallP exE1 := (zlR (exit := [0, 7]) (by decide)).1
theorem zne : SmallP exE2 := (zlR (exit := []) (by decide)).1
theorem zuZ : zwz exE1 [0, 7] = .tup [.agg (G.cells exE1d), .int .i64 2, .int .i64 0] := by kernel_rfl
theorem ztT : zwz exE2 [] = .tup [.agg (G.cells exE2), .int .i64 0, .int .i64 0] := by kernel_rfl
theorem zui : AV.tup [zN (zbx [0, 7] exE1.blocks), zN (zog [0, 7] exE1.blocks)] = .tup [zN [[1, 7]], zN [[]]] := by kernel_rfl
theorem zuq : za (zc6 exSt) = za [1, 2] := by kernel_rfl
def zx4 : List Memo := [⟨zc8, [.agg exE1.cells, za [0, 7]], .tup [.agg (G.cells exE1d), .int .i64 2, .int .i64 0]⟩, ⟨zde, [.agg exE1.cells, za [0, 7]], .tup [zN [[1, 7]], zN [[]]]⟩,
  ⟨zca, [.agg exSt.cells], za [1, 2]⟩, ⟨zc8, [.agg exE2.cells, za []], .tup [.agg (G.cells exE2), .int .i64 0, .int .i64 0]⟩]
theorem zuD : ∀ e ∈ zx4, zB Tryz.prog e.f e.args (· = e.res) := by
  have h1 := zgO exE1 [0, 7] _ (zjK.good (by decide)) zjK.few
  have h2 := zgX exE1 [0, 7] _ (zjK.good (exit := [0, 7]) (by decide)).univ
  have h3 := zd8 exSt (by decide)
  have h4 := zgO exE2 [] _ (zne.good (by decide)) zne.few
  rw [zuZ] at h1
  rw [zui] at h2
  rw [zuq] at h3
  rw [ztT] at h4
  intro e he
  unfold zx4 at he
  simp only [List.mem_cons, List.not_mem_nil, or_false] at he
  rcases he with rfl | rfl | rfl | rfl
  · exact h1
  · exact h2
  · exact h3
  · exact h4
def q25 : FuncId → Nat → List Nat := qTabK [(zbR, ([19, 21, 25, 32, 45, 47, 78, 79, 84, 90, 96, 109, 111, 114], [3583], [])),
  (zlW, ([], [67126323], [])),
  (zcA, ([], [33571891], [])),
  (zcd, ([], [1031], [])),
  (ztI, ([7], [27], [])),
  (zt1, ([], [5], [])),
  (zqr, ([], [5], [])),
  (zvV, ([10], [119], [])),
  (zst, ([7], [27], [])),
  (zqU, ([], [33571891], [])),
  (zkB, ([], [17768111], [])),
  (zfg, ([], [5], [])),
  (zdR, ([], [17596514574653], [])),
  (zdO, ([], [10384593871817177683247510831234831], [])),
  (zlf, ([], [5], [])),
  (zcE, ([], [1073746119], [])),
  (zjL, ([], [16661], []))]
theorem zir : zB Tryz.prog zbR [] (· = .bool true) := zs2 (qf := q25) (zlb zrj zuD) 3000 (by kernel_rfl)
theorem zpB {n : Int} : ∀ {l : List Int}, (insU n l).length ≤ l.length + 1
  | [] => Nat.le_refl _
  | x :: l => by
    unfold insU
    split
    · have := zpB (n := n) (l := l)
      simp only [List.length_cons]
      omega
    · split
      · omega
      · simp
theorem zkQ {d : List Int} : ∀ {l a : List Int}, (l.foldl (insN d) a).length ≤ a.length + l.length
  | [], _ => Nat.le_refl _
  | x :: l, a => by
    rw [List.foldl_cons]
    have h1 := zkQ (d := d) (l := l) (a := insN d a x)
    have h2 : (insN d a x).length ≤ a.length + 1 := by
      unfold insN
      split
      · omega
      · exact zpB
    simp only [List.length_cons]
    omega
theorem zpr {exit : List Int} {s : St} : (zma exit s).length ≤ zA s.e + exit.length := by
  unfold zma
  have h1 := zhN s
  split
  · have := zfW (a := zc6 s) (b := exit)
    omega
  · omega
theorem zoh {s : St} : (zfP s).length ≤ 1 := by
  unfold zfP
  split <;> simp
theorem znX {exit : List Int} : ∀ {l : List St} {p : List Int × List Int}, (l.foldl (eqnS exit) p).1.length ≤ p.1.length + zY exit.length l ∧ (l.foldl (eqnS exit) p).2.length ≤ p.2.length + l.length
  | [], _ => ⟨by simp [zY], Nat.le_refl _⟩
  | s :: l, p => by
    rw [List.foldl_cons]
    obtain ⟨h1, h2⟩ := znX (exit := exit) (l := l) (p := eqnS exit p s)
    have e : zY exit.length (s :: l) = zA s.e + exit.length + zY exit.length l := rfl
    have h3 := zkQ (d := p.2) (l := zma exit s) (a := p.1)
    have h4 := zpr (exit := exit) (s := s)
    have h5 := zfW (a := p.2) (b := zfP s)
    have h6 := zoh (s := s)
    have e1 : (eqnS exit p s).1 = (zma exit s).foldl (insN p.2) p.1 := rfl
    have e2 : (eqnS exit p s).2 = zah p.2 (zfP s) := rfl
    rw [e1] at h1
    rw [e2] at h2
    simp only [List.length_cons]
    omega
section
variable {Q : QT} (exit : List Int) (ad : Int) (bl : List Bl) (li lo : List (List Int)) (i : Nat)
theorem eq_l1 (want : List Int) (k : Nat) (s : St) (u a d : List Int) (ha : a.length + u.length ≤ 500000) (hd : d.length ≤ 1000)
    (hfin : ∀ K H nx, Ent 0 K H nx [(1, za exit), (2, encP 2 [.int .u32 ad, encL 2 Bl.cells bl]), (5, zN li), (6, zN lo), (7, .int .i64 i), (8, za want), (9, za (u.foldl (insN d) a)), (10, za (zah d (zfP s))), (13, .int .i64 ((k + 1 : Nat) : Int))] [] 0 → Q .normal K H nx) (hk : k ≤ 1000)
    {K : Kn} {H : AH} {nx : Nat} (hent : Ent 0 K H nx [(1, za exit), (2, encP 2 [.int .u32 ad, encL 2 Bl.cells bl]), (5, zN li), (6, zN lo), (7, .int .i64 i), (8, za want), (9, za a), (10, za d), (13, .int .i64 k), (14, .ptr 0 0 0 0 0), (15, za u), (16, .int .i64 0)] [(0, .row 8 [s.cells] 0)] 1) :
    zg2 Tryz.prog 0 za9 (zaX 6 (seqQ Tryz.prog 0 za8 (zaX 5 (seqQ Tryz.prog 0 za6 Q)))) K H nx := by
  have hB := hBig
  refine zl (fun m : Nat => ([(1, za exit), (2, encP 2 [.int .u32 ad, encL 2 Bl.cells bl]), (5, zN li), (6, zN lo), (7, .int .i64 i), (8, za want), (9, za ((u.take m).foldl (insN d) a)), (10, za d), (13, .int .i64 k), (14, .ptr 0 0 0 0 0), (15, za u), (16, .int .i64 m)], [(0, .row 8 [s.cells] 0)])) 1
    (fun m => m ≤ u.length) (fun m => u.length - m) 0 (Nat.zero_le _) hent ?_
  rintro m hm wf
  unfold za9
  by_cases hml : m < u.length
  · have hgl := zu (f := cI) (d := []) hml
    have hst : (u.take (m + 1)).foldl (insN d) a = insN d ((u.take m).foldl (insN d) a) u[m] := zb1 hml
    have hln := zkQ (d := d) (l := u.take m) (a := a)
    rw [List.length_take] at hln
    generalize (u.take m).foldl (insN d) a = b at hst hln ⊢
    have hhas := zmI d u[m]
    have hins := zgk b u[m] (by omega)
    by_cases hmem : u[m] ∈ d
    · have e1 : insN d b u[m] = b := if_pos hmem
      rw [e1] at hst
      rw [decide_eq_true hmem] at hhas
      (repeat first | simp (disch := try exact dis1) only [evD, Nat.reduceBEq, Nat.reduceAdd, Nat.reduceLeDiff, dT, hgl, za, zN] | with_reducible intro _ | ((with_reducible apply And.intro); omega))
      refine zh (zn hhas rfl) ?_
      (repeat first | simp (disch := try exact dis1) only [evD, Nat.reduceBEq, Nat.reduceAdd, Nat.reduceLeDiff] | with_reducible intro _ | ((with_reducible apply And.intro); omega))
      exact ⟨m + 1, by omega, by omega, (Ent.tab [(0, 0, 0)] [] rfl (by (try simp only [evWB, Nat.reduceBEq, Nat.reduceAdd, Nat.reduceSub, Nat.reduceLeDiff, Nat.reduceLT, implies_true, za, zN, hst]) <;> exact fin2) (by (try simp only [evWB, Nat.reduceBEq, Nat.reduceAdd, Nat.reduceSub, Nat.reduceLeDiff, Nat.reduceLT, implies_true, za, zN, hst]) <;> exact fin2))⟩
    · have e1 : insN d b u[m] = insU u[m] b := if_neg hmem
      rw [e1] at hst
      rw [decide_eq_false hmem] at hhas
      (repeat first | simp (disch := try exact dis1) only [evD, Nat.reduceBEq, Nat.reduceAdd, Nat.reduceLeDiff, dT, hgl, za, zN] | with_reducible intro _ | ((with_reducible apply And.intro); omega))
      refine zh (zn hhas rfl) ?_
      (repeat first | simp (disch := try exact dis1) only [evD, Nat.reduceBEq, Nat.reduceAdd, Nat.reduceLeDiff, dT, hgl, za, zN] | with_reducible intro _ | ((with_reducible apply And.intro); omega))
      refine zh (zn hins rfl) ?_
      (repeat first | simp (disch := try exact dis1) only [evD, Nat.reduceBEq, Nat.reduceAdd, Nat.reduceLeDiff] | with_reducible intro _ | ((with_reducible apply And.intro); omega))
      exact ⟨m + 1, by omega, by omega, (Ent.tab [(0, 0, 0)] [] rfl (by (try simp only [evWB, Nat.reduceBEq, Nat.reduceAdd, Nat.reduceSub, Nat.reduceLeDiff, Nat.reduceLT, implies_true, za, zN, hst]) <;> exact fin2) (by (try simp only [evWB, Nat.reduceBEq, Nat.reduceAdd, Nat.reduceSub, Nat.reduceLeDiff, Nat.reduceLT, implies_true, za, zN, hst]) <;> exact fin2))⟩
  · obtain rfl : m = u.length := by omega
    rw [List.take_length]
    have hdf := zg1 s
    have hun := zhM d (zfP s) (by have := zoh (s := s); omega)
    (repeat first | simp (disch := try exact dis1) only [evD, Nat.reduceBEq, Nat.reduceAdd, Nat.reduceLeDiff, dF, za] | with_reducible intro _ | ((with_reducible apply And.intro); omega))
    unfold za8
    (repeat first | simp (disch := try exact dis1) only [evD, Nat.reduceBEq, Nat.reduceAdd, Nat.reduceLeDiff, St.len, St.eight] | with_reducible intro _ | ((with_reducible apply And.intro); omega))
    refine zh (zn hdf rfl) ?_
    (repeat first | simp (disch := try exact dis1) only [evD, Nat.reduceBEq, Nat.reduceAdd, Nat.reduceLeDiff] | with_reducible intro _ | ((with_reducible apply And.intro); omega))
    refine zh (zn hun rfl) ?_
    (repeat first | simp (disch := try exact dis1) only [evD, Nat.reduceBEq, Nat.reduceAdd, Nat.reduceLeDiff] | with_reducible intro _ | ((with_reducible apply And.intro); omega))
    unfold za6
    (repeat first | simp (disch := try exact dis1) only [evD, Nat.reduceBEq, Nat.reduceAdd, Nat.reduceLeDiff] | with_reducible intro _ | ((with_reducible apply And.intro); omega))
    refine hfin _ _ _ ?_
    exact (Ent.tab [] [] rfl (by (try simp only [evWB, Nat.reduceBEq, Nat.reduceAdd, Nat.reduceSub, Nat.reduceLeDiff, Nat.reduceLT, implies_true, za, zN]) <;> exact fin2) (by (try simp only [evWB, Nat.reduceBEq, Nat.reduceAdd, Nat.reduceSub, Nat.reduceLeDiff, Nat.reduceLT, implies_true, za, zN]) <;> exact fin2))
theorem eq_l4 (want : List Int) (hi : i < bl.length) (hex : exit.length ≤ 40) (hco : zY exit.length bl[i].stmts ≤ 90000) (hsl : bl[i].stmts.length ≤ 900)
    (hfin : wpX Tryz.prog 0 zao Q [(1, za exit), (2, encP 2 [.int .u32 ad, encL 2 Bl.cells bl]), (5, zN li), (6, zN lo), (7, .int .i64 i), (8, za want), (9, za (bl[i].stmts.foldl (eqnS exit) ([], [])).1), (10, za (bl[i].stmts.foldl (eqnS exit) ([], [])).2), (13, .int .i64 bl[i].stmts.length), (84, .bool false)] [] 0)
    {K : Kn} {H : AH} {nx : Nat} (hent : Ent 0 K H nx [(1, za exit), (2, encP 2 [.int .u32 ad, encL 2 Bl.cells bl]), (5, zN li), (6, zN lo), (7, .int .i64 i), (8, za want), (9, za []), (10, za []), (13, .int .i64 0)] [] 0) :
    zg2 Tryz.prog 0 zba (zaX 4 (seqQ Tryz.prog 0 zao Q)) K H nx := by
  have hB := hBig
  have hg : (bl.map Bl.cells).getD i [] = [.int .u32 bl[i].addr, encL 8 St.cells bl[i].stmts] := zu hi
  generalize bl[i].addr = ad2 at hg
  generalize bl[i].stmts = l at hg hfin hco hsl
  refine zl (fun k : Nat => ([(1, za exit), (2, encP 2 [.int .u32 ad, encL 2 Bl.cells bl]), (5, zN li), (6, zN lo), (7, .int .i64 i), (8, za want), (9, za ((l.take k).foldl (eqnS exit) ([], [])).1), (10, za ((l.take k).foldl (eqnS exit) ([], [])).2), (13, .int .i64 k)], [])) 0
    (fun k => k ≤ l.length) (fun k => l.length - k) 0 (Nat.zero_le _) hent ?_
  rintro k hk wf
  unfold zba
  by_cases hkl : k < l.length
  · have hgm := zu (f := St.cells) (d := []) hkl
    have hst : (l.take (k + 1)).foldl (eqnS exit) ([], []) = eqnS exit ((l.take k).foldl (eqnS exit) ([], [])) l[k] := zb1 hkl
    obtain ⟨b1, b2⟩ := znX (exit := exit) (l := l.take k) (p := ([], []))
    have hct : zY exit.length (l.take k) + (zA l[k].e + exit.length) ≤ zY exit.length l := by
      have h1 := zjz (k := exit.length) hkl
      have h2 : zY exit.length l = zY exit.length (l.take k) + zY exit.length (l.drop k) := by
        have : ∀ (a b : List St), zY exit.length (a ++ b) = zY exit.length a + zY exit.length b := by
          intro a b
          induction a with
          | nil => simp [zY]
          | cons s a ih =>
            show zA s.e + exit.length + zY exit.length (a ++ b) = zA s.e + exit.length + zY exit.length a + zY exit.length b
            omega
        rw [← this, List.take_append_drop]
      omega
    simp only [List.length_nil, Nat.zero_add] at b1 b2
    rw [List.length_take] at b2
    generalize (l.take k).foldl (eqnS exit) ([], []) = p at hst b1 b2 ⊢
    obtain ⟨a, d⟩ := p
    simp only at b1 b2
    have hue := zpr (exit := exit) (s := l[k])
    have hus := zd8 l[k] (by omega)
    have hul := zhN l[k]
    have hun := zhM (zc6 l[k]) exit (by omega)
    have hlv : zfO l[k] = decide (l[k].op = 9 ∨ l[k].op = 10 ∨ l[k].op = 5) := rfl
    have hl1 := fun (Q : QT) => eq_l1 (Q := Q) exit ad bl li lo i want k l[k] (zma exit l[k]) a d (by omega) (by omega)
    have e1 : eqnS exit (a, d) l[k] = ((zma exit l[k]).foldl (insN d) a, zah d (zfP l[k])) := rfl
    rw [e1] at hst
    generalize zah d (zfP l[k]) = d2 at hst hl1
    have hnext : ∀ {K H nx}, Ent 0 K H nx [(1, za exit), (2, encP 2 [.int .u32 ad, encL 2 Bl.cells bl]), (5, zN li), (6, zN lo), (7, .int .i64 i), (8, za want), (9, za ((zma exit l[k]).foldl (insN d) a)), (10, za d2), (13, .int .i64 ((k + 1 : Nat) : Int))] [] 0 →
        ∃ k', k' ≤ l.length ∧ l.length - k' < l.length - k ∧ Ent 0 K H nx [(1, za exit), (2, encP 2 [.int .u32 ad, encL 2 Bl.cells bl]), (5, zN li), (6, zN lo), (7, .int .i64 i), (8, za want), (9, za ((l.take k').foldl (eqnS exit) ([], [])).1), (10, za ((l.take k').foldl (eqnS exit) ([], [])).2), (13, .int .i64 k')] [] 0 :=
      fun h => ⟨k + 1, by omega, by omega, by rw [hst]; exact h⟩
    unfold zma at hl1 hnext
    clear hst hue
    generalize hU : zc6 l[k] = us at *
    generalize hS : l[k] = s at *
    obtain ⟨op, var, width, next, els, tgt, e, cs⟩ := s
    simp only at hlv
    simp only [St.cells] at hgm hus hl1
    (repeat first | simp (disch := try exact dis1) only [evD, Nat.reduceBEq, Nat.reduceAdd, Nat.reduceLeDiff, fldP, dT, hg, hgm] | with_reducible intro _ | ((with_reducible apply And.intro); omega))
    refine zh (zn hus rfl) ?_
    (repeat first | simp (disch := try exact dis1) only [evD, Nat.reduceBEq, Nat.reduceAdd, Nat.reduceLeDiff, za] | with_reducible intro _ | ((with_reducible apply And.intro); omega))
    by_cases h9 : op = 9
    · rw [decide_eq_true (.inl h9)] at hlv
      rw [if_pos hlv] at hl1 hnext
      (repeat first | simp (disch := try exact dis1) only [evD, Nat.reduceBEq, Nat.reduceAdd, Nat.reduceLeDiff, dT, za] | with_reducible intro _ | ((with_reducible apply And.intro); omega))
      refine zh (zn hun rfl) ?_
      (repeat first | simp (disch := try exact dis1) only [evD, Nat.reduceBEq, Nat.reduceAdd, Nat.reduceLeDiff] | with_reducible intro _ | ((with_reducible apply And.intro); omega))
      refine hl1 _ (fun _ _ _ he => hnext he) (by omega) ?_
      exact (Ent.tab [(0, 0, 0)] [] rfl (by (try simp only [evWB, Nat.reduceBEq, Nat.reduceAdd, Nat.reduceSub, Nat.reduceLeDiff, Nat.reduceLT, implies_true, za, zN, St.cells]) <;> exact fin2) (by (try simp only [evWB, Nat.reduceBEq, Nat.reduceAdd, Nat.reduceSub, Nat.reduceLeDiff, Nat.reduceLT, implies_true, za, zN, St.cells]) <;> exact fin2))
    by_cases h10 : op = 10
    · rw [decide_eq_true (.inr (.inl h10))] at hlv
      rw [if_pos hlv] at hl1 hnext
      (repeat first | simp (disch := try exact dis1) only [evD, Nat.reduceBEq, Nat.reduceAdd, Nat.reduceLeDiff, dT, dF, za] | with_reducible intro _ | ((with_reducible apply And.intro); omega))
      refine zh (zn hun rfl) ?_
      (repeat first | simp (disch := try exact dis1) only [evD, Nat.reduceBEq, Nat.reduceAdd, Nat.reduceLeDiff] | with_reducible intro _ | ((with_reducible apply And.intro); omega))
      refine hl1 _ (fun _ _ _ he => hnext he) (by omega) ?_
      exact (Ent.tab [(0, 0, 0)] [] rfl (by (try simp only [evWB, Nat.reduceBEq, Nat.reduceAdd, Nat.reduceSub, Nat.reduceLeDiff, Nat.reduceLT, implies_true, za, zN, St.cells]) <;> exact fin2) (by (try simp only [evWB, Nat.reduceBEq, Nat.reduceAdd, Nat.reduceSub, Nat.reduceLeDiff, Nat.reduceLT, implies_true, za, zN, St.cells]) <;> exact fin2))
    by_cases h5 : op = 5
    · rw [decide_eq_true (.inr (.inr h5))] at hlv
      rw [if_pos hlv] at hl1 hnext
      (repeat first | simp (disch := try exact dis1) only [evD, Nat.reduceBEq, Nat.reduceAdd, Nat.reduceLeDiff, dT, dF, za] | with_reducible intro _ | ((with_reducible apply And.intro); omega))
      refine zh (zn hun rfl) ?_
      (repeat first | simp (disch := try exact dis1) only [evD, Nat.reduceBEq, Nat.reduceAdd, Nat.reduceLeDiff] | with_reducible intro _ | ((with_reducible apply And.intro); omega))
      refine hl1 _ (fun _ _ _ he => hnext he) (by omega) ?_
      exact (Ent.tab [(0, 0, 0)] [] rfl (by (try simp only [evWB, Nat.reduceBEq, Nat.reduceAdd, Nat.reduceSub, Nat.reduceLeDiff, Nat.reduceLT, implies_true, za, zN, St.cells]) <;> exact fin2) (by (try simp only [evWB, Nat.reduceBEq, Nat.reduceAdd, Nat.reduceSub, Nat.reduceLeDiff, Nat.reduceLT, implies_true, za, zN, St.cells]) <;> exact fin2))
    · rw [decide_eq_false (by omega)] at hlv
      rw [if_neg (by rw [hlv]; simp)] at hl1 hnext
      (repeat first | simp (disch := try exact dis1) only [evD, Nat.reduceBEq, Nat.reduceAdd, Nat.reduceLeDiff, dF, za] | with_reducible intro _ | ((with_reducible apply And.intro); omega))
      refine hl1 _ (fun _ _ _ he => hnext he) (by omega) ?_
      exact (Ent.tab [(0, 0, 0)] [] rfl (by (try simp only [evWB, Nat.reduceBEq, Nat.reduceAdd, Nat.reduceSub, Nat.reduceLeDiff, Nat.reduceLT, implies_true, za, zN, St.cells]) <;> exact fin2) (by (try simp only [evWB, Nat.reduceBEq, Nat.reduceAdd, Nat.reduceSub, Nat.reduceLeDiff, Nat.reduceLT, implies_true, za, zN, St.cells]) <;> exact fin2))
  · obtain rfl : k = l.length := by omega
    rw [List.take_length]
    (repeat first | simp (disch := try exact dis1) only [evD, Nat.reduceBEq, Nat.reduceAdd, Nat.reduceLeDiff, fldP, dF, hg] | with_reducible intro _ | ((with_reducible apply And.intro); omega))
    exact hfin
theorem eq_l5 (want u : List Int) (d : List Int) (o inn : List Int) (k0 : AV) (hlo : i < lo.length) (hlo2 : lo[i] = o) (hli : i < li.length) (hli2 : li[i] = inn) (ho : u.length + o.length ≤ 500000)
    (h1 : o = want) (h2 : inn = o.foldl (insN d) u)
    (hfin : ∀ K H nx, Ent 0 K H nx [(1, za exit), (2, encP 2 [.int .u32 ad, encL 2 Bl.cells bl]), (5, zN li), (6, zN lo), (7, .int .i64 ((i + 1 : Nat) : Int))] [] 0 → Q .normal K H nx) (hi : i ≤ 1000)
    {K : Kn} {H : AH} {nx : Nat} (hent : Ent 0 K H nx [(1, za exit), (2, encP 2 [.int .u32 ad, encL 2 Bl.cells bl]), (5, zN li), (6, zN lo), (7, .int .i64 i), (8, za want), (9, za u), (10, za d), (17, .int .i64 0)] [] 0) :
    zg2 Tryz.prog 0 za4 (zaX 8 (seqQ Tryz.prog 0 za7 (zaX 1 (seqQ Tryz.prog 0 zbb Q)))) K H nx := by
  have hB := hBig
  have hgo : (lo.map cLL).getD i [] = [za o] := by rw [← hlo2]; exact zu (f := cLL) (d := []) hlo
  have hgi : (li.map cLL).getD i [] = [za inn] := by rw [← hli2]; exact zu (f := cLL) (d := []) hli
  refine zl (fun m : Nat => ([(1, za exit), (2, encP 2 [.int .u32 ad, encL 2 Bl.cells bl]), (5, zN li), (6, zN lo), (7, .int .i64 i), (8, za want), (9, za ((o.take m).foldl (insN d) u)), (10, za d), (17, .int .i64 m)], [])) 0
    (fun m => m ≤ o.length) (fun m => o.length - m) 0 (Nat.zero_le _) hent ?_
  rintro m hm wf
  unfold za4
  by_cases hml : m < o.length
  · have hgl := zu (f := cI) (d := []) hml
    have hst : (o.take (m + 1)).foldl (insN d) u = insN d ((o.take m).foldl (insN d) u) o[m] := zb1 hml
    have hln := zkQ (d := d) (l := o.take m) (a := u)
    rw [List.length_take] at hln
    generalize (o.take m).foldl (insN d) u = b at hst hln ⊢
    have hhas := zmI d o[m]
    have hins := zgk b o[m] (by omega)
    by_cases hmem : o[m] ∈ d
    · have e1 : insN d b o[m] = b := if_pos hmem
      rw [e1] at hst
      rw [decide_eq_true hmem] at hhas
      (repeat first | simp (disch := try exact dis1) only [evD, Nat.reduceBEq, Nat.reduceAdd, Nat.reduceLeDiff, dT, hgo, hgl, za, zN] | with_reducible intro _ | ((with_reducible apply And.intro); omega))
      refine zh (zn hhas rfl) ?_
      (repeat first | simp (disch := try exact dis1) only [evD, Nat.reduceBEq, Nat.reduceAdd, Nat.reduceLeDiff] | with_reducible intro _ | ((with_reducible apply And.intro); omega))
      exact ⟨m + 1, by omega, by omega, (Ent.tab [] [] rfl (by (try simp only [evWB, Nat.reduceBEq, Nat.reduceAdd, Nat.reduceSub, Nat.reduceLeDiff, Nat.reduceLT, implies_true, za, zN, hst]) <;> exact fin2) (by (try simp only [evWB, Nat.reduceBEq, Nat.reduceAdd, Nat.reduceSub, Nat.reduceLeDiff, Nat.reduceLT, implies_true, za, zN, hst]) <;> exact fin2))⟩
    · have e1 : insN d b o[m] = insU o[m] b := if_neg hmem
      rw [e1] at hst
      rw [decide_eq_false hmem] at hhas
      (repeat first | simp (disch := try exact dis1) only [evD, Nat.reduceBEq, Nat.reduceAdd, Nat.reduceLeDiff, dT, hgo, hgl, za, zN] | with_reducible intro _ | ((with_reducible apply And.intro); omega))
      refine zh (zn hhas rfl) ?_
      (repeat first | simp (disch := try exact dis1) only [evD, Nat.reduceBEq, Nat.reduceAdd, Nat.reduceLeDiff, dT, hgo, hgl, za, zN] | with_reducible intro _ | ((with_reducible apply And.intro); omega))
      refine zh (zn hins rfl) ?_
      (repeat first | simp (disch := try exact dis1) only [evD, Nat.reduceBEq, Nat.reduceAdd, Nat.reduceLeDiff] | with_reducible intro _ | ((with_reducible apply And.intro); omega))
      exact ⟨m + 1, by omega, by omega, (Ent.tab [] [] rfl (by (try simp only [evWB, Nat.reduceBEq, Nat.reduceAdd, Nat.reduceSub, Nat.reduceLeDiff, Nat.reduceLT, implies_true, za, zN, hst]) <;> exact fin2) (by (try simp only [evWB, Nat.reduceBEq, Nat.reduceAdd, Nat.reduceSub, Nat.reduceLeDiff, Nat.reduceLT, implies_true, za, zN, hst]) <;> exact fin2))⟩
  · obtain rfl : m = o.length := by omega
    rw [List.take_length]
    have hs1 := zhz o want
    have hs2 := zhz inn (o.foldl (insN d) u)
    rw [decide_eq_true h1] at hs1
    rw [decide_eq_true h2] at hs2
    (repeat first | simp (disch := try exact dis1) only [evD, Nat.reduceBEq, Nat.reduceAdd, Nat.reduceLeDiff, dF, hgo, za, zN] | with_reducible intro _ | ((with_reducible apply And.intro); omega))
    unfold za7
    (repeat first | simp (disch := try exact dis1) only [evD, Nat.reduceBEq, Nat.reduceAdd, Nat.reduceLeDiff, dT, hgo, hgi, za, zN] | with_reducible intro _ | ((with_reducible apply And.intro); omega))
    refine zh (zn hs1 rfl) ?_
    (repeat first | simp (disch := try exact dis1) only [evD, Nat.reduceBEq, Nat.reduceAdd, Nat.reduceLeDiff, dT, hgo, hgi, za, zN] | with_reducible intro _ | ((with_reducible apply And.intro); omega))
    refine zh (zn hs2 rfl) ?_
    (repeat first | simp (disch := try exact dis1) only [evD, Nat.reduceBEq, Nat.reduceAdd, Nat.reduceLeDiff] | with_reducible intro _ | ((with_reducible apply And.intro); omega))
    unfold zbb
    (repeat first | simp (disch := try exact dis1) only [evD, Nat.reduceBEq, Nat.reduceAdd, Nat.reduceLeDiff] | with_reducible intro _ | ((with_reducible apply And.intro); omega))
    refine hfin _ _ _ ?_
    exact (Ent.tab [] [] rfl (by (try simp only [evWB, Nat.reduceBEq, Nat.reduceAdd, Nat.reduceSub, Nat.reduceLeDiff, Nat.reduceLT, implies_true, za, zN]) <;> exact fin2) (by (try simp only [evWB, Nat.reduceBEq, Nat.reduceAdd, Nat.reduceSub, Nat.reduceLeDiff, Nat.reduceLT, implies_true, za, zN]) <;> exact fin2))
theorem eq_l0 (ts : List Int) (htl : ts.length ≤ 1000) (hts : ∀ t ∈ ts, 0 ≤ t ∧ t < li.length) (hroom : ∀ l ∈ li, l.length ≤ 60000) (want : List Int) (hw : ts.foldl (fun a t => zah a (li.getD t.toNat [])) [] = want) (hwl : ∀ m, m ≤ ts.length → ((ts.take m).foldl (fun a t => zah a (li.getD t.toNat [])) []).length ≤ 60000)
    (hfin : wpX Tryz.prog 0 zap Q [(1, za exit), (2, encP 2 [.int .u32 ad, encL 2 Bl.cells bl]), (5, zN li), (6, zN lo), (7, .int .i64 i), (8, za want), (9, za []), (10, za []), (11, za ts), (12, .int .i64 ts.length), (64, .bool false)] [] 0)
    {K : Kn} {H : AH} {nx : Nat} (hent : Ent 0 K H nx [(1, za exit), (2, encP 2 [.int .u32 ad, encL 2 Bl.cells bl]), (5, zN li), (6, zN lo), (7, .int .i64 i), (8, za []), (9, za []), (10, za []), (11, za ts), (12, .int .i64 0)] [] 0) :
    zg2 Tryz.prog 0 za5 (zaX 2 (seqQ Tryz.prog 0 zap Q)) K H nx := by
  have hB := hBig
  refine zl (fun m : Nat => ([(1, za exit), (2, encP 2 [.int .u32 ad, encL 2 Bl.cells bl]), (5, zN li), (6, zN lo), (7, .int .i64 i), (8, za ((ts.take m).foldl (fun a t => zah a (li.getD t.toNat [])) [])), (9, za []), (10, za []), (11, za ts), (12, .int .i64 m)], [])) 0
    (fun m => m ≤ ts.length) (fun m => ts.length - m) 0 (Nat.zero_le _) hent ?_
  rintro m hm wf
  unfold za5
  by_cases hml : m < ts.length
  · have hgl := zu (f := cI) (d := []) hml
    have hst : (ts.take (m + 1)).foldl (fun a t => zah a (li.getD t.toNat [])) [] = (fun a t => zah a (li.getD t.toNat [])) ((ts.take m).foldl (fun a t => zah a (li.getD t.toNat [])) []) ts[m] := zb1 (f := fun a t => zah a (li.getD t.toNat [])) hml
    have hln := hwl m hm
    obtain ⟨t1, t2⟩ := hts _ (List.getElem_mem hml)
    generalize (ts.take m).foldl (fun a t => zah a (li.getD t.toNat [])) [] = b at hst hln ⊢
    generalize ts[m] = t at hgl hst t1 t2
    have htn : t.toNat < li.length := by omega
    have hgi : (li.map cLL).getD t.toNat [] = [za li[t.toNat]] := zu (f := cLL) (d := []) htn
    have hrm := hroom _ (List.getElem_mem htn)
    have hun := zhM b li[t.toNat] (by omega)
    have egd : li.getD t.toNat [] = li[t.toNat] := by rw [List.getD_eq_getElem?_getD, List.getElem?_eq_getElem htn]; rfl
    simp only [egd] at hst
    (repeat first | simp (disch := try exact dis1) only [evD, Nat.reduceBEq, Nat.reduceAdd, Nat.reduceLeDiff, dT, hgl, hgi, za, zN] | with_reducible intro _ | ((with_reducible apply And.intro); omega))
    refine zh (zn hun rfl) ?_
    (repeat first | simp (disch := try exact dis1) only [evD, Nat.reduceBEq, Nat.reduceAdd, Nat.reduceLeDiff] | with_reducible intro _ | ((with_reducible apply And.intro); omega))
    exact ⟨m + 1, by omega, by omega, (Ent.tab [] [] rfl (by (try simp only [evWB, Nat.reduceBEq, Nat.reduceAdd, Nat.reduceSub, Nat.reduceLeDiff, Nat.reduceLT, implies_true, za, zN, hst]) <;> exact fin2) (by (try simp only [evWB, Nat.reduceBEq, Nat.reduceAdd, Nat.reduceSub, Nat.reduceLeDiff, Nat.reduceLT, implies_true, za, zN, hst]) <;> exact fin2))⟩
  · obtain rfl : m = ts.length := by omega
    rw [List.take_length, hw]
    (repeat first | simp (disch := try exact dis1) only [evD, Nat.reduceBEq, Nat.reduceAdd, Nat.reduceLeDiff, dF, za, zN] | with_reducible intro _ | ((with_reducible apply And.intro); omega))
    exact hfin
end
theorem L25_LivenessEquations_ok (g : G) (exit : List Int) : zB Tryz.prog zdf [.agg g.cells, za exit] (· = .bool true) := by
  refine fn_x zf8 rfl ?_
  unfold zcX
  have hB := hBig
  have hsm := zoP g exit
  have hex := zir
  cases hs : zpP g exit with
  | false =>
    rw [hs] at hsm
    obtain ⟨ad, bl⟩ := g
    simp only [G.cells] at hsm ⊢
    (repeat first | simp (disch := try exact dis1) only [evD, Nat.reduceBEq, Nat.reduceAdd, Nat.reduceLeDiff, fldP, zkD, tab, List.getD_cons_zero, List.getD_cons_succ] | with_reducible intro _ | ((with_reducible apply And.intro); omega))
    refine zh (zn hsm rfl) ?_
    (repeat first | simp (disch := try exact dis1) only [evD, Nat.reduceBEq, Nat.reduceAdd, Nat.reduceLeDiff] | with_reducible intro _ | ((with_reducible apply And.intro); omega))
    refine zh (zn hex rfl) ?_
    (repeat first | simp (disch := try exact dis1) only [evD, Nat.reduceBEq, Nat.reduceAdd, Nat.reduceLeDiff, zaQ] | with_reducible intro _ | ((with_reducible apply And.intro); omega))
    exact ⟨_, .bool _ _, rfl⟩
  | true =>
    rw [hs] at hsm
    obtain ⟨hp, hel⟩ := zlR hs
    have hcg := zjR g hp.few
    by_cases hc : zhx g = 0
    case neg =>
      obtain ⟨ad, bl⟩ := g
      simp only [G.cells] at hsm hcg ⊢
      (repeat first | simp (disch := try exact dis1) only [evD, Nat.reduceBEq, Nat.reduceAdd, Nat.reduceLeDiff, fldP, zkD, tab, List.getD_cons_zero, List.getD_cons_succ] | with_reducible intro _ | ((with_reducible apply And.intro); omega))
      refine zh (zn hsm rfl) ?_
      (repeat first | simp (disch := try exact dis1) only [evD, Nat.reduceBEq, Nat.reduceAdd, Nat.reduceLeDiff, fldP, zkD, tab, List.getD_cons_zero, List.getD_cons_succ] | with_reducible intro _ | ((with_reducible apply And.intro); omega))
      refine zh (zn hcg rfl) ?_
      (repeat first | simp (disch := try exact dis1) only [evD, Nat.reduceBEq, Nat.reduceAdd, Nat.reduceLeDiff, dT] | with_reducible intro _ | ((with_reducible apply And.intro); omega))
      refine zh (zn hex rfl) ?_
      (repeat first | simp (disch := try exact dis1) only [evD, Nat.reduceBEq, Nat.reduceAdd, Nat.reduceLeDiff, zaQ] | with_reducible intro _ | ((with_reducible apply And.intro); omega))
      exact ⟨_, .bool _ _, rfl⟩
    have hok := zyl.1 hc
    rw [hc] at hcg
    have hgood := hp.good (exit := exit) (by omega)
    have hl1 := zgX g exit _ hgood.univ
    have hlen := zth (exit := exit) (g := g.blocks)
    have hlen2 : (zog exit g.blocks).length = g.blocks.length := by simp [zog]
    have huni : (univ exit g.blocks).length ≤ 20040 := by have := zlx (exit := exit) (bl := g.blocks); have := hp.size; omega
    have hlil : ∀ l ∈ zbx exit g.blocks, l.length ≤ 60000 := fun l hl => by
      obtain ⟨j, hj, rfl⟩ := List.mem_iff_getElem.1 hl
      have e : (zbx exit g.blocks).getD j [] = (zbx exit g.blocks)[j] := by rw [List.getD_eq_getElem?_getD, List.getElem?_eq_getElem hj]; rfl
      have := zq3 (U := univ exit g.blocks) ((zc4 exit g.blocks).1.asc j) ((zc4 exit g.blocks).1.uni j)
      rw [e] at this
      omega
    have hblk : ∀ i (hi : i < g.blocks.length), (zbx exit g.blocks).getD i [] = eqnB exit g.blocks[i].stmts (zaj exit g.blocks i) ∧ zyN (zbx exit g.blocks) g.blocks[i].stmts = zaj exit g.blocks i ∧ (zaj exit g.blocks i).length ≤ 60000 ∧ zY exit.length g.blocks[i].stmts ≤ 60000 ∧
        (∀ t ∈ zz g.blocks[i].stmts, 0 ≤ t ∧ t < (zbx exit g.blocks).length) ∧ (zz g.blocks[i].stmts).length ≤ 1000 ∧ g.blocks[i].stmts.length ≤ 12 ∧
        ∀ m, (((zz g.blocks[i].stmts).take m).foldl (fun a t => zah a ((zbx exit g.blocks).getD t.toNat [])) []).length ≤ 60000 := fun i hi => by
      have hm := List.getElem_mem hi
      obtain ⟨c1, c2, c3⟩ := hok.closed _ hm
      have c3' : ∀ t ∈ zz g.blocks[i].stmts, 0 ≤ t ∧ t < (zbx exit g.blocks).length := by rw [hlen]; exact c3
      have hao : Asc (zaj exit g.blocks i) := znu
      refine ⟨?_, ?_, ?_, ?_, c3', ?_, hp.stmts _ hm, fun m => ?_⟩
      · rw [zs4 hi, zsO c1, zsA hao]
      · rw [zvZ c3', ziG hi]
      · have := zq3 (U := univ exit g.blocks) hao (by rw [ziG hi]; exact zvd (zc4 exit g.blocks).1)
        omega
      · have h1 := zqf (k := exit.length) (l := g.blocks[i].stmts)
        have h2 := zjk hm
        have h3 := hp.stmts _ hm
        have h4 := hp.size
        have h5 : exit.length * g.blocks[i].stmts.length ≤ 20 * 12 := Nat.mul_le_mul hel h3
        omega
      · have := zhD (l := g.blocks[i].stmts) (n := 100) fun s hs => (hp.parts _ hm s hs).2
        omega
      · have hsub : ∀ (ts : List Int) (a : List Int), Asc a → (∀ x ∈ a, x ∈ univ exit g.blocks) → Asc (ts.foldl (fun a t => zah a ((zbx exit g.blocks).getD t.toNat [])) a) ∧ ∀ x ∈ ts.foldl (fun a t => zah a ((zbx exit g.blocks).getD t.toNat [])) a, x ∈ univ exit g.blocks := by
          intro ts
          induction ts with
          | nil => intro a h1 h2; exact ⟨h1, h2⟩
          | cons t ts ih =>
            intro a h1 h2
            refine ih _ (zc0 h1) fun x hx => ?_
            rcases zbN.1 hx with h3 | h3
            · exact h2 x h3
            · exact (zc4 exit g.blocks).1.uni _ x h3
        obtain ⟨a1, a2⟩ := hsub ((zz g.blocks[i].stmts).take m) [] (by simp [Asc]) (fun x hx => by cases hx)
        have := zq3 (U := univ exit g.blocks) a1 a2
        omega
    have hbl12 := hp.blocks
    have hcases : ∀ b ∈ g.blocks, ∀ s ∈ b.stmts, s.cases.length ≤ 100000000 := fun b hb s hs => by have := (hp.parts b hb s hs).2; omega
    have hout : ∀ i (hi : i < (zog exit g.blocks).length), (zog exit g.blocks)[i] = zaj exit g.blocks i := fun i hi => by simp [zog]
    obtain ⟨ad, bl⟩ := g
    simp only [G.cells] at hsm hcg hl1 hlen hlen2 hlil hblk hbl12 hcases hout ⊢
    generalize zbx exit bl = li at *
    generalize zog exit bl = lo at *
    (repeat first | simp (disch := try exact dis1) only [evD, Nat.reduceBEq, Nat.reduceAdd, Nat.reduceLeDiff, fldP, zkD, tab, List.getD_cons_zero, List.getD_cons_succ] | with_reducible intro _ | ((with_reducible apply And.intro); omega))
    refine zh (zn hsm rfl) ?_
    (repeat first | simp (disch := try exact dis1) only [evD, Nat.reduceBEq, Nat.reduceAdd, Nat.reduceLeDiff, fldP, zkD, tab, List.getD_cons_zero, List.getD_cons_succ] | with_reducible intro _ | ((with_reducible apply And.intro); omega))
    refine zh (zn hcg rfl) ?_
    (repeat first | simp (disch := try exact dis1) only [evD, Nat.reduceBEq, Nat.reduceAdd, Nat.reduceLeDiff, dF, fldP, zkD, tab, List.getD_cons_zero, List.getD_cons_succ] | with_reducible intro _ | ((with_reducible apply And.intro); omega))
    refine zh (zn hl1 rfl) ?_
    (repeat first | simp (disch := try exact dis1) only [evD, Nat.reduceBEq, Nat.reduceAdd, Nat.reduceLeDiff, dF, fldP, zN, hlen, hlen2] | with_reducible intro _ | ((with_reducible apply And.intro); omega))
    refine zl (fun i : Nat => ([(1, za exit), (2, encP 2 [.int .u32 ad, encL 2 Bl.cells bl]), (5, zN li), (6, zN lo), (7, .int .i64 i)], [])) 0 (fun i => i ≤ bl.length) (fun i => bl.length - i) 0 (Nat.zero_le _) (Ent.tab [] [] rfl (by (try simp only [evWB, Nat.reduceBEq, Nat.reduceAdd, Nat.reduceSub, Nat.reduceLeDiff, Nat.reduceLT, implies_true, za, zN]) <;> exact fin2) (by (try simp only [evWB, Nat.reduceBEq, Nat.reduceAdd, Nat.reduceSub, Nat.reduceLeDiff, Nat.reduceLT, implies_true, za, zN]) <;> exact fin2)) ?_
    rintro i hi wf
    unfold zbS
    by_cases hil : i < bl.length
    case neg =>
      (repeat first | simp (disch := try exact dis1) only [evD, Nat.reduceBEq, Nat.reduceAdd, Nat.reduceLeDiff, fldP, dF] | with_reducible intro _ | ((with_reducible apply And.intro); omega))
      unfold zbQ
      (repeat first | simp (disch := try exact dis1) only [evD, Nat.reduceBEq, Nat.reduceAdd, Nat.reduceLeDiff] | with_reducible intro _ | ((with_reducible apply And.intro); omega))
      refine zh (zn hex rfl) ?_
      (repeat first | simp (disch := try exact dis1) only [evD, Nat.reduceBEq, Nat.reduceAdd, Nat.reduceLeDiff, zaQ] | with_reducible intro _ | ((with_reducible apply And.intro); omega))
      exact ⟨_, .bool _ _, rfl⟩
    have hm := List.getElem_mem hil
    have hgl := zu (f := Bl.cells) (d := []) hil
    have hcell : bl[i].cells.length = 2 := rfl
    have htwo := Bl.two bl[i]
    have hsc := zjZ bl[i]
    obtain ⟨b1, b2, b3, b4, b5, b6, b7, b8⟩ := hblk i hil
    (repeat first | simp (disch := try exact dis1) only [evD, Nat.reduceBEq, Nat.reduceAdd, Nat.reduceLeDiff, fldP, dT, hgl, hcell, htwo, za, zN] | with_reducible intro _ | ((with_reducible apply And.intro); omega))
    refine zh (zn hsc rfl) ?_
    (repeat first | simp (disch := try exact dis1) only [evD, Nat.reduceBEq, Nat.reduceAdd, Nat.reduceLeDiff] | with_reducible intro _ | ((with_reducible apply And.intro); omega))
    refine eq_l0 exit ad bl li lo i (zz bl[i].stmts) b6 b5 hlil _ b2 (fun m _ => b8 m) ?_ ?_
    · unfold zap
      (repeat first | simp (disch := try exact dis1) only [evD, Nat.reduceBEq, Nat.reduceAdd, Nat.reduceLeDiff, fldP] | with_reducible intro _ | ((with_reducible apply And.intro); omega))
      refine eq_l4 exit ad bl li lo i (zaj exit bl i) hil (by omega) (by omega) (by omega) ?_ ?_
      · unfold zao
        (repeat first | simp (disch := try exact dis1) only [evD, Nat.reduceBEq, Nat.reduceAdd, Nat.reduceLeDiff, fldP] | with_reducible intro _ | ((with_reducible apply And.intro); omega))
        have hlo : i < lo.length := by omega
        have hli : i < li.length := by omega
        have egd : li.getD i [] = li[i] := by rw [List.getD_eq_getElem?_getD, List.getElem?_eq_getElem hli]; rfl
        obtain ⟨q1, q2⟩ := znX (exit := exit) (l := bl[i].stmts) (p := ([], []))
        simp only [List.length_nil, Nat.zero_add] at q1
        refine eq_l5 exit ad bl li lo i (zaj exit bl i) (bl[i].stmts.foldl (eqnS exit) ([], [])).1 (bl[i].stmts.foldl (eqnS exit) ([], [])).2 (zaj exit bl i) li[i] (.bool false) hlo (hout i hlo) hli rfl (by omega) rfl (by rw [← egd, b1]; rfl) ?_ (by omega) ?_
        · intro K2 H2 nx2 he
          exact ⟨i + 1, by omega, by show bl.length - (i + 1) < bl.length - i; omega, he⟩
        · exact (Ent.tab [] [] rfl (by (try simp only [evWB, Nat.reduceBEq, Nat.reduceAdd, Nat.reduceSub, Nat.reduceLeDiff, Nat.reduceLT, implies_true, za, zN]) <;> exact fin2) (by (try simp only [evWB, Nat.reduceBEq, Nat.reduceAdd, Nat.reduceSub, Nat.reduceLeDiff, Nat.reduceLT, implies_true, za, zN]) <;> exact fin2))
      · exact (Ent.tab [] [] rfl (by (try simp only [evWB, Nat.reduceBEq, Nat.reduceAdd, Nat.reduceSub, Nat.reduceLeDiff, Nat.reduceLT, implies_true, za, zN]) <;> exact fin2) (by (try simp only [evWB, Nat.reduceBEq, Nat.reduceAdd, Nat.reduceSub, Nat.reduceLeDiff, Nat.reduceLT, implies_true, za, zN]) <;> exact fin2))
    · have hv : ∀ {H HH : AH} {σ : Nat → Nat → Option (Nat × Nat × Nat)} (r : Nat), H.get r 0 = some (.row 1 [] 0) → inD [0, 1, 2] r 0 → Vw H HH σ (inD [0, 1, 2]) true (.own r 0 0 0 0) (za []) := fun r h hD => zaT (l := []) hD h (by simp [big])
      exact Ent.tab [] [0, 1, 2] rfl trivial ⟨zW rfl, zW rfl, zW rfl, zW rfl, .int _ _ _, hv 0 rfl rfl, hv 1 rfl rfl, hv 2 rfl rfl, zW rfl, .int _ _ _, trivial⟩
end Go.Ab
