/-
  Part 18 of the proof: how the calls of this program run, over values instead of memory, and what each function computes.
-/
import Derived.KernelRfl
import Derived.Test.YtmlhipilbnjhiaaGreatKq
set_option maxRecDepth 100000
set_option linter.unusedVariables false
set_option linter.unusedSimpArgs false
set_option linter.unnecessarySimpa false
set_option linter.unusedSectionVars false

namespace Go.Ab
open Go.RowKit Go.Proofs
theorem zlN : ∀ (l : List St) (h : l.length - 1 < l.length), zgf l = (zkg (l[l.length - 1]'h) && !((l.take (l.length - 1)).any zkg))
  | [], h => by simp at h
  | [x], h => by
    rw [zgf, zgf]
    simp
  | x :: y :: l, h => by
    have ih := zlN (y :: l) (by simp)
    rw [zgf, ih]
    simp only [List.length_cons, Nat.add_sub_cancel, List.isEmpty_cons, List.take_succ_cons, List.any_cons]
    have e : (x :: y :: l)[l.length + 1] = (y :: l)[l.length] := rfl
    rw [e]
    cases zkg x <;> cases zkg (y :: l)[l.length] <;> simp
theorem zy1 {α : Type} {f : α → List AV} {H H2 : AH} {σ : Nat → Nat → Option (Nat × Nat × Nat)} {D : Nat → Nat → Prop} {t : Bool} {l : List α} {sz i n z : Nat} (hi : i ≤ l.length) (hn : n = i) (hz : z = 0) (hf : ∀ a, zG (f a) = true) :
    Vw H H2 σ D t (.sl sz n (fun a j => ((l.map f).getD (z + a) []).getD j .undef)) (encL sz f (l.take i)) := by
  subst hn hz
  have e : (l.take n).length = n := by rw [List.length_take]; omega
  unfold encL
  rw [e]
  refine .slf _ _ _ _ _ (fun a j ha hj => ?_)
  have e2 : (List.map f (List.take n l)).getD a [] = (l.map f).getD (0 + a) [] := by
    rw [Nat.zero_add, List.map_take, List.getD_eq_getElem?_getD, List.getElem?_take_of_lt ha, List.getD_eq_getElem?_getD]
  rw [e2, zo (show 0 + a < l.length by omega), List.getD_eq_getElem?_getD]
  cases hx : (f l[0 + a])[j]? with
  | none => exact .undef _ _
  | some x => exact zcy (zbg (hf _) hx)
theorem zoe (l : List St) : PredT (.fn (.func zbI) []) l zkg := ⟨_, _, rfl, by kernel_rfl, rfl, fun s _ => zhU s⟩
theorem znS (t ad : Int) (l : List Bl) : zk Tryz.prog zdq [.int .i64 t, encP 2 [.int .u32 ad, encL 2 Bl.cells l]] (· = .bool (!inN l.length t)) := by
  refine fn_x znG rfl ?_
  unfold zju inN
  have hB := hBig
  by_cases h0 : 0 ≤ t
  · by_cases h1 : t < l.length
    · rw [decide_eq_true ⟨h0, h1⟩]
      (repeat first | simp (disch := try exact dis1) only [evD, Nat.reduceBEq, Nat.reduceAdd, Nat.reduceLeDiff, fldP, dT, dF, zef] | with_reducible intro _ | ((with_reducible apply And.intro); omega))
      exact ⟨_, .bool _ _, rfl⟩
    · rw [decide_eq_false (fun h => h1 h.2)]
      (repeat first | simp (disch := try exact dis1) only [evD, Nat.reduceBEq, Nat.reduceAdd, Nat.reduceLeDiff, fldP, dT, dF, zef] | with_reducible intro _ | ((with_reducible apply And.intro); omega))
      exact ⟨_, .bool _ _, rfl⟩
  · rw [decide_eq_false (fun h => h0 h.1)]
    (repeat first | simp (disch := try exact dis1) only [evD, Nat.reduceBEq, Nat.reduceAdd, Nat.reduceLeDiff, fldP, dT, dF, zef] | with_reducible intro _ | ((with_reducible apply And.intro); omega))
    exact ⟨_, .bool _ _, rfl⟩
theorem zlX (ad : Int) (l : List Bl) (m : List Int) : PredI (.fn (.func zdq) [encP 2 [.int .u32 ad, encL 2 Bl.cells l]]) m (fun t => !inN l.length t) := ⟨_, _, rfl, by kernel_rfl, rfl, fun s _ => znS s ad l⟩
theorem zpM (g : G) (hf : fewB g) (hc : ∀ b ∈ g.blocks, ∀ s ∈ b.stmts, s.cases.length ≤ 100000000) : zk Tryz.prog zhb [.agg g.cells] (· = .bool (!g.blocks.isEmpty && g.blocks.all fun b => zdm b.stmts g.blocks.length)) := by
  refine fn_x zqf rfl ?_
  unfold zlo
  have hB := hBig
  obtain ⟨hb, hs⟩ := hf
  obtain ⟨ad, l⟩ := g
  simp only at hb hs hc
  simp only [G.cells]
  by_cases h0 : l.length = 0
  · obtain rfl : l = [] := List.eq_nil_of_length_eq_zero h0
    (repeat first | simp (disch := try exact dis1) only [evD, Nat.reduceBEq, Nat.reduceAdd, Nat.reduceLeDiff, fldP, dT, List.length_nil, zco] | with_reducible intro _ | ((with_reducible apply And.intro); omega))
    exact ⟨_, .bool _ _, rfl⟩
  have he : l.isEmpty = false := by cases l with | nil => simp at h0 | cons a l => rfl
  rw [he]
  generalize hR : (l.all fun b => zdm b.stmts l.length) = R
  (repeat first | simp (disch := try exact dis1) only [evD, Nat.reduceBEq, Nat.reduceAdd, Nat.reduceLeDiff, fldP, dF] | with_reducible intro _ | ((with_reducible apply And.intro); omega))
  refine zm (fun i : Nat => ([(1, encP 2 [.int .u32 ad, encL 2 Bl.cells l]), (11, encL 2 Bl.cells l), (12, .int .i64 l.length), (13, .int .i64 i)], [])) 0 (fun i => i ≤ l.length ∧ ((l.drop i).all fun b => zdm b.stmts l.length) = R) (fun i => l.length - i) 0 ⟨Nat.zero_le _, hR⟩ (Ent.keep rfl fin5) ?_
  rintro i ⟨hi, hgo⟩ wf
  unfold ziL
  by_cases hl : i < l.length
  · have hg : (l.map Bl.cells).getD i [] = [.int .u32 l[i].addr, encL 8 St.cells l[i].stmts] := zo hl
    have hss := zme l[i] (hc _ (List.getElem_mem hl))
    rw [List.drop_eq_getElem_cons hl, List.all_cons] at hgo
    simp only [Bl.cells] at hss
    generalize l[i].stmts = m at hg hgo hss
    generalize l[i].addr = ad' at hg hss
    by_cases hm0 : m.length = 0
    · obtain rfl : m = [] := List.eq_nil_of_length_eq_zero hm0
      replace hgo : R = false := by rw [← hgo]; rfl
      subst hgo
      (repeat first | simp (disch := try exact dis1) only [evD, Nat.reduceBEq, Nat.reduceAdd, Nat.reduceLeDiff, fldP, dT, hg, List.length_nil, zco] | with_reducible intro _ | ((with_reducible apply And.intro); omega))
      exact ⟨_, .bool _ _, rfl⟩
    have hlast : m.length - 1 < m.length := by omega
    have hidx : (((m.length : Nat) : Int) - 1).toNat = m.length - 1 := by omega
    have hme : m.isEmpty = false := by cases m with | nil => simp at hm0 | cons a l => rfl
    unfold zdm at hgo
    rw [hme, zlN m hlast] at hgo
    (repeat first | simp (disch := try exact dis1) only [evD, Nat.reduceBEq, Nat.reduceAdd, Nat.reduceLeDiff, fldP, dT, dF, hg, hidx, zo hlast, St.len, St.eight] | with_reducible intro _ | ((with_reducible apply And.intro); omega))
    refine ze (zh (zhU m[m.length - 1]) rfl) ?_
    generalize zkg m[m.length - 1] = q at hgo
    cases q with
    | false =>
      replace hgo : R = false := by rw [← hgo]; rfl
      subst hgo
      (repeat first | simp (disch := try exact dis1) only [evD, Nat.reduceBEq, Nat.reduceAdd, Nat.reduceLeDiff, zco] | with_reducible intro _ | ((with_reducible apply And.intro); omega))
      exact ⟨_, .bool _ _, rfl⟩
    | true =>
      (repeat first | simp (disch := try exact dis1) only [evD, Nat.reduceBEq, Nat.reduceAdd, Nat.reduceLeDiff, fldP, zmy, hidx] | with_reducible intro _ | ((with_reducible apply And.intro); omega))
      refine ze (z6 (D := noR) (zhg (m.take (m.length - 1)) _ _ (zoe _)) (.cons (zy1 (by omega) (by omega) rfl (fun _ => rfl)) (.cons (zsT (zoe (m.take (m.length - 1)))) .nil)) (.inl rfl)) ?_
      generalize (m.take (m.length - 1)).any zkg = q at hgo
      cases q with
      | true =>
        replace hgo : R = false := by rw [← hgo]; rfl
        subst hgo
        (repeat first | simp (disch := try exact dis1) only [evD, Nat.reduceBEq, Nat.reduceAdd, Nat.reduceLeDiff, zco] | with_reducible intro _ | ((with_reducible apply And.intro); omega))
        exact ⟨_, .bool _ _, rfl⟩
      | false =>
        (repeat first | simp (disch := try exact dis1) only [evD, Nat.reduceBEq, Nat.reduceAdd, Nat.reduceLeDiff, fldP] | with_reducible intro _ | ((with_reducible apply And.intro); omega))
        refine ze (zh hss rfl) ?_
        (repeat first | simp (disch := try exact dis1) only [evD, Nat.reduceBEq, Nat.reduceAdd, Nat.reduceLeDiff, fldP] | with_reducible intro _ | ((with_reducible apply And.intro); omega))
        refine ze (z6 (D := noR) (zhe (zbm m) _ _ (zlX ad l _)) (.cons (zay rfl) (.cons (zth (zlX ad l (zbm m))) .nil)) (.inl rfl)) ?_
        rw [List.all_eq_not_any_not] at hgo
        generalize ((zbm m).any fun t => !inN l.length t) = q at hgo
        cases q with
        | true =>
          replace hgo : R = false := by rw [← hgo]; rfl
          subst hgo
          (repeat first | simp (disch := try exact dis1) only [evD, Nat.reduceBEq, Nat.reduceAdd, Nat.reduceLeDiff, zco] | with_reducible intro _ | ((with_reducible apply And.intro); omega))
          exact ⟨_, .bool _ _, rfl⟩
        | false =>
          replace hgo : ((l.drop (i + 1)).all fun b => zdm b.stmts l.length) = R := by rw [← hgo]; rfl
          (repeat first | simp (disch := try exact dis1) only [evD, Nat.reduceBEq, Nat.reduceAdd, Nat.reduceLeDiff] | with_reducible intro _ | ((with_reducible apply And.intro); omega))
          exact ⟨i + 1, ⟨by omega, hgo⟩, by omega, (Ent.tab [] [] rfl (by (try simp only [evWB, Nat.reduceBEq, Nat.reduceAdd, Nat.reduceSub, Nat.reduceLeDiff, Nat.reduceLT, implies_true]) <;> exact fin2) (by (try simp only [evWB, Nat.reduceBEq, Nat.reduceAdd, Nat.reduceSub, Nat.reduceLeDiff, Nat.reduceLT, implies_true]) <;> exact fin2))⟩
  · rw [List.drop_of_length_le (by omega)] at hgo
    replace hgo : R = true := by rw [← hgo]; rfl
    subst hgo
    (repeat first | simp (disch := try exact dis1) only [evD, Nat.reduceBEq, Nat.reduceAdd, Nat.reduceLeDiff, fldP, dF] | with_reducible intro _ | ((with_reducible apply And.intro); omega))
    unfold zh4
    (repeat first | simp (disch := try exact dis1) only [evD, Nat.reduceBEq, Nat.reduceAdd, Nat.reduceLeDiff, zco] | with_reducible intro _ | ((with_reducible apply And.intro); omega))
    exact ⟨_, .bool _ _, rfl⟩
theorem zl6 (g : G) (hf : fewB g) (hc : ∀ b ∈ g.blocks, ∀ s ∈ b.stmts, s.cases.length ≤ 100000000) : zk Tryz.prog zbl [.agg g.cells] (· = .int .i64 (zie g)) := by
  refine fn_x zml rfl ?_
  unfold zhV
  have hB := hBig
  have hsh := zpM g hf hc
  obtain ⟨hb, hs⟩ := hf
  obtain ⟨ad, l⟩ := g
  simp only at hb hs hsh
  simp only [G.cells, zie] at hsh ⊢
  (repeat first | simp (disch := try exact dis1) only [evD, Nat.reduceBEq, Nat.reduceAdd, Nat.reduceLeDiff, fldP] | with_reducible intro _ | ((with_reducible apply And.intro); omega))
  refine zm (fun s : Nat × Nat => ([(1, encP 2 [.int .u32 ad, encL 2 Bl.cells l]), (3, .int .i64 s.2), (12, encL 2 Bl.cells l), (13, .int .i64 l.length), (14, .int .i64 s.1)], [])) 0 (fun s => s.1 ≤ l.length ∧ s.2 ≤ 8 * s.1) (fun s => l.length - s.1) (0, 0) ⟨Nat.zero_le _, Nat.le_refl _⟩ (Ent.keep rfl fin5) ?_
  rintro ⟨i, n⟩ ⟨hi, hn⟩ wf
  simp only at hi hn
  unfold zfO
  by_cases hl : i < l.length
  · have hg : (l.map Bl.cells).getD i [] = [.int .u32 l[i].addr, encL 8 St.cells l[i].stmts] := zo hl
    have hsl := hs l[i] (List.getElem_mem hl)
    (repeat first | simp (disch := try exact dis1) only [evD, Nat.reduceBEq, Nat.reduceAdd, Nat.reduceLeDiff, fldP, dT, hg] | with_reducible intro _ | ((with_reducible apply And.intro); omega))
    exact ⟨(i + 1, n + l[i].stmts.length), ⟨by simp only; omega, by simp only; omega⟩, by simp only; omega, (Ent.tab [] [] rfl (by (try simp only [evWB, Nat.reduceBEq, Nat.reduceAdd, Nat.reduceSub, Nat.reduceLeDiff, Nat.reduceLT, implies_true]) <;> exact fin2) (by (try simp only [evWB, Nat.reduceBEq, Nat.reduceAdd, Nat.reduceSub, Nat.reduceLeDiff, Nat.reduceLT, implies_true]) <;> exact fin2))⟩
  (repeat first | simp (disch := try exact dis1) only [evD, Nat.reduceBEq, Nat.reduceAdd, Nat.reduceLeDiff, fldP, dF] | with_reducible intro _ | ((with_reducible apply And.intro); omega))
  unfold zfK
  (repeat first | simp (disch := try exact dis1) only [evD, Nat.reduceBEq, Nat.reduceAdd, Nat.reduceLeDiff, fldP, dF, zfT, tab, List.getD_cons_zero, List.getD_cons_succ] | with_reducible intro _ | ((with_reducible apply And.intro); omega))
  refine ze (zh hsh rfl) ?_
  generalize (!l.isEmpty && l.all fun b => zdm b.stmts l.length) = q
  cases q with
  | false =>
    (repeat first | simp (disch := try exact dis1) only [evD, Nat.reduceBEq, Nat.reduceAdd, Nat.reduceLeDiff, zc3] | with_reducible intro _ | ((with_reducible apply And.intro); omega))
    exact ⟨_, .int _ _ _, rfl⟩
  | true =>
  rw [if_pos rfl]
  (repeat first | simp (disch := try exact dis1) only [evD, Nat.reduceBEq, Nat.reduceAdd, Nat.reduceLeDiff, fldP] | with_reducible intro _ | ((with_reducible apply And.intro); omega))
  refine zm (fun i : Nat => ([(36, encL 2 Bl.cells l), (37, .int .i64 l.length), (38, .int .i64 i)], [])) 0 (fun i => i ≤ l.length ∧ zh6 (l.drop i) = zh6 l) (fun i => l.length - i) 0 ⟨Nat.zero_le _, rfl⟩ (Ent.keep rfl fin5) ?_
  rintro i ⟨hi, hgo⟩ wf
  unfold zfz
  by_cases hl : i < l.length
  · have hg : (l.map Bl.cells).getD i [] = [.int .u32 l[i].addr, encL 8 St.cells l[i].stmts] := zo hl
    have hsl := hs l[i] (List.getElem_mem hl)
    rw [znA hl] at hgo
    (repeat first | simp (disch := try exact dis1) only [evD, Nat.reduceBEq, Nat.reduceAdd, Nat.reduceLeDiff, fldP, dT, hg] | with_reducible intro _ | ((with_reducible apply And.intro); omega))
    generalize l[i].stmts = m at hg hgo hsl
    generalize l[i].addr = ad' at hg
    refine zm (fun j : Nat => ([(36, encL 2 Bl.cells l), (37, .int .i64 l.length), (38, .int .i64 i), (43, encL 8 St.cells m), (44, .int .i64 m.length), (45, .int .i64 j)], [])) 0 (fun j => j ≤ m.length ∧ zf7 (m.drop j) = zf7 m) (fun j => m.length - j) 0 ⟨Nat.zero_le _, rfl⟩ (Ent.tab [] [] rfl (by (try simp only [evWB, Nat.reduceBEq, Nat.reduceAdd, Nat.reduceSub, Nat.reduceLeDiff, Nat.reduceLT, implies_true]) <;> exact fin2) (by (try simp only [evWB, Nat.reduceBEq, Nat.reduceAdd, Nat.reduceSub, Nat.reduceLeDiff, Nat.reduceLT, implies_true]) <;> exact fin2)) ?_
    rintro j ⟨hj, hgo2⟩ wf2
    unfold zfN
    by_cases hm : j < m.length
    · rw [znw hm] at hgo2
      (repeat first | simp (disch := try exact dis1) only [evD, Nat.reduceBEq, Nat.reduceAdd, Nat.reduceLeDiff, fldP, dT, zo hm, St.len, St.eight, St.flat] | with_reducible intro _ | ((with_reducible apply And.intro); omega))
      refine ze (zh (zm5 m[j]) rfl) ?_
      by_cases hx : m[j].check = 0
      · rw [if_neg (by omega)] at hgo2
        (repeat first | simp (disch := try exact dis1) only [evD, Nat.reduceBEq, Nat.reduceAdd, Nat.reduceLeDiff, dF] | with_reducible intro _ | ((with_reducible apply And.intro); omega))
        exact ⟨j + 1, ⟨by omega, hgo2⟩, by omega, (Ent.tab [] [] rfl (by (try simp only [evWB, Nat.reduceBEq, Nat.reduceAdd, Nat.reduceSub, Nat.reduceLeDiff, Nat.reduceLT, implies_true]) <;> exact fin2) (by (try simp only [evWB, Nat.reduceBEq, Nat.reduceAdd, Nat.reduceSub, Nat.reduceLeDiff, Nat.reduceLT, implies_true]) <;> exact fin2))⟩
      · rw [if_pos hx] at hgo2
        rw [← hgo2, if_pos hx] at hgo
        rw [← hgo]
        (repeat first | simp (disch := try exact dis1) only [evD, Nat.reduceBEq, Nat.reduceAdd, Nat.reduceLeDiff, dT, zc3] | with_reducible intro _ | ((with_reducible apply And.intro); omega))
        exact ⟨_, .int _ _ _, rfl⟩
    · rw [List.drop_of_length_le (by omega), zf7] at hgo2
      rw [← hgo2, if_neg (by omega)] at hgo
      (repeat first | simp (disch := try exact dis1) only [evD, Nat.reduceBEq, Nat.reduceAdd, Nat.reduceLeDiff, fldP, dF] | with_reducible intro _ | ((with_reducible apply And.intro); omega))
      unfold zfP
      (repeat first | simp (disch := try exact dis1) only [evD, Nat.reduceBEq, Nat.reduceAdd, Nat.reduceLeDiff] | with_reducible intro _ | ((with_reducible apply And.intro); omega))
      exact ⟨i + 1, ⟨by omega, hgo⟩, by omega, Ent.keep rfl fin5⟩
  rw [List.drop_of_length_le (by omega), zh6] at hgo
  rw [← hgo]
  (repeat first | simp (disch := try exact dis1) only [evD, Nat.reduceBEq, Nat.reduceAdd, Nat.reduceLeDiff, fldP, dF] | with_reducible intro _ | ((with_reducible apply And.intro); omega))
  unfold zfu
  (repeat first | simp (disch := try exact dis1) only [evD, Nat.reduceBEq, Nat.reduceAdd, Nat.reduceLeDiff, zc3] | with_reducible intro _ | ((with_reducible apply And.intro); omega))
  exact ⟨_, .int _ _ _, rfl⟩
def stOk (s : St) : Bool := decide (s.cases.length ≤ 8) && (decide (s.e.length ≤ 3) && zd4 s.e)
def blOk (b : Bl) : Bool := decide (b.stmts.length ≤ 8) && b.stmts.all stOk
def fewG (g : G) : Bool := (g.blocks.take 14).all blOk && decide (g.blocks.length ≤ 12)
theorem zym {l : List Bl} {i : Nat} (h : i < l.length) (h2 : i < 14) : ((l.drop i).take (14 - i)).all blOk = (blOk l[i] && ((l.drop (i + 1)).take (14 - (i + 1))).all blOk) := by
  rw [List.drop_eq_getElem_cons h, show 14 - i = (14 - (i + 1)) + 1 by omega, List.take_succ_cons, List.all_cons]
theorem zuf (g : G) : zk Tryz.prog zkB [.agg g.cells] (· = .bool (fewG g)) := by
  refine fn_x zt2 rfl ?_
  unfold zor
  have hB := hBig
  obtain ⟨ad, l⟩ := g
  simp only [G.cells, fewG]
  generalize hR : (l.take 14).all blOk = R
  (repeat first | simp (disch := try exact dis1) only [evD, Nat.reduceBEq, Nat.reduceAdd, Nat.reduceLeDiff, fldP] | with_reducible intro _ | ((with_reducible apply And.intro); omega))
  refine zm (fun i : Nat => ([(1, encP 2 [.int .u32 ad, encL 2 Bl.cells l]), (3, .int .i64 i)], [])) 0 (fun i => (i ≤ l.length ∧ i ≤ 14) ∧ ((l.drop i).take (14 - i)).all blOk = R) (fun i => l.length - i) 0 ⟨⟨Nat.zero_le _, Nat.zero_le _⟩, hR⟩ (Ent.keep rfl fin5) ?_
  rintro i ⟨⟨hi, hi2⟩, hgo⟩ wf
  unfold zks
  have fin : R = true → wpX Tryz.prog 0 zhf (retK zec fun v H' x => ∃ a, Frz H' v a ∧ a = .bool (R && decide (l.length ≤ 12))) [(1, encP 2 [.int .u32 ad, encL 2 Bl.cells l]), (3, .int .i64 i), (15, .bool false)] [] 0 := by
    intro hr
    subst hr
    unfold zhf
    (repeat first | simp (disch := try exact dis1) only [evD, Nat.reduceBEq, Nat.reduceAdd, Nat.reduceLeDiff, fldP, zec] | with_reducible intro _ | ((with_reducible apply And.intro); omega))
    exact ⟨_, .bool _ _, congrArg AV.bool (decide_eq_decide.2 (by omega))⟩
  by_cases hl : i < l.length
  case neg =>
    rw [List.drop_of_length_le (by omega), List.take_nil] at hgo
    replace hgo : R = true := by rw [← hgo]; rfl
    (repeat first | simp (disch := try exact dis1) only [evD, Nat.reduceBEq, Nat.reduceAdd, Nat.reduceLeDiff, fldP, dF] | with_reducible intro _ | ((with_reducible apply And.intro); omega))
    exact fin hgo
  by_cases hl2 : i < 14
  case neg =>
    rw [show 14 - i = 0 by omega, List.take_zero] at hgo
    replace hgo : R = true := by rw [← hgo]; rfl
    have hd : decide ((i : Int) < 14) = false := decide_eq_false (by omega)
    (repeat first | simp (disch := try exact dis1) only [evD, Nat.reduceBEq, Nat.reduceAdd, Nat.reduceLeDiff, fldP, dT, hd] | with_reducible intro _ | ((with_reducible apply And.intro); omega))
    exact fin hgo
  have hg : (l.map Bl.cells).getD i [] = [.int .u32 l[i].addr, encL 8 St.cells l[i].stmts] := zo hl
  rw [zym hl hl2] at hgo
  unfold blOk at hgo
  by_cases h8 : l[i].stmts.length ≤ 8
  case neg =>
    rw [decide_eq_false h8] at hgo
    replace hgo : R = false := by rw [← hgo]; rfl
    subst hgo
    (repeat first | simp (disch := try exact dis1) only [evD, Nat.reduceBEq, Nat.reduceAdd, Nat.reduceLeDiff, fldP, dT, hg, zec] | with_reducible intro _ | ((with_reducible apply And.intro); omega))
    exact ⟨_, .bool _ _, rfl⟩
  rw [decide_eq_true h8, Bool.true_and] at hgo
  (repeat first | simp (disch := try exact dis1) only [evD, Nat.reduceBEq, Nat.reduceAdd, Nat.reduceLeDiff, fldP, dT, dF, hg] | with_reducible intro _ | ((with_reducible apply And.intro); omega))
  generalize l[i].stmts = m at hg hgo h8
  generalize l[i].addr = ad' at hg
  generalize hM : m.all stOk = M at hgo
  refine zm (fun j : Nat => ([(1, encP 2 [.int .u32 ad, encL 2 Bl.cells l]), (3, .int .i64 i), (4, .int .i64 j)], [])) 0 (fun j => j ≤ m.length ∧ (m.drop j).all stOk = M) (fun j => m.length - j) 0 ⟨Nat.zero_le _, hM⟩ (Ent.keep rfl fin5) ?_
  rintro j ⟨hj, hgo2⟩ wf2
  unfold zkl
  by_cases hm : j < m.length
  case neg =>
    rw [List.drop_of_length_le (by omega)] at hgo2
    replace hgo2 : M = true := by rw [← hgo2]; rfl
    subst hgo2
    (repeat first | simp (disch := try exact dis1) only [evD, Nat.reduceBEq, Nat.reduceAdd, Nat.reduceLeDiff, fldP, dF, hg] | with_reducible intro _ | ((with_reducible apply And.intro); omega))
    unfold zj5
    (repeat first | simp (disch := try exact dis1) only [evD, Nat.reduceBEq, Nat.reduceAdd, Nat.reduceLeDiff] | with_reducible intro _ | ((with_reducible apply And.intro); omega))
    exact ⟨i + 1, ⟨⟨by omega, by omega⟩, by rw [← hgo, Bool.true_and]; rfl⟩, by omega, Ent.keep rfl fin5⟩
  rw [List.drop_eq_getElem_cons hm, List.all_cons] at hgo2
  have hgm := zo (f := St.cells) (d := []) hm
  generalize m[j] = s at hgo2 hgm
  obtain ⟨op, var, width, next, els, tgt, e, cs⟩ := s
  simp only [St.cells] at hgm
  simp only [stOk] at hgo2
  (repeat first | simp (disch := try exact dis1) only [evD, Nat.reduceBEq, Nat.reduceAdd, Nat.reduceLeDiff, fldP, dT, hg, hgm] | with_reducible intro _ | ((with_reducible apply And.intro); omega))
  by_cases hc8 : cs.length ≤ 8
  case neg =>
    rw [decide_eq_false hc8] at hgo2
    replace hgo2 : M = false := by rw [← hgo2]; rfl
    subst hgo2
    replace hgo : R = false := by rw [← hgo]; rfl
    subst hgo
    (repeat first | simp (disch := try exact dis1) only [evD, Nat.reduceBEq, Nat.reduceAdd, Nat.reduceLeDiff, fldP, za, dT, zec] | with_reducible intro _ | ((with_reducible apply And.intro); omega))
    exact ⟨_, .bool _ _, rfl⟩
  rw [decide_eq_true hc8, Bool.true_and] at hgo2
  by_cases he3 : e.length ≤ 3
  case neg =>
    rw [decide_eq_false he3] at hgo2
    replace hgo2 : M = false := by rw [← hgo2]; rfl
    subst hgo2
    replace hgo : R = false := by rw [← hgo]; rfl
    subst hgo
    (repeat first | simp (disch := try exact dis1) only [evD, Nat.reduceBEq, Nat.reduceAdd, Nat.reduceLeDiff, fldP, za, dF, dT, zec] | with_reducible intro _ | ((with_reducible apply And.intro); omega))
    exact ⟨_, .bool _ _, rfl⟩
  rw [decide_eq_true he3, Bool.true_and] at hgo2
  (repeat first | simp (disch := try exact dis1) only [evD, Nat.reduceBEq, Nat.reduceAdd, Nat.reduceLeDiff, fldP, za, dF, dT] | with_reducible intro _ | ((with_reducible apply And.intro); omega))
  generalize hE : zd4 e = E at hgo2
  refine zm (fun k : Nat => ([(1, encP 2 [.int .u32 ad, encL 2 Bl.cells l]), (3, .int .i64 i), (4, .int .i64 j), (5, .ptr 0 0 0 0 0), (6, .int .i64 k)], [(0, .row 8 [[.int .i64 op, .int .i64 var, .int .i64 width, .int .i64 next, .int .i64 els, .int .u32 tgt, encL 5 encX e, za cs]] 0)])) 1 (fun k => k ≤ e.length ∧ zd4 (e.drop k) = E) (fun k => e.length - k) 0 ⟨Nat.zero_le _, hE⟩ (Ent.tab [(0, 0, 0)] [] rfl (by (try simp only [evWB, Nat.reduceBEq, Nat.reduceAdd, Nat.reduceSub, Nat.reduceLeDiff, Nat.reduceLT, implies_true]) <;> exact fin2) (by (try simp only [evWB, Nat.reduceBEq, Nat.reduceAdd, Nat.reduceSub, Nat.reduceLeDiff, Nat.reduceLT, implies_true]) <;> exact fin2)) ?_
  rintro k ⟨hk, hgo3⟩ wf3
  unfold zkO
  by_cases hke : k < e.length
  case neg =>
    rw [List.drop_of_length_le (by omega)] at hgo3
    replace hgo3 : E = true := by rw [← hgo3]; rfl
    subst hgo3
    (repeat first | simp (disch := try exact dis1) only [evD, Nat.reduceBEq, Nat.reduceAdd, Nat.reduceLeDiff, fldP, dF] | with_reducible intro _ | ((with_reducible apply And.intro); omega))
    unfold zj6
    (repeat first | simp (disch := try exact dis1) only [evD, Nat.reduceBEq, Nat.reduceAdd, Nat.reduceLeDiff] | with_reducible intro _ | ((with_reducible apply And.intro); omega))
    exact ⟨j + 1, ⟨by omega, by rw [← hgo2, Bool.true_and]⟩, by omega, (Ent.tab [] [] rfl (by (try simp only [evWB, Nat.reduceBEq, Nat.reduceAdd, Nat.reduceSub, Nat.reduceLeDiff, Nat.reduceLT, implies_true]) <;> exact fin2) (by (try simp only [evWB, Nat.reduceBEq, Nat.reduceAdd, Nat.reduceSub, Nat.reduceLeDiff, Nat.reduceLT, implies_true]) <;> exact fin2))⟩
  rw [zlv hke] at hgo3
  have hnr := zf4 e[k] 70 200 (by omega)
  (repeat first | simp (disch := try exact dis1) only [evD, Nat.reduceBEq, Nat.reduceAdd, Nat.reduceLeDiff, fldP, dT, zo hke, za1, zar] | with_reducible intro _ | ((with_reducible apply And.intro); omega))
  refine ze (zh (zlu (zfV e[k]) e[k] 70 200 (Nat.le_refl _) (by omega) (by omega) (by omega) (by omega)) (flX rfl)) ?_
  by_cases hn : zik e[k] 70 200 < 0
  · rw [if_pos hn] at hgo3
    subst hgo3
    replace hgo2 : M = false := by rw [← hgo2]; rfl
    subst hgo2
    replace hgo : R = false := by rw [← hgo]; rfl
    subst hgo
    (repeat first | simp (disch := try exact dis1) only [evD, Nat.reduceBEq, Nat.reduceAdd, Nat.reduceLeDiff, dT, zec] | with_reducible intro _ | ((with_reducible apply And.intro); omega))
    exact ⟨_, .bool _ _, rfl⟩
  · rw [if_neg hn] at hgo3
    (repeat first | simp (disch := try exact dis1) only [evD, Nat.reduceBEq, Nat.reduceAdd, Nat.reduceLeDiff, dF] | with_reducible intro _ | ((with_reducible apply And.intro); omega))
    exact ⟨k + 1, ⟨by omega, hgo3⟩, by omega, (Ent.tab [(0, 0, 0)] [] rfl (by (try simp only [evWB, Nat.reduceBEq, Nat.reduceAdd, Nat.reduceSub, Nat.reduceLeDiff, Nat.reduceLT, implies_true]) <;> exact fin2) (by (try simp only [evWB, Nat.reduceBEq, Nat.reduceAdd, Nat.reduceSub, Nat.reduceLeDiff, Nat.reduceLT, implies_true]) <;> exact fin2))⟩
mutual
def zgc : Nd → Bool → Bool
  | .mk f _ l, b => if (f.kind = 7 ∨ f.kind = 8) ∧ b = false then true else zbQ l (b || zbr f.kind)
def zbQ : List Nd → Bool → Bool
  | [], _ => false
  | x :: l, b => zgc x b || zbQ l b
end
theorem zna : ∀ (l : List Nd) (b : Bool), zbQ l b = l.any (zgc · b)
  | [], b => by rw [zbQ]; rfl
  | x :: l, b => by rw [zbQ, zna l b]; rfl
theorem flNB {b : Bool} {e : Nd} : ([AV.agg (encN e), .bool b]).all AV.flat = true := flN (r := [.bool b]) rfl
theorem zqY : ∀ (k : Nat) (e : Nd) (b : Bool), za7 e ≤ k → zk Tryz.prog zfh [.agg (encN e), .bool b] (· = .bool (zgc e b)) := by
  intro k
  induction k with
  | zero => intro e b h; obtain ⟨_, _, l⟩ := e; rw [za7] at h; omega
  | succ k ih =>
  intro e b hk
  obtain ⟨⟨kd, bl, lb⟩, c, l⟩ := e
  refine fn_x zqV rfl ?_
  unfold zlp
  have hB := hBig
  rw [za7] at hk
  have hE := zbs ⟨kd, bl, lb⟩ c l
  simp only at hE
  rw [hE, zgc]
  simp only
  have body : ∀ K : Kn, K = [(1, .bool b), (2, encP 5 [.int .i64 kd, .int .i64 bl, .int .i64 lb, encL 5 encX c, encL 5 encN l]), (5, .int .i64 0)] → zsq Tryz.prog 0 zfJ (zgh 0 (seqQ Tryz.prog 0 zfo (retK zbw fun v H' x => ∃ a, Frz H' v a ∧ a = .bool (zbQ l (b || zbr kd))))) K [] 0 := by
    rintro _ rfl
    generalize hR : zbQ l (b || zbr kd) = R
    refine zm (fun i : Nat => ([(1, .bool b), (2, encP 5 [.int .i64 kd, .int .i64 bl, .int .i64 lb, encL 5 encX c, encL 5 encN l]), (5, .int .i64 i)], [])) 0 (fun i => i ≤ l.length ∧ zbQ (l.drop i) (b || zbr kd) = R) (fun i => l.length - i) 0 ⟨Nat.zero_le _, hR⟩ (Ent.keep rfl fin5) ?_
    rintro i ⟨hi, hgo⟩ wf
    unfold zfJ
    by_cases hl : i < l.length
    case neg =>
      rw [List.drop_of_length_le (by omega), zbQ] at hgo
      subst hgo
      (repeat first | simp (disch := try exact dis1) only [evD, Nat.reduceBEq, Nat.reduceAdd, Nat.reduceLeDiff, fldP, dF] | with_reducible intro _ | ((with_reducible apply And.intro); omega))
      unfold zfo
      (repeat first | simp (disch := try exact dis1) only [evD, Nat.reduceBEq, Nat.reduceAdd, Nat.reduceLeDiff, zbw] | with_reducible intro _ | ((with_reducible apply And.intro); omega))
      exact ⟨_, .bool _ _, rfl⟩
    have hm := zdh (List.getElem_mem hl)
    rw [List.drop_eq_getElem_cons hl, zbQ] at hgo
    have hcall := fun b' => ih l[i] b' (by omega)
    have hmk : ∀ q : Bool, (b || zbr kd) = q → (b = false → q = decide (kd = 4 ∨ kd = 5)) := fun q h hb => by rw [← h, hb]; rfl
    cases b with
    | true =>
      rw [Bool.true_or] at hgo
      (repeat first | simp (disch := try exact dis1) only [evD, Nat.reduceBEq, Nat.reduceAdd, Nat.reduceLeDiff, fldP, dT, zo hl, zam, zK] | with_reducible intro _ | ((with_reducible apply And.intro); omega))
      refine zag (zh (hcall true) flNB) ?_
      cases hq : zgc l[i] true with
      | true => rw [hq, Bool.true_or] at hgo; subst hgo; (repeat first | simp (disch := try exact dis1) only [evD, Nat.reduceBEq, Nat.reduceAdd, Nat.reduceLeDiff, zbw] | with_reducible intro _ | ((with_reducible apply And.intro); omega)); exact ⟨_, .bool _ _, rfl⟩
      | false => rw [hq, Bool.false_or] at hgo; (repeat first | simp (disch := try exact dis1) only [evD, Nat.reduceBEq, Nat.reduceAdd, Nat.reduceLeDiff] | with_reducible intro _ | ((with_reducible apply And.intro); omega)); exact ⟨i + 1, ⟨by omega, by rw [Bool.true_or]; exact hgo⟩, by omega, Ent.keep rfl fin5⟩
    | false =>
      by_cases h4 : kd = 4
      · have e4 : zbr kd = true := by unfold zbr; exact decide_eq_true (.inl h4)
        rw [e4, Bool.false_or] at hgo ⊢
        (repeat first | simp (disch := try exact dis1) only [evD, Nat.reduceBEq, Nat.reduceAdd, Nat.reduceLeDiff, fldP, dT, zo hl, zam, zK] | with_reducible intro _ | ((with_reducible apply And.intro); omega))
        refine zag (zh (hcall true) flNB) ?_
        cases hq : zgc l[i] true with
        | true => rw [hq, Bool.true_or] at hgo; subst hgo; (repeat first | simp (disch := try exact dis1) only [evD, Nat.reduceBEq, Nat.reduceAdd, Nat.reduceLeDiff, zbw] | with_reducible intro _ | ((with_reducible apply And.intro); omega)); exact ⟨_, .bool _ _, rfl⟩
        | false => rw [hq, Bool.false_or] at hgo; (repeat first | simp (disch := try exact dis1) only [evD, Nat.reduceBEq, Nat.reduceAdd, Nat.reduceLeDiff] | with_reducible intro _ | ((with_reducible apply And.intro); omega)); exact ⟨i + 1, ⟨by omega, hgo⟩, by omega, Ent.keep rfl fin5⟩
      by_cases h5 : kd = 5
      · have e5 : zbr kd = true := by unfold zbr; exact decide_eq_true (.inr h5)
        rw [e5, Bool.false_or] at hgo ⊢
        (repeat first | simp (disch := try exact dis1) only [evD, Nat.reduceBEq, Nat.reduceAdd, Nat.reduceLeDiff, fldP, dT, dF, zo hl, zam, zK] | with_reducible intro _ | ((with_reducible apply And.intro); omega))
        refine zag (zh (hcall true) flNB) ?_
        cases hq : zgc l[i] true with
        | true => rw [hq, Bool.true_or] at hgo; subst hgo; (repeat first | simp (disch := try exact dis1) only [evD, Nat.reduceBEq, Nat.reduceAdd, Nat.reduceLeDiff, zbw] | with_reducible intro _ | ((with_reducible apply And.intro); omega)); exact ⟨_, .bool _ _, rfl⟩
        | false => rw [hq, Bool.false_or] at hgo; (repeat first | simp (disch := try exact dis1) only [evD, Nat.reduceBEq, Nat.reduceAdd, Nat.reduceLeDiff] | with_reducible intro _ | ((with_reducible apply And.intro); omega)); exact ⟨i + 1, ⟨by omega, hgo⟩, by omega, Ent.keep rfl fin5⟩
      have e0 : zbr kd = false := by unfold zbr; exact decide_eq_false (by omega)
      rw [e0, Bool.false_or] at hgo ⊢
      (repeat first | simp (disch := try exact dis1) only [evD, Nat.reduceBEq, Nat.reduceAdd, Nat.reduceLeDiff, fldP, dT, dF, zo hl, zam, zK] | with_reducible intro _ | ((with_reducible apply And.intro); omega))
      refine zag (zh (hcall false) flNB) ?_
      cases hq : zgc l[i] false with
      | true => rw [hq, Bool.true_or] at hgo; subst hgo; (repeat first | simp (disch := try exact dis1) only [evD, Nat.reduceBEq, Nat.reduceAdd, Nat.reduceLeDiff, zbw] | with_reducible intro _ | ((with_reducible apply And.intro); omega)); exact ⟨_, .bool _ _, rfl⟩
      | false => rw [hq, Bool.false_or] at hgo; (repeat first | simp (disch := try exact dis1) only [evD, Nat.reduceBEq, Nat.reduceAdd, Nat.reduceLeDiff] | with_reducible intro _ | ((with_reducible apply And.intro); omega)); exact ⟨i + 1, ⟨by omega, hgo⟩, by omega, Ent.keep rfl fin5⟩
  have stop : (kd = 7 ∨ kd = 8) → b = false → (if (kd = 7 ∨ kd = 8) ∧ b = false then true else zbQ l (b || zbr kd)) = true := fun h1 h2 => if_pos ⟨h1, h2⟩
  have go : ¬ ((kd = 7 ∨ kd = 8) ∧ b = false) → (if (kd = 7 ∨ kd = 8) ∧ b = false then true else zbQ l (b || zbr kd)) = zbQ l (b || zbr kd) := fun h => if_neg h
  by_cases h7 : kd = 7
  · cases hb : b with
    | true => subst hb; rw [go (by simp)]; (repeat first | simp (disch := try exact dis1) only [evD, Nat.reduceBEq, Nat.reduceAdd, Nat.reduceLeDiff, fldP, dT, dF] | with_reducible intro _ | ((with_reducible apply And.intro); omega)); exact body _ rfl
    | false => subst hb; rw [stop (.inl h7) rfl]; (repeat first | simp (disch := try exact dis1) only [evD, Nat.reduceBEq, Nat.reduceAdd, Nat.reduceLeDiff, fldP, dT, zbw] | with_reducible intro _ | ((with_reducible apply And.intro); omega)); exact ⟨_, .bool _ _, rfl⟩
  by_cases h8 : kd = 8
  · cases hb : b with
    | true => subst hb; rw [go (by simp)]; (repeat first | simp (disch := try exact dis1) only [evD, Nat.reduceBEq, Nat.reduceAdd, Nat.reduceLeDiff, fldP, dT, dF] | with_reducible intro _ | ((with_reducible apply And.intro); omega)); exact body _ rfl
    | false => subst hb; rw [stop (.inr h8) rfl]; (repeat first | simp (disch := try exact dis1) only [evD, Nat.reduceBEq, Nat.reduceAdd, Nat.reduceLeDiff, fldP, dT, dF, zbw] | with_reducible intro _ | ((with_reducible apply And.intro); omega)); exact ⟨_, .bool _ _, rfl⟩
  rw [go (by omega)]
  (repeat first | simp (disch := try exact dis1) only [evD, Nat.reduceBEq, Nat.reduceAdd, Nat.reduceLeDiff, fldP, dF] | with_reducible intro _ | ((with_reducible apply And.intro); omega))
  exact body _ rfl
structure PredN (fv : AV) (l : List Nd) (p : Nd → Bool) : Prop where
  ex : ∃ f caps, fv = .fn (.func f) caps ∧ zdT Tryz.prog f = true ∧ zG caps = true ∧ ∀ s ∈ l, zk Tryz.prog f ([.agg (encN s)] ++ caps) (· = .bool (p s))
theorem zrj {fv : AV} {l : List Nd} {p : Nd → Bool} (hp : PredN fv l p) {s : Nd} (hs : s ∈ l) {H : AH} {nx : Nat} {k : AV → AH → Nat → Prop} (hk : k (.bool (p s)) H nx) : zkR Tryz.prog fv [.agg (encN s)] H nx k := by
  obtain ⟨f, caps, rfl, hg, hf, hx⟩ := hp.ex
  rw [zgC]
  refine ⟨hg, ze (zh (hx s hs) ?_) hk⟩
  simp only [List.cons_append, List.nil_append, List.all_cons, Bool.and_eq_true]
  exact ⟨by have := flN (r := []) rfl (e := s); simpa using this, zcj hf⟩
theorem zsU {fv : AV} {l : List Nd} {p : Nd → Bool} (hp : PredN fv l p) {H H2 : AH} {σ : Nat → Nat → Option (Nat × Nat × Nat)} {D : Nat → Nat → Prop} {t : Bool} : Vw H H2 σ D t fv fv := by
  obtain ⟨f, caps, rfl, hg, hf, hx⟩ := hp.ex
  refine .fn _ _ _ _ rfl fun i a b h1 h2 => ?_
  rw [h1] at h2
  cases h2
  exact zcy (zbg hf h1)
theorem zi5 (l : List Nd) (fv : AV) (p : Nd → Bool) (hp : PredN fv l p) : zk Tryz.prog zU [encL 5 encN l, fv] (· = .int .i64 (idxI (l.findIdx? p))) := by
  refine fn_x zcG rfl ?_
  unfold za3
  have hB := hBig
  (repeat first | simp (disch := try exact dis1) only [evD, Nat.reduceBEq, Nat.reduceAdd, Nat.reduceLeDiff] | with_reducible intro _ | ((with_reducible apply And.intro); omega))
  refine zm (fun i : Nat => ([(0, encL 5 encN l), (1, fv), (7, .int .i64 l.length), (8, .int .i64 i)], [])) 0 (fun i => i ≤ l.length ∧ ∀ j (h : j < l.length), j < i → p l[j] = false) (fun i => l.length - i) 0 ⟨Nat.zero_le _, fun j _ h => by omega⟩ (Ent.keep rfl fin5) ?_
  intro i ⟨hi, hno⟩ wf
  unfold zaI
  (repeat first | simp (disch := try exact dis1) only [evD, Nat.reduceBEq, Nat.reduceAdd, Nat.reduceLeDiff] | with_reducible intro _ | ((with_reducible apply And.intro); omega))
  (refine zp (fun h => ?_) (fun h => ?_)) <;> (try simp only [dcd] at h)
  · have hi' : i < l.length := by omega
    (repeat first | simp (disch := try exact dis1) only [evD, Nat.reduceBEq, Nat.reduceAdd, Nat.reduceLeDiff, zo hi', zam, zK] | with_reducible intro _ | ((with_reducible apply And.intro); omega))
    refine zrj hp (List.getElem_mem hi') ?_
    (repeat first | simp (disch := try exact dis1) only [evD, Nat.reduceBEq, Nat.reduceAdd, Nat.reduceLeDiff] | with_reducible intro _ | ((with_reducible apply And.intro); omega))
    (refine zp (fun h2 => ?_) (fun h2 => ?_)) <;> (try simp only [dcd] at h2)
    · (repeat first | simp (disch := try exact dis1) only [evD, Nat.reduceBEq, Nat.reduceAdd, Nat.reduceLeDiff, zah] | with_reducible intro _ | ((with_reducible apply And.intro); omega))
      have e : l.findIdx? p = some i := by
        rw [List.findIdx?_eq_some_iff_getElem]
        exact ⟨hi', h2, fun j hj => by rw [hno j (by omega) hj]; simp⟩
      rw [e]
      exact ⟨_, .int _ _ _, rfl⟩
    · (repeat first | simp (disch := try exact dis1) only [evD, Nat.reduceBEq, Nat.reduceAdd, Nat.reduceLeDiff] | with_reducible intro _ | ((with_reducible apply And.intro); omega))
      refine ⟨i + 1, ⟨by omega, fun j hj hji => ?_⟩, by omega, Ent.keep rfl fin5⟩
      by_cases hje : j = i
      · subst hje; simpa using h2
      · exact hno j hj (by omega)
  · unfold zaH
    (repeat first | simp (disch := try exact dis1) only [evD, Nat.reduceBEq, Nat.reduceAdd, Nat.reduceLeDiff, zah] | with_reducible intro _ | ((with_reducible apply And.intro); omega))
    have e : l.findIdx? p = none := by
      rw [List.findIdx?_eq_none_iff]
      intro x hx
      obtain ⟨j, hj, rfl⟩ := List.mem_iff_getElem.1 hx
      exact hno j hj (by omega)
    rw [e]
    exact ⟨_, .int _ _ _, rfl⟩
theorem zxC {l : List Nd} {p : Nd → Bool} : decide (idxI (l.findIdx? p) ≥ 0) = l.any p := by
  cases h : l.findIdx? p with
  | none =>
    have := List.findIdx?_eq_none_iff.1 h
    rw [decide_eq_false (by simp [idxI])]
    symm
    rw [List.any_eq_false]
    intro x hx
    rw [this x hx]; simp
  | some i =>
    obtain ⟨h1, h2, _⟩ := List.findIdx?_eq_some_iff_getElem.1 h
    rw [decide_eq_true (by simp [idxI])]
    exact (zoV h1 h2).symm
theorem zbM (l : List Nd) (fv : AV) (p : Nd → Bool) (hp : PredN fv l p) : zk Tryz.prog zy [encL 5 encN l, fv] (· = .bool (l.any p)) := by
  refine fn_x zce rfl ?_
  unfold zaE
  (repeat first | simp (disch := try exact dis1) only [evD, Nat.reduceBEq, Nat.reduceAdd, Nat.reduceLeDiff] | with_reducible intro _ | ((with_reducible apply And.intro); omega))
  refine ze (z6 (D := noR) (zi5 l fv p hp) (.cons (zay rfl) (.cons (zsU hp) .nil)) (.inl rfl)) ?_
  (repeat first | simp (disch := try exact dis1) only [evD, Nat.reduceBEq, Nat.reduceAdd, Nat.reduceLeDiff, zaO] | with_reducible intro _ | ((with_reducible apply And.intro); omega))
  refine ⟨_, .bool _ _, ?_⟩
  rw [← zxC]
theorem ziW {H : AH} {f r g n : Nat} {c : List AV} (hg : H.get r 0 = some (.row n [c] g)) (hc : c.all AV.flat0 = true) (hn : c.length = n) : Vw H [] nos allR false (.fn (.func f) [.ptr r 0 g 0 0]) (.fn (.func f) [encP n c]) := by
  refine .fn _ _ _ _ rfl fun i a b h1 h2 => ?_
  match i with
  | 0 => cases h1; cases h2; exact zxx trivial hg hc hn
  | i + 1 => cases h1
theorem zjg : ∀ (k : Nat) (e : Nd) (b : Bool), za7 e ≤ k → zk Tryz.prog zbn [.agg (encN e), .bool b] (· = .bool (!zgc e b)) := by
  intro k
  induction k with
  | zero => intro e b h; obtain ⟨_, _, l⟩ := e; rw [za7] at h; omega
  | succ k ih =>
  intro e b hk
  obtain ⟨⟨kd, bl, lb⟩, c, l⟩ := e
  refine fn_x zjd rfl ?_
  unfold zeK
  have hB := hBig
  rw [za7] at hk
  have hE := zbs ⟨kd, bl, lb⟩ c l
  simp only at hE
  rw [hE, zgc]
  simp only
  have hp : ∀ q : Bool, PredN (.fn (.func zaW) [encP 1 [.bool q]]) l (zgc · q) := by
    intro q
    refine ⟨_, _, rfl, by kernel_rfl, rfl, fun s hs => ?_⟩
    have hm := zdh hs
    refine fn_x zhW rfl ?_
    unfold zdY
    (repeat first | simp (disch := try exact dis1) only [evD, Nat.reduceBEq, Nat.reduceAdd, Nat.reduceLeDiff, zam, zaq, zK, encP] | with_reducible intro _ | ((with_reducible apply And.intro); omega))
    refine ze (zh (ih s q (by omega)) flNB) ?_
    (repeat first | simp (disch := try exact dis1) only [evD, Nat.reduceBEq, Nat.reduceAdd, Nat.reduceLeDiff, zdX] | with_reducible intro _ | ((with_reducible apply And.intro); omega))
    exact ⟨_, .bool _ _, rfl⟩
  have stop : (kd = 7 ∨ kd = 8) → b = false → (if (kd = 7 ∨ kd = 8) ∧ b = false then true else zbQ l (b || zbr kd)) = true := fun h1 h2 => if_pos ⟨h1, h2⟩
  have go : ¬ ((kd = 7 ∨ kd = 8) ∧ b = false) → (if (kd = 7 ∨ kd = 8) ∧ b = false then true else zbQ l (b || zbr kd)) = zbQ l (b || zbr kd) := fun h => if_neg h
  have e0 : kd ≠ 4 → kd ≠ 5 → zbr kd = false := fun h4 h5 => by unfold zbr; exact decide_eq_false (by omega)
  have fin : ∀ (q : Bool), zk Tryz.prog zy [encL 5 encN l, .fn (.func zaW) [encP 1 [.bool q]]] (· = .bool (zbQ l q)) := by
    intro q
    rw [zna]
    exact zbM l _ _ (hp q)
  cases b with
  | true =>
    rw [go (by simp), Bool.true_or]
    have fin1 := fin true
    generalize zbQ l true = R at fin1
    by_cases h7 : kd = 7
    · (repeat first | simp (disch := try exact dis1) only [evD, Nat.reduceBEq, Nat.reduceAdd, Nat.reduceLeDiff, fldP, dT, dF, zA] | with_reducible intro _ | ((with_reducible apply And.intro); omega))
      refine ze (z6 (D := allR) fin1 (.cons (zay rfl) (.cons (ziW rfl rfl rfl) .nil)) (.inl rfl)) ?_
      (repeat first | simp (disch := try exact dis1) only [evD, Nat.reduceBEq, Nat.reduceAdd, Nat.reduceLeDiff, fldP, dT, dF, zA] | with_reducible intro _ | ((with_reducible apply And.intro); omega))
      exact ⟨_, .bool _ _, rfl⟩
    by_cases h8 : kd = 8
    · (repeat first | simp (disch := try exact dis1) only [evD, Nat.reduceBEq, Nat.reduceAdd, Nat.reduceLeDiff, fldP, dT, dF, zA] | with_reducible intro _ | ((with_reducible apply And.intro); omega))
      refine ze (z6 (D := allR) fin1 (.cons (zay rfl) (.cons (ziW rfl rfl rfl) .nil)) (.inl rfl)) ?_
      (repeat first | simp (disch := try exact dis1) only [evD, Nat.reduceBEq, Nat.reduceAdd, Nat.reduceLeDiff, fldP, dT, dF, zA] | with_reducible intro _ | ((with_reducible apply And.intro); omega))
      exact ⟨_, .bool _ _, rfl⟩
    (repeat first | simp (disch := try exact dis1) only [evD, Nat.reduceBEq, Nat.reduceAdd, Nat.reduceLeDiff, fldP, dT, dF, zA] | with_reducible intro _ | ((with_reducible apply And.intro); omega))
    refine ze (z6 (D := allR) fin1 (.cons (zay rfl) (.cons (ziW rfl rfl rfl) .nil)) (.inl rfl)) ?_
    (repeat first | simp (disch := try exact dis1) only [evD, Nat.reduceBEq, Nat.reduceAdd, Nat.reduceLeDiff, fldP, dT, dF, zA] | with_reducible intro _ | ((with_reducible apply And.intro); omega))
    exact ⟨_, .bool _ _, rfl⟩
  | false =>
    by_cases h7 : kd = 7
    · rw [stop (.inl h7) rfl]
      (repeat first | simp (disch := try exact dis1) only [evD, Nat.reduceBEq, Nat.reduceAdd, Nat.reduceLeDiff, fldP, dT, dF, zA] | with_reducible intro _ | ((with_reducible apply And.intro); omega))
      exact ⟨_, .bool _ _, rfl⟩
    by_cases h8 : kd = 8
    · rw [stop (.inr h8) rfl]
      (repeat first | simp (disch := try exact dis1) only [evD, Nat.reduceBEq, Nat.reduceAdd, Nat.reduceLeDiff, fldP, dT, dF, zA] | with_reducible intro _ | ((with_reducible apply And.intro); omega))
      exact ⟨_, .bool _ _, rfl⟩
    rw [go (by omega), Bool.false_or]
    have finq := fin (zbr kd)
    generalize zbQ l (zbr kd) = R at finq
    have hq : zbr kd = decide (kd = 4 ∨ kd = 5) := rfl
    by_cases h4 : kd = 4
    · rw [hq, decide_eq_true (.inl h4)] at finq
      (repeat first | simp (disch := try exact dis1) only [evD, Nat.reduceBEq, Nat.reduceAdd, Nat.reduceLeDiff, fldP, dT, dF, zA] | with_reducible intro _ | ((with_reducible apply And.intro); omega))
      refine ze (z6 (D := allR) finq (.cons (zay rfl) (.cons (ziW rfl rfl rfl) .nil)) (.inl rfl)) ?_
      (repeat first | simp (disch := try exact dis1) only [evD, Nat.reduceBEq, Nat.reduceAdd, Nat.reduceLeDiff, fldP, dT, dF, zA] | with_reducible intro _ | ((with_reducible apply And.intro); omega))
      exact ⟨_, .bool _ _, rfl⟩
    by_cases h5 : kd = 5
    · rw [hq, decide_eq_true (.inr h5)] at finq
      (repeat first | simp (disch := try exact dis1) only [evD, Nat.reduceBEq, Nat.reduceAdd, Nat.reduceLeDiff, fldP, dT, dF, zA] | with_reducible intro _ | ((with_reducible apply And.intro); omega))
      refine ze (z6 (D := allR) finq (.cons (zay rfl) (.cons (ziW rfl rfl rfl) .nil)) (.inl rfl)) ?_
      (repeat first | simp (disch := try exact dis1) only [evD, Nat.reduceBEq, Nat.reduceAdd, Nat.reduceLeDiff, fldP, dT, dF, zA] | with_reducible intro _ | ((with_reducible apply And.intro); omega))
      exact ⟨_, .bool _ _, rfl⟩
    rw [e0 h4 h5] at finq
    (repeat first | simp (disch := try exact dis1) only [evD, Nat.reduceBEq, Nat.reduceAdd, Nat.reduceLeDiff, fldP, dT, dF, zA] | with_reducible intro _ | ((with_reducible apply And.intro); omega))
    refine ze (z6 (D := allR) finq (.cons (zay rfl) (.cons (ziW rfl rfl rfl) .nil)) (.inl rfl)) ?_
    (repeat first | simp (disch := try exact dis1) only [evD, Nat.reduceBEq, Nat.reduceAdd, Nat.reduceLeDiff, fldP, dT, dF, zA] | with_reducible intro _ | ((with_reducible apply And.intro); omega))
    exact ⟨_, .bool _ _, rfl⟩
def hasI (l : List Int) (t : Int) : Bool := l.any fun x => decide (x = t)
theorem zff (l : List Int) (t : Int) : zk Tryz.prog zck [za l, .int .i64 t] (· = .bool (hasI l t)) := by
  refine fn_x zn7 rfl ?_
  unfold zla hasI
  have hB := hBig
  generalize hR : (l.any fun x => decide (x = t)) = R
  (repeat first | simp (disch := try exact dis1) only [evD, Nat.reduceBEq, Nat.reduceAdd, Nat.reduceLeDiff, za] | with_reducible intro _ | ((with_reducible apply And.intro); omega))
  refine zm (fun i : Nat => ([(0, za l), (1, .int .i64 t), (5, .int .i64 i)], [])) 0 (fun i => i ≤ l.length ∧ ((l.drop i).any fun x => decide (x = t)) = R) (fun i => l.length - i) 0 ⟨Nat.zero_le _, hR⟩ (Ent.keep rfl fin5) ?_
  rintro i ⟨hi, hgo⟩ wf
  unfold zha
  by_cases hl : i < l.length
  · rw [List.drop_eq_getElem_cons hl, List.any_cons] at hgo
    by_cases hx : l[i] = t
    · rw [decide_eq_true hx, Bool.true_or] at hgo
      subst hgo
      (repeat first | simp (disch := try exact dis1) only [evD, Nat.reduceBEq, Nat.reduceAdd, Nat.reduceLeDiff, dT, za, zo hl, zgH] | with_reducible intro _ | ((with_reducible apply And.intro); omega))
      exact ⟨_, .bool _ _, rfl⟩
    · rw [decide_eq_false hx, Bool.false_or] at hgo
      (repeat first | simp (disch := try exact dis1) only [evD, Nat.reduceBEq, Nat.reduceAdd, Nat.reduceLeDiff, dT, dF, za, zo hl] | with_reducible intro _ | ((with_reducible apply And.intro); omega))
      exact ⟨i + 1, ⟨by omega, hgo⟩, by omega, Ent.keep rfl fin5⟩
  · rw [List.drop_of_length_le (by omega)] at hgo
    replace hgo : R = false := by rw [← hgo]; rfl
    subst hgo
    (repeat first | simp (disch := try exact dis1) only [evD, Nat.reduceBEq, Nat.reduceAdd, Nat.reduceLeDiff, dF, za] | with_reducible intro _ | ((with_reducible apply And.intro); omega))
    unfold zg8
    (repeat first | simp (disch := try exact dis1) only [evD, Nat.reduceBEq, Nat.reduceAdd, Nat.reduceLeDiff, zgH] | with_reducible intro _ | ((with_reducible apply And.intro); omega))
    exact ⟨_, .bool _ _, rfl⟩
mutual
def zdu : Nd → List Int
  | .mk f _ l => if f.kind = 9 then [f.label] else zbE l
def zbE : List Nd → List Int
  | [] => []
  | x :: l => zdu x ++ zbE l
end
mutual
theorem zlD : ∀ n : Nd, (zdu n).length ≤ za7 n
  | .mk f _ l => by
    have := zgY l
    rw [zdu, za7]
    split
    · simp only [List.length_singleton]; omega
    · omega
theorem zgY : ∀ l : List Nd, (zbE l).length ≤ za4 l
  | [] => by rw [zbE]; simp
  | x :: l => by
    have h1 := zlD x
    have h2 := zgY l
    rw [zbE, List.length_append, za4]
    omega
end
theorem zn2 : ∀ (k : Nat) (e : Nd), za7 e ≤ k → k ≤ 1000 → zk Tryz.prog zdF [.agg (encN e)] (· = za (zdu e)) := by
  intro k
  induction k with
  | zero => intro e h; obtain ⟨_, _, l⟩ := e; rw [za7] at h; omega
  | succ k ih =>
  intro e hk hk2
  obtain ⟨⟨kd, bl, lb⟩, c, l⟩ := e
  refine fn_x znU rfl ?_
  unfold zjz
  have hB := hBig
  rw [za7] at hk
  have hlen := zgY l
  have hE := zbs ⟨kd, bl, lb⟩ c l
  simp only at hE
  rw [hE, zdu]
  simp only
  by_cases h9 : kd = 9
  · rw [if_pos h9]
    (repeat first | simp (disch := try exact dis1) only [evD, Nat.reduceBEq, Nat.reduceAdd, Nat.reduceLeDiff, fldP, dT, zgo] | with_reducible intro _ | ((with_reducible apply And.intro); omega))
    exact ⟨_, zbj (l := [lb]) trivial rfl (by simp only [List.length_singleton]; omega), rfl⟩
  rw [if_neg h9]
  generalize hR : zbE l = R at hlen
  (repeat first | simp (disch := try exact dis1) only [evD, Nat.reduceBEq, Nat.reduceAdd, Nat.reduceLeDiff, fldP, dF] | with_reducible intro _ | ((with_reducible apply And.intro); omega))
  refine zm (fun s : Nat × List Int => ([(1, encP 5 [.int .i64 kd, .int .i64 bl, .int .i64 lb, encL 5 encX c, encL 5 encN l]), (3, .own 0 0 0 0 s.2.length), (4, .int .i64 s.1)], [(0, .row 1 (s.2.map cI) 0)])) 1 (fun s => s.1 ≤ l.length ∧ s.2 ++ zbE (l.drop s.1) = R) (fun s => l.length - s.1) (0, []) ⟨Nat.zero_le _, hR⟩ (Ent.tab [(0, 1, 0)] [] rfl (by (try simp only [evWB, Nat.reduceBEq, Nat.reduceAdd, Nat.reduceSub, Nat.reduceLeDiff, Nat.reduceLT, implies_true]) <;> exact fin2) (by (try simp only [evWB, Nat.reduceBEq, Nat.reduceAdd, Nat.reduceSub, Nat.reduceLeDiff, Nat.reduceLT, implies_true]) <;> exact fin2)) ?_
  rintro ⟨i, x⟩ ⟨hi, hgo⟩ wf
  simp only at hi hgo
  unfold zgw
  by_cases hl : i < l.length
  · have hm := zdh (List.getElem_mem hl)
    rw [List.drop_eq_getElem_cons hl, zbE, ← List.append_assoc] at hgo
    have hlen2 := congrArg List.length hgo
    simp only [List.length_append] at hlen2
    (repeat first | simp (disch := try exact dis1) only [evD, Nat.reduceBEq, Nat.reduceAdd, Nat.reduceLeDiff, fldP, dT, zo hl, zam, zK] | with_reducible intro _ | ((with_reducible apply And.intro); omega))
    refine ze (zh (ih l[i] (by omega) (by omega)) (flN rfl)) ?_
    (repeat first | simp (disch := try exact dis1) only [evD, Nat.reduceBEq, Nat.reduceAdd, Nat.reduceLeDiff, za, zi1] | with_reducible intro _ | ((with_reducible apply And.intro); omega))
    exact ⟨(i + 1, x ++ zdu l[i]), ⟨by simp only; omega, hgo⟩, by simp only; omega, (Ent.tab [(0, 0, 1)] [] rfl (by (try simp only [evWB, Nat.reduceBEq, Nat.reduceAdd, Nat.reduceSub, Nat.reduceLeDiff, Nat.reduceLT, implies_true, List.length_append, List.map_append]) <;> exact fin1) (by (try simp only [evWB, Nat.reduceBEq, Nat.reduceAdd, Nat.reduceSub, Nat.reduceLeDiff, Nat.reduceLT, implies_true, List.length_append, List.map_append]) <;> exact fin1))⟩
  · rw [List.drop_of_length_le (by omega), zbE, List.append_nil] at hgo
    subst hgo
    (repeat first | simp (disch := try exact dis1) only [evD, Nat.reduceBEq, Nat.reduceAdd, Nat.reduceLeDiff, fldP, dF] | with_reducible intro _ | ((with_reducible apply And.intro); omega))
    unfold zgz
    (repeat first | simp (disch := try exact dis1) only [evD, Nat.reduceBEq, Nat.reduceAdd, Nat.reduceLeDiff, zgo] | with_reducible intro _ | ((with_reducible apply And.intro); omega))
    exact ⟨_, zbj (l := x) trivial rfl (by omega), rfl⟩
theorem zjJ (l : List Int) (t : Int) : zk Tryz.prog zbo [za l, .int .i64 t] (fun a => ∃ n : Int, a = .int .i64 n ∧ decide (n ≥ 0) = hasI l t) := by
  refine fn_x zhd rfl ?_
  unfold zdC hasI
  have hB := hBig
  generalize hR : (l.any fun x => decide (x = t)) = R
  (repeat first | simp (disch := try exact dis1) only [evD, Nat.reduceBEq, Nat.reduceAdd, Nat.reduceLeDiff, za] | with_reducible intro _ | ((with_reducible apply And.intro); omega))
  refine zm (fun i : Nat => ([(0, za l), (1, .int .i64 t), (7, .int .i64 l.length), (8, .int .i64 i)], [])) 0 (fun i => i ≤ l.length ∧ ((l.drop i).any fun x => decide (x = t)) = R) (fun i => l.length - i) 0 ⟨Nat.zero_le _, hR⟩ (Ent.keep rfl fin5) ?_
  rintro i ⟨hi, hgo⟩ wf
  unfold zcD
  by_cases hl : i < l.length
  · rw [List.drop_eq_getElem_cons hl, List.any_cons] at hgo
    by_cases hx : l[i] = t
    · rw [decide_eq_true hx, Bool.true_or] at hgo
      subst hgo
      have hx2 : decide (t = l[i]) = true := decide_eq_true hx.symm
      (repeat first | simp (disch := try exact dis1) only [evD, Nat.reduceBEq, Nat.reduceAdd, Nat.reduceLeDiff, dT, hx2, za, zo hl, zbO] | with_reducible intro _ | ((with_reducible apply And.intro); omega))
      exact ⟨_, .int _ _ _, i, rfl, decide_eq_true (by omega)⟩
    · rw [decide_eq_false hx, Bool.false_or] at hgo
      have hx2 : decide (t = l[i]) = false := decide_eq_false (fun h => hx h.symm)
      (repeat first | simp (disch := try exact dis1) only [evD, Nat.reduceBEq, Nat.reduceAdd, Nat.reduceLeDiff, dT, hx2, za, zo hl] | with_reducible intro _ | ((with_reducible apply And.intro); omega))
      exact ⟨i + 1, ⟨by omega, hgo⟩, by omega, Ent.keep rfl fin5⟩
  · rw [List.drop_of_length_le (by omega)] at hgo
    replace hgo : R = false := by rw [← hgo]; rfl
    subst hgo
    (repeat first | simp (disch := try exact dis1) only [evD, Nat.reduceBEq, Nat.reduceAdd, Nat.reduceLeDiff, dF, za] | with_reducible intro _ | ((with_reducible apply And.intro); omega))
    unfold zcC
    (repeat first | simp (disch := try exact dis1) only [evD, Nat.reduceBEq, Nat.reduceAdd, Nat.reduceLeDiff, zbO] | with_reducible intro _ | ((with_reducible apply And.intro); omega))
    exact ⟨_, .int _ _ _, -1, rfl, rfl⟩
theorem zh2 (l : List Int) (t : Int) : zk Tryz.prog zaS [za l, .int .i64 t] (· = .bool (hasI l t)) := by
  refine fn_x zfU rfl ?_
  unfold zcB
  have hB := hBig
  (repeat first | simp (disch := try exact dis1) only [evD, Nat.reduceBEq, Nat.reduceAdd, Nat.reduceLeDiff] | with_reducible intro _ | ((with_reducible apply And.intro); omega))
  refine zvD (D := noR) (zjJ l t) (.cons (zay rfl) (.cons (zay rfl) .nil)) (fun a ⟨n, h, _⟩ => .inl (by rw [h]; rfl)) ?_
  rintro _ ⟨n, rfl, hn⟩
  (repeat first | simp (disch := try exact dis1) only [evD, Nat.reduceBEq, Nat.reduceAdd, Nat.reduceLeDiff, hn, zcE] | with_reducible intro _ | ((with_reducible apply And.intro); omega))
  exact ⟨_, .bool _ _, rfl⟩
def wOk (l : List Bl) (b : Int) : Bool := if b < 0 then false else match l[b.toNat]? with
  | none => false
  | some x => decide (x.stmts.length = 1)
mutual
def zjK (g : List Bl) : Nd → Bool
  | .mk f _ l => if f.kind = 5 ∧ wOk g f.block = false then false else zdD g l
def zdD (g : List Bl) : List Nd → Bool
  | [] => true
  | x :: l => zjK g x && zdD g l
end
theorem zoZ (ad : Int) (gl : List Bl) : ∀ (k : Nat) (e : Nd), za7 e ≤ k → zk Tryz.prog zeu [.agg (encN e), .agg [.int .u32 ad, encL 2 Bl.cells gl]] (· = .bool (zjK gl e)) := by
  intro k
  induction k with
  | zero => intro e h; obtain ⟨_, _, l⟩ := e; rw [za7] at h; omega
  | succ k ih =>
  intro e hk
  obtain ⟨⟨kd, bl, lb⟩, c, l⟩ := e
  refine fn_x zo8 rfl ?_
  unfold zkj
  have hB := hBig
  rw [za7] at hk
  have hE := zbs ⟨kd, bl, lb⟩ c l
  simp only at hE
  rw [hE, zjK]
  simp only
  have body : ∀ K : Kn, K = [(2, encP 5 [.int .i64 kd, .int .i64 bl, .int .i64 lb, encL 5 encX c, encL 5 encN l]), (3, encP 2 [.int .u32 ad, encL 2 Bl.cells gl]), (5, .int .i64 0)] → zsq Tryz.prog 0 zeE (zgh 0 (seqQ Tryz.prog 0 zeG (retK zbT fun v H' x => ∃ a, Frz H' v a ∧ a = .bool (zdD gl l)))) K [] 0 := by
    rintro _ rfl
    generalize hR : zdD gl l = R
    refine zm (fun i : Nat => ([(2, encP 5 [.int .i64 kd, .int .i64 bl, .int .i64 lb, encL 5 encX c, encL 5 encN l]), (3, encP 2 [.int .u32 ad, encL 2 Bl.cells gl]), (5, .int .i64 i)], [])) 0 (fun i => i ≤ l.length ∧ zdD gl (l.drop i) = R) (fun i => l.length - i) 0 ⟨Nat.zero_le _, hR⟩ (Ent.keep rfl fin5) ?_
    rintro i ⟨hi, hgo⟩ wf
    unfold zeE
    by_cases hl : i < l.length
    case neg =>
      rw [List.drop_of_length_le (by omega), zdD] at hgo
      subst hgo
      (repeat first | simp (disch := try exact dis1) only [evD, Nat.reduceBEq, Nat.reduceAdd, Nat.reduceLeDiff, fldP, dF] | with_reducible intro _ | ((with_reducible apply And.intro); omega))
      unfold zeG
      (repeat first | simp (disch := try exact dis1) only [evD, Nat.reduceBEq, Nat.reduceAdd, Nat.reduceLeDiff, zbT] | with_reducible intro _ | ((with_reducible apply And.intro); omega))
      exact ⟨_, .bool _ _, rfl⟩
    have hm := zdh (List.getElem_mem hl)
    rw [List.drop_eq_getElem_cons hl, zdD] at hgo
    (repeat first | simp (disch := try exact dis1) only [evD, Nat.reduceBEq, Nat.reduceAdd, Nat.reduceLeDiff, fldP, dT, zo hl, zam, zK, zfT, tab, List.getD_cons_zero, List.getD_cons_succ] | with_reducible intro _ | ((with_reducible apply And.intro); omega))
    refine zag (zh (ih l[i] (by omega)) (flN rfl)) ?_
    cases hq : zjK gl l[i] with
    | false => rw [hq, Bool.false_and] at hgo; subst hgo; (repeat first | simp (disch := try exact dis1) only [evD, Nat.reduceBEq, Nat.reduceAdd, Nat.reduceLeDiff, zbT] | with_reducible intro _ | ((with_reducible apply And.intro); omega)); exact ⟨_, .bool _ _, rfl⟩
    | true => rw [hq, Bool.true_and] at hgo; (repeat first | simp (disch := try exact dis1) only [evD, Nat.reduceBEq, Nat.reduceAdd, Nat.reduceLeDiff] | with_reducible intro _ | ((with_reducible apply And.intro); omega)); exact ⟨i + 1, ⟨by omega, hgo⟩, by omega, Ent.keep rfl fin5⟩
  by_cases h5 : kd = 5
  case neg =>
    rw [if_neg (fun h => h5 h.1)]
    (repeat first | simp (disch := try exact dis1) only [evD, Nat.reduceBEq, Nat.reduceAdd, Nat.reduceLeDiff, fldP, dF] | with_reducible intro _ | ((with_reducible apply And.intro); omega))
    exact body _ rfl
  by_cases b0 : bl < 0
  · rw [if_pos ⟨h5, by unfold wOk; rw [if_pos b0]⟩]
    (repeat first | simp (disch := try exact dis1) only [evD, Nat.reduceBEq, Nat.reduceAdd, Nat.reduceLeDiff, fldP, dT, zbT] | with_reducible intro _ | ((with_reducible apply And.intro); omega))
    exact ⟨_, .bool _ _, rfl⟩
  by_cases b1 : bl < gl.length
  case neg =>
    rw [if_pos ⟨h5, by unfold wOk; rw [if_neg b0, List.getElem?_eq_none (by omega)]⟩]
    (repeat first | simp (disch := try exact dis1) only [evD, Nat.reduceBEq, Nat.reduceAdd, Nat.reduceLeDiff, fldP, dT, dF, zbT] | with_reducible intro _ | ((with_reducible apply And.intro); omega))
    exact ⟨_, .bool _ _, rfl⟩
  have hb : bl.toNat < gl.length := by omega
  have hg : (gl.map Bl.cells).getD bl.toNat [] = [.int .u32 gl[bl.toNat].addr, encL 8 St.cells gl[bl.toNat].stmts] := zo hb
  by_cases s1 : gl[bl.toNat].stmts.length = 1
  · rw [if_neg (fun h => by have := h.2; unfold wOk at this; rw [if_neg b0, List.getElem?_eq_getElem hb] at this; simp [s1] at this)]
    (repeat first | simp (disch := try exact dis1) only [evD, Nat.reduceBEq, Nat.reduceAdd, Nat.reduceLeDiff, fldP, dT, dF, hg] | with_reducible intro _ | ((with_reducible apply And.intro); omega))
    exact body _ rfl
  · rw [if_pos ⟨h5, by unfold wOk; rw [if_neg b0, List.getElem?_eq_getElem hb]; exact decide_eq_false s1⟩]
    (repeat first | simp (disch := try exact dis1) only [evD, Nat.reduceBEq, Nat.reduceAdd, Nat.reduceLeDiff, fldP, dT, dF, hg, zbT] | with_reducible intro _ | ((with_reducible apply And.intro); omega))
    exact ⟨_, .bool _ _, rfl⟩
def zi (kd bl lb : Int) (cn ln : Nat) : Prop :=
  1 ≤ kd ∧ kd ≤ 12 ∧ ((kd = 3 ∨ kd = 5 ∨ kd = 6) → cn = 1) ∧ (kd = 3 ∨ kd = 5 ∨ kd = 6 ∨ cn = 0) ∧
  (kd = 1 ∨ (kd = 3 ∧ ln = 2) ∨ ((kd = 4 ∨ kd = 5) ∧ ln = 1) ∨ (kd = 6 ∧ 1 ≤ ln ∧ ln ≤ 64) ∨ ((kd = 2 ∨ 7 ≤ kd) ∧ ln = 0)) ∧
  (kd = 2 ∨ kd = 5 ∨ bl = 0) ∧ (kd = 9 ∨ kd = 10 ∨ lb = 0) ∧ 0 ≤ lb
instance (kd bl lb : Int) (cn ln : Nat) : Decidable (zi kd bl lb cn ln) := by unfold zi; infer_instance
def z7 (kd bl lb : Int) (c : List Ex) (ln : Nat) : Bool := decide (zi kd bl lb c.length ln) && c.all fun e => decide (ze1 e = 0)
theorem noF {kd bl lb : Int} {c : List Ex} {n : Nat} (h : ¬ zi kd bl lb c.length n) : false = z7 kd bl lb c n := by unfold z7; rw [dF h]; rfl
theorem yesF {kd bl lb : Int} {n : Nat} (h : zi kd bl lb 0 n) : z7 kd bl lb [] n = true := by unfold z7; rw [dT (show zi kd bl lb ([] : List Ex).length n from h)]; rfl
theorem yesX {kd bl lb : Int} {e : Ex} {n : Nat} (h : zi kd bl lb 1 n) : z7 kd bl lb [e] n = decide (ze1 e = 0) := by unfold z7; rw [dT (show zi kd bl lb [e].length n from h)]; simp
theorem noX {kd bl lb : Int} {e : Ex} {n : Nat} (h : ¬ ze1 e = 0) : z7 kd bl lb [e] n = false := by unfold z7; simp [h]
theorem hgX {e : Ex} : [encX e].getD (Int.toNat 0) [] = encX e := rfl
theorem zyY {kd bl lb : Int} {c : List Ex} {l : List Nd} (h : kd = 7 ∨ kd = 8 ∨ kd = 11 ∨ kd = 12) : zk Tryz.prog zC [.agg [.int .i64 kd, .int .i64 bl, .int .i64 lb, encL 5 encX c, encL 5 encN l]] (· = .bool (z7 kd bl lb c l.length)) := by
  refine fn_x zL rfl ?_
  unfold zI
  have hB := hBig
  (repeat first | simp (disch := try exact dis1) only [evD, Nat.reduceBEq, Nat.reduceAdd, Nat.reduceLeDiff, dT, dF, fldP, zc] | with_reducible intro _ | ((with_reducible apply And.intro); omega))
  by_cases q0 : c.length = 0 <;> (repeat first | simp (disch := try exact dis1) only [evD, Nat.reduceBEq, Nat.reduceAdd, Nat.reduceLeDiff, dT, dF, fldP, zc] | with_reducible intro _ | ((with_reducible apply And.intro); omega))
  case neg => exact ⟨_, .bool _ _, congrArg AV.bool (noF (by unfold zi; omega))⟩
  by_cases q1 : l.length = 0 <;> (repeat first | simp (disch := try exact dis1) only [evD, Nat.reduceBEq, Nat.reduceAdd, Nat.reduceLeDiff, dT, dF, fldP, zc] | with_reducible intro _ | ((with_reducible apply And.intro); omega))
  case neg => exact ⟨_, .bool _ _, congrArg AV.bool (noF (by unfold zi; omega))⟩
  by_cases q2 : bl = 0 <;> (repeat first | simp (disch := try exact dis1) only [evD, Nat.reduceBEq, Nat.reduceAdd, Nat.reduceLeDiff, dT, dF, fldP, zc] | with_reducible intro _ | ((with_reducible apply And.intro); omega))
  case neg => exact ⟨_, .bool _ _, congrArg AV.bool (noF (by unfold zi; omega))⟩
  by_cases q3 : lb = 0 <;> (repeat first | simp (disch := try exact dis1) only [evD, Nat.reduceBEq, Nat.reduceAdd, Nat.reduceLeDiff, dT, dF, fldP, zc] | with_reducible intro _ | ((with_reducible apply And.intro); omega))
  case neg => exact ⟨_, .bool _ _, congrArg AV.bool (noF (by unfold zi; omega))⟩
  obtain rfl : c = [] := List.eq_nil_of_length_eq_zero q0
  exact ⟨_, .bool _ _, congrArg AV.bool (yesF (by unfold zi; omega)).symm⟩
theorem zyW {kd bl lb : Int} {c : List Ex} {l : List Nd} (h : kd = 2) : zk Tryz.prog zC [.agg [.int .i64 kd, .int .i64 bl, .int .i64 lb, encL 5 encX c, encL 5 encN l]] (· = .bool (z7 kd bl lb c l.length)) := by
  refine fn_x zL rfl ?_
  unfold zI
  have hB := hBig
  (repeat first | simp (disch := try exact dis1) only [evD, Nat.reduceBEq, Nat.reduceAdd, Nat.reduceLeDiff, dT, dF, fldP, zc] | with_reducible intro _ | ((with_reducible apply And.intro); omega))
  by_cases q0 : c.length = 0 <;> (repeat first | simp (disch := try exact dis1) only [evD, Nat.reduceBEq, Nat.reduceAdd, Nat.reduceLeDiff, dT, dF, fldP, zc] | with_reducible intro _ | ((with_reducible apply And.intro); omega))
  case neg => exact ⟨_, .bool _ _, congrArg AV.bool (noF (by unfold zi; omega))⟩
  by_cases q1 : l.length = 0 <;> (repeat first | simp (disch := try exact dis1) only [evD, Nat.reduceBEq, Nat.reduceAdd, Nat.reduceLeDiff, dT, dF, fldP, zc] | with_reducible intro _ | ((with_reducible apply And.intro); omega))
  case neg => exact ⟨_, .bool _ _, congrArg AV.bool (noF (by unfold zi; omega))⟩
  by_cases q2 : lb = 0 <;> (repeat first | simp (disch := try exact dis1) only [evD, Nat.reduceBEq, Nat.reduceAdd, Nat.reduceLeDiff, dT, dF, fldP, zc] | with_reducible intro _ | ((with_reducible apply And.intro); omega))
  case neg => exact ⟨_, .bool _ _, congrArg AV.bool (noF (by unfold zi; omega))⟩
  obtain rfl : c = [] := List.eq_nil_of_length_eq_zero q0
  exact ⟨_, .bool _ _, congrArg AV.bool (yesF (by unfold zi; omega)).symm⟩
theorem zyi {kd bl lb : Int} {c : List Ex} {l : List Nd} (h : kd = 9) : zk Tryz.prog zC [.agg [.int .i64 kd, .int .i64 bl, .int .i64 lb, encL 5 encX c, encL 5 encN l]] (· = .bool (z7 kd bl lb c l.length)) := by
  refine fn_x zL rfl ?_
  unfold zI
  have hB := hBig
  (repeat first | simp (disch := try exact dis1) only [evD, Nat.reduceBEq, Nat.reduceAdd, Nat.reduceLeDiff, dT, dF, fldP, zc] | with_reducible intro _ | ((with_reducible apply And.intro); omega))
  by_cases q0 : c.length = 0 <;> (repeat first | simp (disch := try exact dis1) only [evD, Nat.reduceBEq, Nat.reduceAdd, Nat.reduceLeDiff, dT, dF, fldP, zc] | with_reducible intro _ | ((with_reducible apply And.intro); omega))
  case neg => exact ⟨_, .bool _ _, congrArg AV.bool (noF (by unfold zi; omega))⟩
  by_cases q1 : l.length = 0 <;> (repeat first | simp (disch := try exact dis1) only [evD, Nat.reduceBEq, Nat.reduceAdd, Nat.reduceLeDiff, dT, dF, fldP, zc] | with_reducible intro _ | ((with_reducible apply And.intro); omega))
  case neg => exact ⟨_, .bool _ _, congrArg AV.bool (noF (by unfold zi; omega))⟩
  by_cases q2 : bl = 0 <;> (repeat first | simp (disch := try exact dis1) only [evD, Nat.reduceBEq, Nat.reduceAdd, Nat.reduceLeDiff, dT, dF, fldP, zc] | with_reducible intro _ | ((with_reducible apply And.intro); omega))
  case neg => exact ⟨_, .bool _ _, congrArg AV.bool (noF (by unfold zi; omega))⟩
  by_cases q3 : 0 ≤ lb <;> (repeat first | simp (disch := try exact dis1) only [evD, Nat.reduceBEq, Nat.reduceAdd, Nat.reduceLeDiff, dT, dF, fldP, zc] | with_reducible intro _ | ((with_reducible apply And.intro); omega))
  case neg => exact ⟨_, .bool _ _, congrArg AV.bool (noF (by unfold zi; omega))⟩
  obtain rfl : c = [] := List.eq_nil_of_length_eq_zero q0
  exact ⟨_, .bool _ _, congrArg AV.bool (yesF (by unfold zi; omega)).symm⟩
theorem zwJ {kd bl lb : Int} {c : List Ex} {l : List Nd} (h : kd = 10) : zk Tryz.prog zC [.agg [.int .i64 kd, .int .i64 bl, .int .i64 lb, encL 5 encX c, encL 5 encN l]] (· = .bool (z7 kd bl lb c l.length)) := by
  refine fn_x zL rfl ?_
  unfold zI
  have hB := hBig
  (repeat first | simp (disch := try exact dis1) only [evD, Nat.reduceBEq, Nat.reduceAdd, Nat.reduceLeDiff, dT, dF, fldP, zc] | with_reducible intro _ | ((with_reducible apply And.intro); omega))
  by_cases q0 : c.length = 0 <;> (repeat first | simp (disch := try exact dis1) only [evD, Nat.reduceBEq, Nat.reduceAdd, Nat.reduceLeDiff, dT, dF, fldP, zc] | with_reducible intro _ | ((with_reducible apply And.intro); omega))
  case neg => exact ⟨_, .bool _ _, congrArg AV.bool (noF (by unfold zi; omega))⟩
  by_cases q1 : l.length = 0 <;> (repeat first | simp (disch := try exact dis1) only [evD, Nat.reduceBEq, Nat.reduceAdd, Nat.reduceLeDiff, dT, dF, fldP, zc] | with_reducible intro _ | ((with_reducible apply And.intro); omega))
  case neg => exact ⟨_, .bool _ _, congrArg AV.bool (noF (by unfold zi; omega))⟩
  by_cases q2 : bl = 0 <;> (repeat first | simp (disch := try exact dis1) only [evD, Nat.reduceBEq, Nat.reduceAdd, Nat.reduceLeDiff, dT, dF, fldP, zc] | with_reducible intro _ | ((with_reducible apply And.intro); omega))
  case neg => exact ⟨_, .bool _ _, congrArg AV.bool (noF (by unfold zi; omega))⟩
  by_cases q3 : 0 ≤ lb <;> (repeat first | simp (disch := try exact dis1) only [evD, Nat.reduceBEq, Nat.reduceAdd, Nat.reduceLeDiff, dT, dF, fldP, zc] | with_reducible intro _ | ((with_reducible apply And.intro); omega))
  case neg => exact ⟨_, .bool _ _, congrArg AV.bool (noF (by unfold zi; omega))⟩
  obtain rfl : c = [] := List.eq_nil_of_length_eq_zero q0
  exact ⟨_, .bool _ _, congrArg AV.bool (yesF (by unfold zi; omega)).symm⟩
theorem zyL {kd bl lb : Int} {c : List Ex} {l : List Nd} (h : kd = 1) : zk Tryz.prog zC [.agg [.int .i64 kd, .int .i64 bl, .int .i64 lb, encL 5 encX c, encL 5 encN l]] (· = .bool (z7 kd bl lb c l.length)) := by
  refine fn_x zL rfl ?_
  unfold zI
  have hB := hBig
  (repeat first | simp (disch := try exact dis1) only [evD, Nat.reduceBEq, Nat.reduceAdd, Nat.reduceLeDiff, dT, dF, fldP, zc] | with_reducible intro _ | ((with_reducible apply And.intro); omega))
  by_cases q0 : c.length = 0 <;> (repeat first | simp (disch := try exact dis1) only [evD, Nat.reduceBEq, Nat.reduceAdd, Nat.reduceLeDiff, dT, dF, fldP, zc] | with_reducible intro _ | ((with_reducible apply And.intro); omega))
  case neg => exact ⟨_, .bool _ _, congrArg AV.bool (noF (by unfold zi; omega))⟩
  by_cases q1 : bl = 0 <;> (repeat first | simp (disch := try exact dis1) only [evD, Nat.reduceBEq, Nat.reduceAdd, Nat.reduceLeDiff, dT, dF, fldP, zc] | with_reducible intro _ | ((with_reducible apply And.intro); omega))
  case neg => exact ⟨_, .bool _ _, congrArg AV.bool (noF (by unfold zi; omega))⟩
  by_cases q2 : lb = 0 <;> (repeat first | simp (disch := try exact dis1) only [evD, Nat.reduceBEq, Nat.reduceAdd, Nat.reduceLeDiff, dT, dF, fldP, zc] | with_reducible intro _ | ((with_reducible apply And.intro); omega))
  case neg => exact ⟨_, .bool _ _, congrArg AV.bool (noF (by unfold zi; omega))⟩
  obtain rfl : c = [] := List.eq_nil_of_length_eq_zero q0
  exact ⟨_, .bool _ _, congrArg AV.bool (yesF (by unfold zi; omega)).symm⟩
theorem zyM {kd bl lb : Int} {c : List Ex} {l : List Nd} (h : kd = 4) : zk Tryz.prog zC [.agg [.int .i64 kd, .int .i64 bl, .int .i64 lb, encL 5 encX c, encL 5 encN l]] (· = .bool (z7 kd bl lb c l.length)) := by
  refine fn_x zL rfl ?_
  unfold zI
  have hB := hBig
  (repeat first | simp (disch := try exact dis1) only [evD, Nat.reduceBEq, Nat.reduceAdd, Nat.reduceLeDiff, dT, dF, fldP, zc] | with_reducible intro _ | ((with_reducible apply And.intro); omega))
  by_cases q0 : c.length = 0 <;> (repeat first | simp (disch := try exact dis1) only [evD, Nat.reduceBEq, Nat.reduceAdd, Nat.reduceLeDiff, dT, dF, fldP, zc] | with_reducible intro _ | ((with_reducible apply And.intro); omega))
  case neg => exact ⟨_, .bool _ _, congrArg AV.bool (noF (by unfold zi; omega))⟩
  by_cases q1 : l.length = 1 <;> (repeat first | simp (disch := try exact dis1) only [evD, Nat.reduceBEq, Nat.reduceAdd, Nat.reduceLeDiff, dT, dF, fldP, zc] | with_reducible intro _ | ((with_reducible apply And.intro); omega))
  case neg => exact ⟨_, .bool _ _, congrArg AV.bool (noF (by unfold zi; omega))⟩
  by_cases q2 : bl = 0 <;> (repeat first | simp (disch := try exact dis1) only [evD, Nat.reduceBEq, Nat.reduceAdd, Nat.reduceLeDiff, dT, dF, fldP, zc] | with_reducible intro _ | ((with_reducible apply And.intro); omega))
  case neg => exact ⟨_, .bool _ _, congrArg AV.bool (noF (by unfold zi; omega))⟩
  by_cases q3 : lb = 0 <;> (repeat first | simp (disch := try exact dis1) only [evD, Nat.reduceBEq, Nat.reduceAdd, Nat.reduceLeDiff, dT, dF, fldP, zc] | with_reducible intro _ | ((with_reducible apply And.intro); omega))
  case neg => exact ⟨_, .bool _ _, congrArg AV.bool (noF (by unfold zi; omega))⟩
  obtain rfl : c = [] := List.eq_nil_of_length_eq_zero q0
  exact ⟨_, .bool _ _, congrArg AV.bool (yesF (by unfold zi; omega)).symm⟩
theorem zxU {kd bl lb : Int} {c : List Ex} {l : List Nd} (h : kd = 3) : zk Tryz.prog zC [.agg [.int .i64 kd, .int .i64 bl, .int .i64 lb, encL 5 encX c, encL 5 encN l]] (· = .bool (z7 kd bl lb c l.length)) := by
  refine fn_x zL rfl ?_
  unfold zI
  have hB := hBig
  (repeat first | simp (disch := try exact dis1) only [evD, Nat.reduceBEq, Nat.reduceAdd, Nat.reduceLeDiff, dT, dF, fldP, zc] | with_reducible intro _ | ((with_reducible apply And.intro); omega))
  by_cases q0 : c.length = 1
  case neg =>
    (repeat first | simp (disch := try exact dis1) only [evD, Nat.reduceBEq, Nat.reduceAdd, Nat.reduceLeDiff, dT, dF, fldP, zc] | with_reducible intro _ | ((with_reducible apply And.intro); omega))
    exact ⟨_, .bool _ _, congrArg AV.bool (noF (by unfold zi; omega))⟩
  obtain ⟨e, rfl⟩ : ∃ e, c = [e] := List.length_eq_one_iff.1 q0
  (repeat first | simp (disch := try exact dis1) only [evD, Nat.reduceBEq, Nat.reduceAdd, Nat.reduceLeDiff, dT, dF, fldP, zc] | with_reducible intro _ | ((with_reducible apply And.intro); omega))
  by_cases q1 : l.length = 2 <;> (repeat first | simp (disch := try exact dis1) only [evD, Nat.reduceBEq, Nat.reduceAdd, Nat.reduceLeDiff, dT, dF, fldP, zc] | with_reducible intro _ | ((with_reducible apply And.intro); omega))
  case neg => exact ⟨_, .bool _ _, congrArg AV.bool (noF (by unfold zi; omega))⟩
  by_cases q2 : bl = 0 <;> (repeat first | simp (disch := try exact dis1) only [evD, Nat.reduceBEq, Nat.reduceAdd, Nat.reduceLeDiff, dT, dF, fldP, zc] | with_reducible intro _ | ((with_reducible apply And.intro); omega))
  case neg => exact ⟨_, .bool _ _, congrArg AV.bool (noF (by unfold zi; omega))⟩
  by_cases q3 : lb = 0 <;> (repeat first | simp (disch := try exact dis1) only [evD, Nat.reduceBEq, Nat.reduceAdd, Nat.reduceLeDiff, dT, dF, fldP, zc] | with_reducible intro _ | ((with_reducible apply And.intro); omega))
  case neg => exact ⟨_, .bool _ _, congrArg AV.bool (noF (by unfold zi; omega))⟩
  (repeat first | simp (disch := try exact dis1) only [evD, Nat.reduceBEq, Nat.reduceAdd, Nat.reduceLeDiff, hgX, za1, zar, zc] | with_reducible intro _ | ((with_reducible apply And.intro); omega))
  refine ze (zh (zdA e) (flX rfl)) ?_
  (repeat first | simp (disch := try exact dis1) only [evD, Nat.reduceBEq, Nat.reduceAdd, Nat.reduceLeDiff, dT, dF, fldP, zc] | with_reducible intro _ | ((with_reducible apply And.intro); omega))
  exact ⟨_, .bool _ _, congrArg AV.bool (yesX (by unfold zi; omega)).symm⟩
theorem zxQ {kd bl lb : Int} {c : List Ex} {l : List Nd} (h : kd = 5) : zk Tryz.prog zC [.agg [.int .i64 kd, .int .i64 bl, .int .i64 lb, encL 5 encX c, encL 5 encN l]] (· = .bool (z7 kd bl lb c l.length)) := by
  refine fn_x zL rfl ?_
  unfold zI
  have hB := hBig
  (repeat first | simp (disch := try exact dis1) only [evD, Nat.reduceBEq, Nat.reduceAdd, Nat.reduceLeDiff, dT, dF, fldP, zc] | with_reducible intro _ | ((with_reducible apply And.intro); omega))
  by_cases q0 : c.length = 1
  case neg =>
    (repeat first | simp (disch := try exact dis1) only [evD, Nat.reduceBEq, Nat.reduceAdd, Nat.reduceLeDiff, dT, dF, fldP, zc] | with_reducible intro _ | ((with_reducible apply And.intro); omega))
    exact ⟨_, .bool _ _, congrArg AV.bool (noF (by unfold zi; omega))⟩
  obtain ⟨e, rfl⟩ : ∃ e, c = [e] := List.length_eq_one_iff.1 q0
  (repeat first | simp (disch := try exact dis1) only [evD, Nat.reduceBEq, Nat.reduceAdd, Nat.reduceLeDiff, dT, dF, fldP, zc] | with_reducible intro _ | ((with_reducible apply And.intro); omega))
  by_cases q1 : l.length = 1 <;> (repeat first | simp (disch := try exact dis1) only [evD, Nat.reduceBEq, Nat.reduceAdd, Nat.reduceLeDiff, dT, dF, fldP, zc] | with_reducible intro _ | ((with_reducible apply And.intro); omega))
  case neg => exact ⟨_, .bool _ _, congrArg AV.bool (noF (by unfold zi; omega))⟩
  by_cases q2 : lb = 0 <;> (repeat first | simp (disch := try exact dis1) only [evD, Nat.reduceBEq, Nat.reduceAdd, Nat.reduceLeDiff, dT, dF, fldP, zc] | with_reducible intro _ | ((with_reducible apply And.intro); omega))
  case neg => exact ⟨_, .bool _ _, congrArg AV.bool (noF (by unfold zi; omega))⟩
  (repeat first | simp (disch := try exact dis1) only [evD, Nat.reduceBEq, Nat.reduceAdd, Nat.reduceLeDiff, hgX, za1, zar, zc] | with_reducible intro _ | ((with_reducible apply And.intro); omega))
  refine ze (zh (zdA e) (flX rfl)) ?_
  (repeat first | simp (disch := try exact dis1) only [evD, Nat.reduceBEq, Nat.reduceAdd, Nat.reduceLeDiff, dT, dF, fldP, zc] | with_reducible intro _ | ((with_reducible apply And.intro); omega))
  exact ⟨_, .bool _ _, congrArg AV.bool (yesX (by unfold zi; omega)).symm⟩
theorem zxL {kd bl lb : Int} {c : List Ex} {l : List Nd} (h : kd = 6) : zk Tryz.prog zC [.agg [.int .i64 kd, .int .i64 bl, .int .i64 lb, encL 5 encX c, encL 5 encN l]] (· = .bool (z7 kd bl lb c l.length)) := by
  refine fn_x zL rfl ?_
  unfold zI
  have hB := hBig
  (repeat first | simp (disch := try exact dis1) only [evD, Nat.reduceBEq, Nat.reduceAdd, Nat.reduceLeDiff, dT, dF, fldP, zc] | with_reducible intro _ | ((with_reducible apply And.intro); omega))
  by_cases q0 : c.length = 1
  case neg =>
    (repeat first | simp (disch := try exact dis1) only [evD, Nat.reduceBEq, Nat.reduceAdd, Nat.reduceLeDiff, dT, dF, fldP, zc] | with_reducible intro _ | ((with_reducible apply And.intro); omega))
    exact ⟨_, .bool _ _, congrArg AV.bool (noF (by unfold zi; omega))⟩
  obtain ⟨e, rfl⟩ : ∃ e, c = [e] := List.length_eq_one_iff.1 q0
  (repeat first | simp (disch := try exact dis1) only [evD, Nat.reduceBEq, Nat.reduceAdd, Nat.reduceLeDiff, dT, dF, fldP, zc] | with_reducible intro _ | ((with_reducible apply And.intro); omega))
  by_cases q1 : 1 ≤ l.length <;> (repeat first | simp (disch := try exact dis1) only [evD, Nat.reduceBEq, Nat.reduceAdd, Nat.reduceLeDiff, dT, dF, fldP, zc] | with_reducible intro _ | ((with_reducible apply And.intro); omega))
  case neg => exact ⟨_, .bool _ _, congrArg AV.bool (noF (by unfold zi; omega))⟩
  by_cases q2 : l.length ≤ 64 <;> (repeat first | simp (disch := try exact dis1) only [evD, Nat.reduceBEq, Nat.reduceAdd, Nat.reduceLeDiff, dT, dF, fldP, zc] | with_reducible intro _ | ((with_reducible apply And.intro); omega))
  case neg => exact ⟨_, .bool _ _, congrArg AV.bool (noF (by unfold zi; omega))⟩
  by_cases q3 : bl = 0 <;> (repeat first | simp (disch := try exact dis1) only [evD, Nat.reduceBEq, Nat.reduceAdd, Nat.reduceLeDiff, dT, dF, fldP, zc] | with_reducible intro _ | ((with_reducible apply And.intro); omega))
  case neg => exact ⟨_, .bool _ _, congrArg AV.bool (noF (by unfold zi; omega))⟩
  by_cases q4 : lb = 0 <;> (repeat first | simp (disch := try exact dis1) only [evD, Nat.reduceBEq, Nat.reduceAdd, Nat.reduceLeDiff, dT, dF, fldP, zc] | with_reducible intro _ | ((with_reducible apply And.intro); omega))
  case neg => exact ⟨_, .bool _ _, congrArg AV.bool (noF (by unfold zi; omega))⟩
  (repeat first | simp (disch := try exact dis1) only [evD, Nat.reduceBEq, Nat.reduceAdd, Nat.reduceLeDiff, hgX, za1, zar, zc] | with_reducible intro _ | ((with_reducible apply And.intro); omega))
  refine ze (zh (zdA e) (flX rfl)) ?_
  (repeat first | simp (disch := try exact dis1) only [evD, Nat.reduceBEq, Nat.reduceAdd, Nat.reduceLeDiff, dT, dF, fldP, zc] | with_reducible intro _ | ((with_reducible apply And.intro); omega))
  exact ⟨_, .bool _ _, congrArg AV.bool (yesX (by unfold zi; omega)).symm⟩
theorem zwP {kd bl lb : Int} {c : List Ex} {l : List Nd} (h : kd < 1) : zk Tryz.prog zC [.agg [.int .i64 kd, .int .i64 bl, .int .i64 lb, encL 5 encX c, encL 5 encN l]] (· = .bool (z7 kd bl lb c l.length)) := by
  refine fn_x zL rfl ?_
  unfold zI
  have hB := hBig
  (repeat first | simp (disch := try exact dis1) only [evD, Nat.reduceBEq, Nat.reduceAdd, Nat.reduceLeDiff, dT, dF, fldP, zc] | with_reducible intro _ | ((with_reducible apply And.intro); omega))
  exact ⟨_, .bool _ _, congrArg AV.bool (noF (by unfold zi; omega))⟩
theorem zuY {kd bl lb : Int} {c : List Ex} {l : List Nd} (h : 12 < kd) : zk Tryz.prog zC [.agg [.int .i64 kd, .int .i64 bl, .int .i64 lb, encL 5 encX c, encL 5 encN l]] (· = .bool (z7 kd bl lb c l.length)) := by
  refine fn_x zL rfl ?_
  unfold zI
  have hB := hBig
  (repeat first | simp (disch := try exact dis1) only [evD, Nat.reduceBEq, Nat.reduceAdd, Nat.reduceLeDiff, dT, dF, fldP, zc] | with_reducible intro _ | ((with_reducible apply And.intro); omega))
  exact ⟨_, .bool _ _, congrArg AV.bool (noF (by unfold zi; omega))⟩
theorem zvm {kd bl lb : Int} {c : List Ex} {l : List Nd} (h : kd = 7) : zk Tryz.prog zP [.agg [.int .i64 kd, .int .i64 bl, .int .i64 lb, encL 5 encX c, encL 5 encN l]] (· = .bool (z7 kd bl lb c l.length)) := by
  refine fn_x zab rfl ?_
  unfold zZ
  have hB := hBig
  (repeat first | simp (disch := try exact dis1) only [evD, Nat.reduceBEq, Nat.reduceAdd, Nat.reduceLeDiff, dT, dF, fldP, zb] | with_reducible intro _ | ((with_reducible apply And.intro); omega))
  by_cases q0 : c.length = 0 <;> (repeat first | simp (disch := try exact dis1) only [evD, Nat.reduceBEq, Nat.reduceAdd, Nat.reduceLeDiff, dT, dF, fldP, zb] | with_reducible intro _ | ((with_reducible apply And.intro); omega))
  case neg => exact ⟨_, .bool _ _, congrArg AV.bool (noF (by unfold zi; omega))⟩
  by_cases q1 : 0 ≤ l.length <;> (repeat first | simp (disch := try exact dis1) only [evD, Nat.reduceBEq, Nat.reduceAdd, Nat.reduceLeDiff, dT, dF, fldP, zb] | with_reducible intro _ | ((with_reducible apply And.intro); omega))
  case neg => exact ⟨_, .bool _ _, congrArg AV.bool (noF (by unfold zi; omega))⟩
  by_cases q2 : l.length ≤ 0 <;> (repeat first | simp (disch := try exact dis1) only [evD, Nat.reduceBEq, Nat.reduceAdd, Nat.reduceLeDiff, dT, dF, fldP, zb] | with_reducible intro _ | ((with_reducible apply And.intro); omega))
  case neg => exact ⟨_, .bool _ _, congrArg AV.bool (noF (by unfold zi; omega))⟩
  by_cases q3 : 0 ≤ lb <;> (repeat first | simp (disch := try exact dis1) only [evD, Nat.reduceBEq, Nat.reduceAdd, Nat.reduceLeDiff, dT, dF, fldP, zb] | with_reducible intro _ | ((with_reducible apply And.intro); omega))
  case neg => exact ⟨_, .bool _ _, congrArg AV.bool (noF (by unfold zi; omega))⟩
  obtain rfl : c = [] := List.eq_nil_of_length_eq_zero q0
  by_cases b0 : bl = 0 <;> (repeat first | simp (disch := try exact dis1) only [evD, Nat.reduceBEq, Nat.reduceAdd, Nat.reduceLeDiff, dT, dF, fldP, zb] | with_reducible intro _ | ((with_reducible apply And.intro); omega))
  case neg => exact ⟨_, .bool _ _, congrArg AV.bool (noF (by unfold zi; omega))⟩
  by_cases b1 : lb = 0 <;> (repeat first | simp (disch := try exact dis1) only [evD, Nat.reduceBEq, Nat.reduceAdd, Nat.reduceLeDiff, dT, dF, fldP, zb] | with_reducible intro _ | ((with_reducible apply And.intro); omega))
  case neg => exact ⟨_, .bool _ _, congrArg AV.bool (noF (by unfold zi; omega))⟩
  exact ⟨_, .bool _ _, congrArg AV.bool (yesF (by unfold zi; omega)).symm⟩
theorem zu8 {kd bl lb : Int} {c : List Ex} {l : List Nd} (h : kd = 8) : zk Tryz.prog zP [.agg [.int .i64 kd, .int .i64 bl, .int .i64 lb, encL 5 encX c, encL 5 encN l]] (· = .bool (z7 kd bl lb c l.length)) := by
  refine fn_x zab rfl ?_
  unfold zZ
  have hB := hBig
  (repeat first | simp (disch := try exact dis1) only [evD, Nat.reduceBEq, Nat.reduceAdd, Nat.reduceLeDiff, dT, dF, fldP, zb] | with_reducible intro _ | ((with_reducible apply And.intro); omega))
  by_cases q0 : c.length = 0 <;> (repeat first | simp (disch := try exact dis1) only [evD, Nat.reduceBEq, Nat.reduceAdd, Nat.reduceLeDiff, dT, dF, fldP, zb] | with_reducible intro _ | ((with_reducible apply And.intro); omega))
  case neg => exact ⟨_, .bool _ _, congrArg AV.bool (noF (by unfold zi; omega))⟩
  by_cases q1 : 0 ≤ l.length <;> (repeat first | simp (disch := try exact dis1) only [evD, Nat.reduceBEq, Nat.reduceAdd, Nat.reduceLeDiff, dT, dF, fldP, zb] | with_reducible intro _ | ((with_reducible apply And.intro); omega))
  case neg => exact ⟨_, .bool _ _, congrArg AV.bool (noF (by unfold zi; omega))⟩
  by_cases q2 : l.length ≤ 0 <;> (repeat first | simp (disch := try exact dis1) only [evD, Nat.reduceBEq, Nat.reduceAdd, Nat.reduceLeDiff, dT, dF, fldP, zb] | with_reducible intro _ | ((with_reducible apply And.intro); omega))
  case neg => exact ⟨_, .bool _ _, congrArg AV.bool (noF (by unfold zi; omega))⟩
  by_cases q3 : 0 ≤ lb <;> (repeat first | simp (disch := try exact dis1) only [evD, Nat.reduceBEq, Nat.reduceAdd, Nat.reduceLeDiff, dT, dF, fldP, zb] | with_reducible intro _ | ((with_reducible apply And.intro); omega))
  case neg => exact ⟨_, .bool _ _, congrArg AV.bool (noF (by unfold zi; omega))⟩
  obtain rfl : c = [] := List.eq_nil_of_length_eq_zero q0
  by_cases b0 : bl = 0 <;> (repeat first | simp (disch := try exact dis1) only [evD, Nat.reduceBEq, Nat.reduceAdd, Nat.reduceLeDiff, dT, dF, fldP, zb] | with_reducible intro _ | ((with_reducible apply And.intro); omega))
  case neg => exact ⟨_, .bool _ _, congrArg AV.bool (noF (by unfold zi; omega))⟩
  by_cases b1 : lb = 0 <;> (repeat first | simp (disch := try exact dis1) only [evD, Nat.reduceBEq, Nat.reduceAdd, Nat.reduceLeDiff, dT, dF, fldP, zb] | with_reducible intro _ | ((with_reducible apply And.intro); omega))
  case neg => exact ⟨_, .bool _ _, congrArg AV.bool (noF (by unfold zi; omega))⟩
  exact ⟨_, .bool _ _, congrArg AV.bool (yesF (by unfold zi; omega)).symm⟩
theorem ztW {kd bl lb : Int} {c : List Ex} {l : List Nd} (h : kd = 11) : zk Tryz.prog zP [.agg [.int .i64 kd, .int .i64 bl, .int .i64 lb, encL 5 encX c, encL 5 encN l]] (· = .bool (z7 kd bl lb c l.length)) := by
  refine fn_x zab rfl ?_
  unfold zZ
  have hB := hBig
  (repeat first | simp (disch := try exact dis1) only [evD, Nat.reduceBEq, Nat.reduceAdd, Nat.reduceLeDiff, dT, dF, fldP, zb] | with_reducible intro _ | ((with_reducible apply And.intro); omega))
  by_cases q0 : c.length = 0 <;> (repeat first | simp (disch := try exact dis1) only [evD, Nat.reduceBEq, Nat.reduceAdd, Nat.reduceLeDiff, dT, dF, fldP, zb] | with_reducible intro _ | ((with_reducible apply And.intro); omega))
  case neg => exact ⟨_, .bool _ _, congrArg AV.bool (noF (by unfold zi; omega))⟩
  by_cases q1 : 0 ≤ l.length <;> (repeat first | simp (disch := try exact dis1) only [evD, Nat.reduceBEq, Nat.reduceAdd, Nat.reduceLeDiff, dT, dF, fldP, zb] | with_reducible intro _ | ((with_reducible apply And.intro); omega))
  case neg => exact ⟨_, .bool _ _, congrArg AV.bool (noF (by unfold zi; omega))⟩
  by_cases q2 : l.length ≤ 0 <;> (repeat first | simp (disch := try exact dis1) only [evD, Nat.reduceBEq, Nat.reduceAdd, Nat.reduceLeDiff, dT, dF, fldP, zb] | with_reducible intro _ | ((with_reducible apply And.intro); omega))
  case neg => exact ⟨_, .bool _ _, congrArg AV.bool (noF (by unfold zi; omega))⟩
  by_cases q3 : 0 ≤ lb <;> (repeat first | simp (disch := try exact dis1) only [evD, Nat.reduceBEq, Nat.reduceAdd, Nat.reduceLeDiff, dT, dF, fldP, zb] | with_reducible intro _ | ((with_reducible apply And.intro); omega))
  case neg => exact ⟨_, .bool _ _, congrArg AV.bool (noF (by unfold zi; omega))⟩
  obtain rfl : c = [] := List.eq_nil_of_length_eq_zero q0
  by_cases b0 : bl = 0 <;> (repeat first | simp (disch := try exact dis1) only [evD, Nat.reduceBEq, Nat.reduceAdd, Nat.reduceLeDiff, dT, dF, fldP, zb] | with_reducible intro _ | ((with_reducible apply And.intro); omega))
  case neg => exact ⟨_, .bool _ _, congrArg AV.bool (noF (by unfold zi; omega))⟩
  by_cases b1 : lb = 0 <;> (repeat first | simp (disch := try exact dis1) only [evD, Nat.reduceBEq, Nat.reduceAdd, Nat.reduceLeDiff, dT, dF, fldP, zb] | with_reducible intro _ | ((with_reducible apply And.intro); omega))
  case neg => exact ⟨_, .bool _ _, congrArg AV.bool (noF (by unfold zi; omega))⟩
  exact ⟨_, .bool _ _, congrArg AV.bool (yesF (by unfold zi; omega)).symm⟩
theorem zt9 {kd bl lb : Int} {c : List Ex} {l : List Nd} (h : kd = 12) : zk Tryz.prog zP [.agg [.int .i64 kd, .int .i64 bl, .int .i64 lb, encL 5 encX c, encL 5 encN l]] (· = .bool (z7 kd bl lb c l.length)) := by
  refine fn_x zab rfl ?_
  unfold zZ
  have hB := hBig
  (repeat first | simp (disch := try exact dis1) only [evD, Nat.reduceBEq, Nat.reduceAdd, Nat.reduceLeDiff, dT, dF, fldP, zb] | with_reducible intro _ | ((with_reducible apply And.intro); omega))
  by_cases q0 : c.length = 0 <;> (repeat first | simp (disch := try exact dis1) only [evD, Nat.reduceBEq, Nat.reduceAdd, Nat.reduceLeDiff, dT, dF, fldP, zb] | with_reducible intro _ | ((with_reducible apply And.intro); omega))
  case neg => exact ⟨_, .bool _ _, congrArg AV.bool (noF (by unfold zi; omega))⟩
  by_cases q1 : 0 ≤ l.length <;> (repeat first | simp (disch := try exact dis1) only [evD, Nat.reduceBEq, Nat.reduceAdd, Nat.reduceLeDiff, dT, dF, fldP, zb] | with_reducible intro _ | ((with_reducible apply And.intro); omega))
  case neg => exact ⟨_, .bool _ _, congrArg AV.bool (noF (by unfold zi; omega))⟩
  by_cases q2 : l.length ≤ 0 <;> (repeat first | simp (disch := try exact dis1) only [evD, Nat.reduceBEq, Nat.reduceAdd, Nat.reduceLeDiff, dT, dF, fldP, zb] | with_reducible intro _ | ((with_reducible apply And.intro); omega))
  case neg => exact ⟨_, .bool _ _, congrArg AV.bool (noF (by unfold zi; omega))⟩
  by_cases q3 : 0 ≤ lb <;> (repeat first | simp (disch := try exact dis1) only [evD, Nat.reduceBEq, Nat.reduceAdd, Nat.reduceLeDiff, dT, dF, fldP, zb] | with_reducible intro _ | ((with_reducible apply And.intro); omega))
  case neg => exact ⟨_, .bool _ _, congrArg AV.bool (noF (by unfold zi; omega))⟩
  obtain rfl : c = [] := List.eq_nil_of_length_eq_zero q0
  by_cases b0 : bl = 0 <;> (repeat first | simp (disch := try exact dis1) only [evD, Nat.reduceBEq, Nat.reduceAdd, Nat.reduceLeDiff, dT, dF, fldP, zb] | with_reducible intro _ | ((with_reducible apply And.intro); omega))
  case neg => exact ⟨_, .bool _ _, congrArg AV.bool (noF (by unfold zi; omega))⟩
  by_cases b1 : lb = 0 <;> (repeat first | simp (disch := try exact dis1) only [evD, Nat.reduceBEq, Nat.reduceAdd, Nat.reduceLeDiff, dT, dF, fldP, zb] | with_reducible intro _ | ((with_reducible apply And.intro); omega))
  case neg => exact ⟨_, .bool _ _, congrArg AV.bool (noF (by unfold zi; omega))⟩
  exact ⟨_, .bool _ _, congrArg AV.bool (yesF (by unfold zi; omega)).symm⟩
theorem zyl {kd bl lb : Int} {c : List Ex} {l : List Nd} (h : kd = 2) : zk Tryz.prog zP [.agg [.int .i64 kd, .int .i64 bl, .int .i64 lb, encL 5 encX c, encL 5 encN l]] (· = .bool (z7 kd bl lb c l.length)) := by
  refine fn_x zab rfl ?_
  unfold zZ
  have hB := hBig
  (repeat first | simp (disch := try exact dis1) only [evD, Nat.reduceBEq, Nat.reduceAdd, Nat.reduceLeDiff, dT, dF, fldP, zb] | with_reducible intro _ | ((with_reducible apply And.intro); omega))
  by_cases q0 : c.length = 0 <;> (repeat first | simp (disch := try exact dis1) only [evD, Nat.reduceBEq, Nat.reduceAdd, Nat.reduceLeDiff, dT, dF, fldP, zb] | with_reducible intro _ | ((with_reducible apply And.intro); omega))
  case neg => exact ⟨_, .bool _ _, congrArg AV.bool (noF (by unfold zi; omega))⟩
  by_cases q1 : 0 ≤ l.length <;> (repeat first | simp (disch := try exact dis1) only [evD, Nat.reduceBEq, Nat.reduceAdd, Nat.reduceLeDiff, dT, dF, fldP, zb] | with_reducible intro _ | ((with_reducible apply And.intro); omega))
  case neg => exact ⟨_, .bool _ _, congrArg AV.bool (noF (by unfold zi; omega))⟩
  by_cases q2 : l.length ≤ 0 <;> (repeat first | simp (disch := try exact dis1) only [evD, Nat.reduceBEq, Nat.reduceAdd, Nat.reduceLeDiff, dT, dF, fldP, zb] | with_reducible intro _ | ((with_reducible apply And.intro); omega))
  case neg => exact ⟨_, .bool _ _, congrArg AV.bool (noF (by unfold zi; omega))⟩
  by_cases q3 : 0 ≤ lb <;> (repeat first | simp (disch := try exact dis1) only [evD, Nat.reduceBEq, Nat.reduceAdd, Nat.reduceLeDiff, dT, dF, fldP, zb] | with_reducible intro _ | ((with_reducible apply And.intro); omega))
  case neg => exact ⟨_, .bool _ _, congrArg AV.bool (noF (by unfold zi; omega))⟩
  obtain rfl : c = [] := List.eq_nil_of_length_eq_zero q0
  by_cases b1 : lb = 0 <;> by_cases b0 : bl = 0 <;> (repeat first | simp (disch := try exact dis1) only [evD, Nat.reduceBEq, Nat.reduceAdd, Nat.reduceLeDiff, dT, dF, fldP, zb] | with_reducible intro _ | ((with_reducible apply And.intro); omega)) <;> first | exact ⟨_, .bool _ _, congrArg AV.bool (yesF (by unfold zi; omega)).symm⟩ | exact ⟨_, .bool _ _, congrArg AV.bool (noF (by unfold zi; omega))⟩
theorem zxk {kd bl lb : Int} {c : List Ex} {l : List Nd} (h : kd = 9) : zk Tryz.prog zP [.agg [.int .i64 kd, .int .i64 bl, .int .i64 lb, encL 5 encX c, encL 5 encN l]] (· = .bool (z7 kd bl lb c l.length)) := by
  refine fn_x zab rfl ?_
  unfold zZ
  have hB := hBig
  (repeat first | simp (disch := try exact dis1) only [evD, Nat.reduceBEq, Nat.reduceAdd, Nat.reduceLeDiff, dT, dF, fldP, zb] | with_reducible intro _ | ((with_reducible apply And.intro); omega))
  by_cases q0 : c.length = 0 <;> (repeat first | simp (disch := try exact dis1) only [evD, Nat.reduceBEq, Nat.reduceAdd, Nat.reduceLeDiff, dT, dF, fldP, zb] | with_reducible intro _ | ((with_reducible apply And.intro); omega))
  case neg => exact ⟨_, .bool _ _, congrArg AV.bool (noF (by unfold zi; omega))⟩
  by_cases q1 : 0 ≤ l.length <;> (repeat first | simp (disch := try exact dis1) only [evD, Nat.reduceBEq, Nat.reduceAdd, Nat.reduceLeDiff, dT, dF, fldP, zb] | with_reducible intro _ | ((with_reducible apply And.intro); omega))
  case neg => exact ⟨_, .bool _ _, congrArg AV.bool (noF (by unfold zi; omega))⟩
  by_cases q2 : l.length ≤ 0 <;> (repeat first | simp (disch := try exact dis1) only [evD, Nat.reduceBEq, Nat.reduceAdd, Nat.reduceLeDiff, dT, dF, fldP, zb] | with_reducible intro _ | ((with_reducible apply And.intro); omega))
  case neg => exact ⟨_, .bool _ _, congrArg AV.bool (noF (by unfold zi; omega))⟩
  by_cases q3 : 0 ≤ lb <;> (repeat first | simp (disch := try exact dis1) only [evD, Nat.reduceBEq, Nat.reduceAdd, Nat.reduceLeDiff, dT, dF, fldP, zb] | with_reducible intro _ | ((with_reducible apply And.intro); omega))
  case neg => exact ⟨_, .bool _ _, congrArg AV.bool (noF (by unfold zi; omega))⟩
  obtain rfl : c = [] := List.eq_nil_of_length_eq_zero q0
  by_cases b0 : bl = 0 <;> by_cases b1 : lb = 0 <;> (repeat first | simp (disch := try exact dis1) only [evD, Nat.reduceBEq, Nat.reduceAdd, Nat.reduceLeDiff, dT, dF, fldP, zb] | with_reducible intro _ | ((with_reducible apply And.intro); omega)) <;> first | exact ⟨_, .bool _ _, congrArg AV.bool (yesF (by unfold zi; omega)).symm⟩ | exact ⟨_, .bool _ _, congrArg AV.bool (noF (by unfold zi; omega))⟩
theorem zwf {kd bl lb : Int} {c : List Ex} {l : List Nd} (h : kd = 10) : zk Tryz.prog zP [.agg [.int .i64 kd, .int .i64 bl, .int .i64 lb, encL 5 encX c, encL 5 encN l]] (· = .bool (z7 kd bl lb c l.length)) := by
  refine fn_x zab rfl ?_
  unfold zZ
  have hB := hBig
  (repeat first | simp (disch := try exact dis1) only [evD, Nat.reduceBEq, Nat.reduceAdd, Nat.reduceLeDiff, dT, dF, fldP, zb] | with_reducible intro _ | ((with_reducible apply And.intro); omega))
  by_cases q0 : c.length = 0 <;> (repeat first | simp (disch := try exact dis1) only [evD, Nat.reduceBEq, Nat.reduceAdd, Nat.reduceLeDiff, dT, dF, fldP, zb] | with_reducible intro _ | ((with_reducible apply And.intro); omega))
  case neg => exact ⟨_, .bool _ _, congrArg AV.bool (noF (by unfold zi; omega))⟩
  by_cases q1 : 0 ≤ l.length <;> (repeat first | simp (disch := try exact dis1) only [evD, Nat.reduceBEq, Nat.reduceAdd, Nat.reduceLeDiff, dT, dF, fldP, zb] | with_reducible intro _ | ((with_reducible apply And.intro); omega))
  case neg => exact ⟨_, .bool _ _, congrArg AV.bool (noF (by unfold zi; omega))⟩
  by_cases q2 : l.length ≤ 0 <;> (repeat first | simp (disch := try exact dis1) only [evD, Nat.reduceBEq, Nat.reduceAdd, Nat.reduceLeDiff, dT, dF, fldP, zb] | with_reducible intro _ | ((with_reducible apply And.intro); omega))
  case neg => exact ⟨_, .bool _ _, congrArg AV.bool (noF (by unfold zi; omega))⟩
  by_cases q3 : 0 ≤ lb <;> (repeat first | simp (disch := try exact dis1) only [evD, Nat.reduceBEq, Nat.reduceAdd, Nat.reduceLeDiff, dT, dF, fldP, zb] | with_reducible intro _ | ((with_reducible apply And.intro); omega))
  case neg => exact ⟨_, .bool _ _, congrArg AV.bool (noF (by unfold zi; omega))⟩
  obtain rfl : c = [] := List.eq_nil_of_length_eq_zero q0
  by_cases b0 : bl = 0 <;> by_cases b1 : lb = 0 <;> (repeat first | simp (disch := try exact dis1) only [evD, Nat.reduceBEq, Nat.reduceAdd, Nat.reduceLeDiff, dT, dF, fldP, zb] | with_reducible intro _ | ((with_reducible apply And.intro); omega)) <;> first | exact ⟨_, .bool _ _, congrArg AV.bool (yesF (by unfold zi; omega)).symm⟩ | exact ⟨_, .bool _ _, congrArg AV.bool (noF (by unfold zi; omega))⟩
theorem zxt {kd bl lb : Int} {c : List Ex} {l : List Nd} (h : kd = 1) : zk Tryz.prog zP [.agg [.int .i64 kd, .int .i64 bl, .int .i64 lb, encL 5 encX c, encL 5 encN l]] (· = .bool (z7 kd bl lb c l.length)) := by
  refine fn_x zab rfl ?_
  unfold zZ
  have hB := hBig
  (repeat first | simp (disch := try exact dis1) only [evD, Nat.reduceBEq, Nat.reduceAdd, Nat.reduceLeDiff, dT, dF, fldP, zb] | with_reducible intro _ | ((with_reducible apply And.intro); omega))
  by_cases q0 : c.length = 0 <;> (repeat first | simp (disch := try exact dis1) only [evD, Nat.reduceBEq, Nat.reduceAdd, Nat.reduceLeDiff, dT, dF, fldP, zb] | with_reducible intro _ | ((with_reducible apply And.intro); omega))
  case neg => exact ⟨_, .bool _ _, congrArg AV.bool (noF (by unfold zi; omega))⟩
  by_cases q1 : 0 ≤ lb <;> (repeat first | simp (disch := try exact dis1) only [evD, Nat.reduceBEq, Nat.reduceAdd, Nat.reduceLeDiff, dT, dF, fldP, zb] | with_reducible intro _ | ((with_reducible apply And.intro); omega))
  case neg => exact ⟨_, .bool _ _, congrArg AV.bool (noF (by unfold zi; omega))⟩
  obtain rfl : c = [] := List.eq_nil_of_length_eq_zero q0
  by_cases b0 : bl = 0 <;> (repeat first | simp (disch := try exact dis1) only [evD, Nat.reduceBEq, Nat.reduceAdd, Nat.reduceLeDiff, dT, dF, fldP, zb] | with_reducible intro _ | ((with_reducible apply And.intro); omega))
  case neg => exact ⟨_, .bool _ _, congrArg AV.bool (noF (by unfold zi; omega))⟩
  by_cases b1 : lb = 0 <;> (repeat first | simp (disch := try exact dis1) only [evD, Nat.reduceBEq, Nat.reduceAdd, Nat.reduceLeDiff, dT, dF, fldP, zb] | with_reducible intro _ | ((with_reducible apply And.intro); omega))
  case neg => exact ⟨_, .bool _ _, congrArg AV.bool (noF (by unfold zi; omega))⟩
  exact ⟨_, .bool _ _, congrArg AV.bool (yesF (by unfold zi; omega)).symm⟩
theorem zyr {kd bl lb : Int} {c : List Ex} {l : List Nd} (h : kd = 4) : zk Tryz.prog zP [.agg [.int .i64 kd, .int .i64 bl, .int .i64 lb, encL 5 encX c, encL 5 encN l]] (· = .bool (z7 kd bl lb c l.length)) := by
  refine fn_x zab rfl ?_
  unfold zZ
  have hB := hBig
  (repeat first | simp (disch := try exact dis1) only [evD, Nat.reduceBEq, Nat.reduceAdd, Nat.reduceLeDiff, dT, dF, fldP, zb] | with_reducible intro _ | ((with_reducible apply And.intro); omega))
  by_cases q0 : c.length = 0 <;> (repeat first | simp (disch := try exact dis1) only [evD, Nat.reduceBEq, Nat.reduceAdd, Nat.reduceLeDiff, dT, dF, fldP, zb] | with_reducible intro _ | ((with_reducible apply And.intro); omega))
  case neg => exact ⟨_, .bool _ _, congrArg AV.bool (noF (by unfold zi; omega))⟩
  by_cases q1 : 1 ≤ l.length <;> (repeat first | simp (disch := try exact dis1) only [evD, Nat.reduceBEq, Nat.reduceAdd, Nat.reduceLeDiff, dT, dF, fldP, zb] | with_reducible intro _ | ((with_reducible apply And.intro); omega))
  case neg => exact ⟨_, .bool _ _, congrArg AV.bool (noF (by unfold zi; omega))⟩
  by_cases q2 : l.length ≤ 1 <;> (repeat first | simp (disch := try exact dis1) only [evD, Nat.reduceBEq, Nat.reduceAdd, Nat.reduceLeDiff, dT, dF, fldP, zb] | with_reducible intro _ | ((with_reducible apply And.intro); omega))
  case neg => exact ⟨_, .bool _ _, congrArg AV.bool (noF (by unfold zi; omega))⟩
  by_cases q3 : 0 ≤ lb <;> (repeat first | simp (disch := try exact dis1) only [evD, Nat.reduceBEq, Nat.reduceAdd, Nat.reduceLeDiff, dT, dF, fldP, zb] | with_reducible intro _ | ((with_reducible apply And.intro); omega))
  case neg => exact ⟨_, .bool _ _, congrArg AV.bool (noF (by unfold zi; omega))⟩
  obtain rfl : c = [] := List.eq_nil_of_length_eq_zero q0
  by_cases b0 : bl = 0 <;> (repeat first | simp (disch := try exact dis1) only [evD, Nat.reduceBEq, Nat.reduceAdd, Nat.reduceLeDiff, dT, dF, fldP, zb] | with_reducible intro _ | ((with_reducible apply And.intro); omega))
  case neg => exact ⟨_, .bool _ _, congrArg AV.bool (noF (by unfold zi; omega))⟩
  by_cases b1 : lb = 0 <;> (repeat first | simp (disch := try exact dis1) only [evD, Nat.reduceBEq, Nat.reduceAdd, Nat.reduceLeDiff, dT, dF, fldP, zb] | with_reducible intro _ | ((with_reducible apply And.intro); omega))
  case neg => exact ⟨_, .bool _ _, congrArg AV.bool (noF (by unfold zi; omega))⟩
  exact ⟨_, .bool _ _, congrArg AV.bool (yesF (by unfold zi; omega)).symm⟩
theorem zyx {kd bl lb : Int} {c : List Ex} {l : List Nd} (h : kd = 3) : zk Tryz.prog zP [.agg [.int .i64 kd, .int .i64 bl, .int .i64 lb, encL 5 encX c, encL 5 encN l]] (· = .bool (z7 kd bl lb c l.length)) := by
  refine fn_x zab rfl ?_
  unfold zZ
  have hB := hBig
  (repeat first | simp (disch := try exact dis1) only [evD, Nat.reduceBEq, Nat.reduceAdd, Nat.reduceLeDiff, dT, dF, fldP, zb] | with_reducible intro _ | ((with_reducible apply And.intro); omega))
  by_cases q0 : c.length = 1
  case neg =>
    (repeat first | simp (disch := try exact dis1) only [evD, Nat.reduceBEq, Nat.reduceAdd, Nat.reduceLeDiff, dT, dF, fldP, zb] | with_reducible intro _ | ((with_reducible apply And.intro); omega))
    exact ⟨_, .bool _ _, congrArg AV.bool (noF (by unfold zi; omega))⟩
  obtain ⟨e, rfl⟩ : ∃ e, c = [e] := List.length_eq_one_iff.1 q0
  (repeat first | simp (disch := try exact dis1) only [evD, Nat.reduceBEq, Nat.reduceAdd, Nat.reduceLeDiff, dT, dF, fldP, zb] | with_reducible intro _ | ((with_reducible apply And.intro); omega))
  by_cases q1 : 2 ≤ l.length <;> (repeat first | simp (disch := try exact dis1) only [evD, Nat.reduceBEq, Nat.reduceAdd, Nat.reduceLeDiff, dT, dF, fldP, zb] | with_reducible intro _ | ((with_reducible apply And.intro); omega))
  case neg => exact ⟨_, .bool _ _, congrArg AV.bool (noF (by unfold zi; omega))⟩
  by_cases q2 : l.length ≤ 2 <;> (repeat first | simp (disch := try exact dis1) only [evD, Nat.reduceBEq, Nat.reduceAdd, Nat.reduceLeDiff, dT, dF, fldP, zb] | with_reducible intro _ | ((with_reducible apply And.intro); omega))
  case neg => exact ⟨_, .bool _ _, congrArg AV.bool (noF (by unfold zi; omega))⟩
  by_cases q3 : 0 ≤ lb <;> (repeat first | simp (disch := try exact dis1) only [evD, Nat.reduceBEq, Nat.reduceAdd, Nat.reduceLeDiff, dT, dF, fldP, zb] | with_reducible intro _ | ((with_reducible apply And.intro); omega))
  case neg => exact ⟨_, .bool _ _, congrArg AV.bool (noF (by unfold zi; omega))⟩
  (repeat first | simp (disch := try exact dis1) only [evD, Nat.reduceBEq, Nat.reduceAdd, Nat.reduceLeDiff, hgX, za1, zar, zb] | with_reducible intro _ | ((with_reducible apply And.intro); omega))
  refine ze (zh (zc1 e) (flX rfl)) ?_
  by_cases hx : ze1 e = 0 <;> (repeat first | simp (disch := try exact dis1) only [evD, Nat.reduceBEq, Nat.reduceAdd, Nat.reduceLeDiff, dT, dF, fldP, zb] | with_reducible intro _ | ((with_reducible apply And.intro); omega))
  case neg => exact ⟨_, .bool _ _, congrArg AV.bool (noX hx).symm⟩
  by_cases b0 : bl = 0 <;> (repeat first | simp (disch := try exact dis1) only [evD, Nat.reduceBEq, Nat.reduceAdd, Nat.reduceLeDiff, dT, dF, fldP, zb] | with_reducible intro _ | ((with_reducible apply And.intro); omega))
  case neg => exact ⟨_, .bool _ _, congrArg AV.bool (noF (by unfold zi; omega))⟩
  by_cases b1 : lb = 0 <;> (repeat first | simp (disch := try exact dis1) only [evD, Nat.reduceBEq, Nat.reduceAdd, Nat.reduceLeDiff, dT, dF, fldP, zb] | with_reducible intro _ | ((with_reducible apply And.intro); omega))
  case neg => exact ⟨_, .bool _ _, congrArg AV.bool (noF (by unfold zi; omega))⟩
  exact ⟨_, .bool _ _, congrArg AV.bool ((yesX (by unfold zi; omega)).trans (dT hx)).symm⟩
theorem zyt {kd bl lb : Int} {c : List Ex} {l : List Nd} (h : kd = 5) : zk Tryz.prog zP [.agg [.int .i64 kd, .int .i64 bl, .int .i64 lb, encL 5 encX c, encL 5 encN l]] (· = .bool (z7 kd bl lb c l.length)) := by
  refine fn_x zab rfl ?_
  unfold zZ
  have hB := hBig
  (repeat first | simp (disch := try exact dis1) only [evD, Nat.reduceBEq, Nat.reduceAdd, Nat.reduceLeDiff, dT, dF, fldP, zb] | with_reducible intro _ | ((with_reducible apply And.intro); omega))
  by_cases q0 : c.length = 1
  case neg =>
    (repeat first | simp (disch := try exact dis1) only [evD, Nat.reduceBEq, Nat.reduceAdd, Nat.reduceLeDiff, dT, dF, fldP, zb] | with_reducible intro _ | ((with_reducible apply And.intro); omega))
    exact ⟨_, .bool _ _, congrArg AV.bool (noF (by unfold zi; omega))⟩
  obtain ⟨e, rfl⟩ : ∃ e, c = [e] := List.length_eq_one_iff.1 q0
  (repeat first | simp (disch := try exact dis1) only [evD, Nat.reduceBEq, Nat.reduceAdd, Nat.reduceLeDiff, dT, dF, fldP, zb] | with_reducible intro _ | ((with_reducible apply And.intro); omega))
  by_cases q1 : 1 ≤ l.length <;> (repeat first | simp (disch := try exact dis1) only [evD, Nat.reduceBEq, Nat.reduceAdd, Nat.reduceLeDiff, dT, dF, fldP, zb] | with_reducible intro _ | ((with_reducible apply And.intro); omega))
  case neg => exact ⟨_, .bool _ _, congrArg AV.bool (noF (by unfold zi; omega))⟩
  by_cases q2 : l.length ≤ 1 <;> (repeat first | simp (disch := try exact dis1) only [evD, Nat.reduceBEq, Nat.reduceAdd, Nat.reduceLeDiff, dT, dF, fldP, zb] | with_reducible intro _ | ((with_reducible apply And.intro); omega))
  case neg => exact ⟨_, .bool _ _, congrArg AV.bool (noF (by unfold zi; omega))⟩
  by_cases q3 : 0 ≤ lb <;> (repeat first | simp (disch := try exact dis1) only [evD, Nat.reduceBEq, Nat.reduceAdd, Nat.reduceLeDiff, dT, dF, fldP, zb] | with_reducible intro _ | ((with_reducible apply And.intro); omega))
  case neg => exact ⟨_, .bool _ _, congrArg AV.bool (noF (by unfold zi; omega))⟩
  (repeat first | simp (disch := try exact dis1) only [evD, Nat.reduceBEq, Nat.reduceAdd, Nat.reduceLeDiff, hgX, za1, zar, zb] | with_reducible intro _ | ((with_reducible apply And.intro); omega))
  refine ze (zh (zc1 e) (flX rfl)) ?_
  by_cases hx : ze1 e = 0 <;> (repeat first | simp (disch := try exact dis1) only [evD, Nat.reduceBEq, Nat.reduceAdd, Nat.reduceLeDiff, dT, dF, fldP, zb] | with_reducible intro _ | ((with_reducible apply And.intro); omega))
  case neg => exact ⟨_, .bool _ _, congrArg AV.bool (noX hx).symm⟩
  by_cases b1 : lb = 0 <;> by_cases b0 : bl = 0 <;> (repeat first | simp (disch := try exact dis1) only [evD, Nat.reduceBEq, Nat.reduceAdd, Nat.reduceLeDiff, dT, dF, fldP, zb] | with_reducible intro _ | ((with_reducible apply And.intro); omega)) <;> first | exact ⟨_, .bool _ _, congrArg AV.bool ((yesX (by unfold zi; omega)).trans (dT hx)).symm⟩ | exact ⟨_, .bool _ _, congrArg AV.bool (noF (by unfold zi; omega))⟩
theorem zyR {kd bl lb : Int} {c : List Ex} {l : List Nd} (h : kd = 6) : zk Tryz.prog zP [.agg [.int .i64 kd, .int .i64 bl, .int .i64 lb, encL 5 encX c, encL 5 encN l]] (· = .bool (z7 kd bl lb c l.length)) := by
  refine fn_x zab rfl ?_
  unfold zZ
  have hB := hBig
  (repeat first | simp (disch := try exact dis1) only [evD, Nat.reduceBEq, Nat.reduceAdd, Nat.reduceLeDiff, dT, dF, fldP, zb] | with_reducible intro _ | ((with_reducible apply And.intro); omega))
  by_cases q0 : c.length = 1
  case neg =>
    (repeat first | simp (disch := try exact dis1) only [evD, Nat.reduceBEq, Nat.reduceAdd, Nat.reduceLeDiff, dT, dF, fldP, zb] | with_reducible intro _ | ((with_reducible apply And.intro); omega))
    exact ⟨_, .bool _ _, congrArg AV.bool (noF (by unfold zi; omega))⟩
  obtain ⟨e, rfl⟩ : ∃ e, c = [e] := List.length_eq_one_iff.1 q0
  (repeat first | simp (disch := try exact dis1) only [evD, Nat.reduceBEq, Nat.reduceAdd, Nat.reduceLeDiff, dT, dF, fldP, zb] | with_reducible intro _ | ((with_reducible apply And.intro); omega))
  by_cases q1 : 1 ≤ l.length <;> (repeat first | simp (disch := try exact dis1) only [evD, Nat.reduceBEq, Nat.reduceAdd, Nat.reduceLeDiff, dT, dF, fldP, zb] | with_reducible intro _ | ((with_reducible apply And.intro); omega))
  case neg => exact ⟨_, .bool _ _, congrArg AV.bool (noF (by unfold zi; omega))⟩
  by_cases q2 : l.length ≤ 64 <;> (repeat first | simp (disch := try exact dis1) only [evD, Nat.reduceBEq, Nat.reduceAdd, Nat.reduceLeDiff, dT, dF, fldP, zb] | with_reducible intro _ | ((with_reducible apply And.intro); omega))
  case neg => exact ⟨_, .bool _ _, congrArg AV.bool (noF (by unfold zi; omega))⟩
  by_cases q3 : 0 ≤ lb <;> (repeat first | simp (disch := try exact dis1) only [evD, Nat.reduceBEq, Nat.reduceAdd, Nat.reduceLeDiff, dT, dF, fldP, zb] | with_reducible intro _ | ((with_reducible apply And.intro); omega))
  case neg => exact ⟨_, .bool _ _, congrArg AV.bool (noF (by unfold zi; omega))⟩
  (repeat first | simp (disch := try exact dis1) only [evD, Nat.reduceBEq, Nat.reduceAdd, Nat.reduceLeDiff, hgX, za1, zar, zb] | with_reducible intro _ | ((with_reducible apply And.intro); omega))
  refine ze (zh (zc1 e) (flX rfl)) ?_
  by_cases hx : ze1 e = 0 <;> (repeat first | simp (disch := try exact dis1) only [evD, Nat.reduceBEq, Nat.reduceAdd, Nat.reduceLeDiff, dT, dF, fldP, zb] | with_reducible intro _ | ((with_reducible apply And.intro); omega))
  case neg => exact ⟨_, .bool _ _, congrArg AV.bool (noX hx).symm⟩
  by_cases b0 : bl = 0 <;> (repeat first | simp (disch := try exact dis1) only [evD, Nat.reduceBEq, Nat.reduceAdd, Nat.reduceLeDiff, dT, dF, fldP, zb] | with_reducible intro _ | ((with_reducible apply And.intro); omega))
  case neg => exact ⟨_, .bool _ _, congrArg AV.bool (noF (by unfold zi; omega))⟩
  by_cases b1 : lb = 0 <;> (repeat first | simp (disch := try exact dis1) only [evD, Nat.reduceBEq, Nat.reduceAdd, Nat.reduceLeDiff, dT, dF, fldP, zb] | with_reducible intro _ | ((with_reducible apply And.intro); omega))
  case neg => exact ⟨_, .bool _ _, congrArg AV.bool (noF (by unfold zi; omega))⟩
  exact ⟨_, .bool _ _, congrArg AV.bool ((yesX (by unfold zi; omega)).trans (dT hx)).symm⟩
theorem zwU {kd bl lb : Int} {c : List Ex} {l : List Nd} (h : kd < 1) : zk Tryz.prog zP [.agg [.int .i64 kd, .int .i64 bl, .int .i64 lb, encL 5 encX c, encL 5 encN l]] (· = .bool (z7 kd bl lb c l.length)) := by
  refine fn_x zab rfl ?_
  unfold zZ
  have hB := hBig
  (repeat first | simp (disch := try exact dis1) only [evD, Nat.reduceBEq, Nat.reduceAdd, Nat.reduceLeDiff, dT, dF, fldP, zb] | with_reducible intro _ | ((with_reducible apply And.intro); omega))
  exact ⟨_, .bool _ _, congrArg AV.bool (noF (by unfold zi; omega))⟩
theorem zvz {kd bl lb : Int} {c : List Ex} {l : List Nd} (h : 12 < kd) : zk Tryz.prog zP [.agg [.int .i64 kd, .int .i64 bl, .int .i64 lb, encL 5 encX c, encL 5 encN l]] (· = .bool (z7 kd bl lb c l.length)) := by
  refine fn_x zab rfl ?_
  unfold zZ
  have hB := hBig
  (repeat first | simp (disch := try exact dis1) only [evD, Nat.reduceBEq, Nat.reduceAdd, Nat.reduceLeDiff, dT, dF, fldP, zb] | with_reducible intro _ | ((with_reducible apply And.intro); omega))
  exact ⟨_, .bool _ _, congrArg AV.bool (noF (by unfold zi; omega))⟩
theorem zjH (kd bl lb : Int) (c : List Ex) (l : List Nd) : zk Tryz.prog zC [.agg [.int .i64 kd, .int .i64 bl, .int .i64 lb, encL 5 encX c, encL 5 encN l]] (· = .bool (z7 kd bl lb c l.length)) := by
  rcases Int.lt_or_le kd 1 with h | h
  · exact zwP h
  rcases Int.lt_or_le 12 kd with h2 | h2
  · exact zuY h2
  by_cases ha : kd = 7 ∨ kd = 8 ∨ kd = 11 ∨ kd = 12
  · exact zyY ha
  by_cases hb : kd = 2
  · exact zyW hb
  by_cases hc : kd = 9
  · exact zyi hc
  by_cases hc2 : kd = 10
  · exact zwJ hc2
  by_cases hd : kd = 1
  · exact zyL hd
  by_cases he : kd = 4
  · exact zyM he
  by_cases hf : kd = 3
  · exact zxU hf
  by_cases hg : kd = 5
  · exact zxQ hg
  exact zxL (by omega)
theorem zpj (kd bl lb : Int) (c : List Ex) (l : List Nd) : zk Tryz.prog zP [.agg [.int .i64 kd, .int .i64 bl, .int .i64 lb, encL 5 encX c, encL 5 encN l]] (· = .bool (z7 kd bl lb c l.length)) := by
  rcases Int.lt_or_le kd 1 with h | h
  · exact zwU h
  rcases Int.lt_or_le 12 kd with h2 | h2
  · exact zvz h2
  by_cases ha7 : kd = 7
  · exact zvm ha7
  by_cases ha8 : kd = 8
  · exact zu8 ha8
  by_cases ha11 : kd = 11
  · exact ztW ha11
  by_cases ha12 : kd = 12
  · exact zt9 ha12
  by_cases hb : kd = 2
  · exact zyl hb
  by_cases hc : kd = 9
  · exact zxk hc
  by_cases hc2 : kd = 10
  · exact zwf hc2
  by_cases hd : kd = 1
  · exact zxt hd
  by_cases he : kd = 4
  · exact zyr he
  by_cases hf : kd = 3
  · exact zyx hf
  by_cases hg : kd = 5
  · exact zyt hg
  exact zyR (by omega)
def zij : ACode := .seq (.seq (.region [ (oN 18 (.mov (.t 5))), (oN 19 (.bin .geq (.t 18) (.c (.int .i64 0))))] [18]) (.cond (.t 19) (.skip) (.exit 0))) (.seq (.block 1 (.region [ (oN 22 (.mov (.t 3))), (oN 23 (.mov (.t 4))), (oN 24 (.mov (.t 5))), (oN 25 (.idx 1 (.t 23) (.t 24))), (oN 26 (.load false 1 (.t 25))), (oN 27 (.buildSl 1 1 [.int .i64 0] [(0, (.t 26))])), (oN 28 (.append 1 8 (.t 22) (.t 27))), (oN 3 (.mov (.t 28)))] [19, 22, 23, 24, 25, 26, 27, 28])) (.region [ (oN 20 (.mov (.t 5))), (oN 21 (.bin .sub (.t 20) (.c (.int .i64 1)))), (oN 5 (.mov (.t 21)))] [20, 21]))
def ziD : ACode := .seq (.region [ (oN 29 (.mov (.t 3))), (oN 2 (.mov (.t 29)))] [3, 4, 5, 29]) (.ret)
def zlH : ACode := .seq (.region [ (oN 1 (.rbox (.t 0))), (oN 2 (.mknil 1))] [0, 2]) (.seq (.region [ (oN 3 (.mknil 1))] []) (.seq (.seq (.region [ (oN 6 (.fldaddr 1 1 (.t 1))), (oN 7 (.load false 1 (.t 6))), (oN 8 (.len (.t 7))), (oN 9 (.bin .eql (.t 8) (.c (.int .i64 0))))] [6, 7, 8]) (.cond (.t 9) (.seq (.region [ (oN 10 (.mov (.t 3))), (oN 2 (.mov (.t 10)))] [1, 3, 9, 10]) (.ret)) (.skip))) (.seq (.region [ (oN 11 (.load true 2 (.t 1))), (oN 12 (.build [.nilsl, .nilsl] [])), (oN 13 (.call zfy [(.t 11), (.c (.int .i64 0)), (.t 12)])), (oN 14 (.fld 1 1 false (.t 13))), (oN 4 (.mov (.t 14)))] [1, 2, 9, 11, 12, 13, 14]) (.seq (.seq (.region [ (oN 15 (.mov (.t 4))), (oN 16 (.len (.t 15))), (oN 17 (.bin .sub (.t 16) (.c (.int .i64 1)))), (oN 5 (.mov (.t 17)))] [15, 16, 17]) (.block 0 (.loop zij))) (ziD)))))
def zio : List ARet := [.tmp 2]
theorem zqH : zT Tryz.prog zg7 (qRo [1]) = some (zlH.strip, zio, 30) := by kernel_rfl
def ziq : ACode := .seq (.seq (.region [ (oN 14 (.mov (.t 7))), (oN 15 (.mov (.t 6))), (oN 16 (.len (.t 15))), (oN 17 (.bin .lss (.t 14) (.t 16)))] [14, 15, 16]) (.cond (.t 17) (.skip) (.exit 0))) (.seq (.block 1 (.seq (.draw ( .step (oN 20 (.mov (.t 6))) ( .step (oN 21 (.mov (.t 7))) ( .step (oN 22 (.idx 1 (.t 20) (.t 21))) ( .step (oN 23 (.load false 1 (.t 22))) ( .step (oN 24 (.bin .geq (.t 23) (.c (.int .i64 0)))) ( .step (oN 25 (.mov (.t 24))) ( .step (oG 26 25 true (.mov (.t 6))) ( .step (oG 27 25 true (.mov (.t 7))) ( .step (oG 28 25 true (.idx 1 (.t 26) (.t 27))) ( .step (oG 29 25 true (.load false 1 (.t 28))) ( .step (oG 30 25 true (.fldaddr 1 1 (.t 2))) ( .step (oG 31 25 true (.load false 1 (.t 30))) ( .step (oG 32 25 true (.len (.t 31))) ( .step (oG 33 25 true (.bin .lss (.t 29) (.t 32))) ( .step (oN 34 (.pick (.t 25) (.t 33) (.c (.bool false)))) ( .done)))))))))))))))) [17, 20, 21, 22, 23, 24, 25, 26, 27, 28, 29, 30, 31, 32, 33]) (.cond (.t 34) (.region [ (oN 35 (.mov (.t 5))), (oN 36 (.mov (.t 6))), (oN 37 (.mov (.t 7))), (oN 38 (.idx 1 (.t 36) (.t 37))), (oN 39 (.load false 1 (.t 38))), (oN 40 (.buildSl 1 1 [.int .i64 0] [(0, (.t 39))])), (oN 41 (.append 1 8 (.t 35) (.t 40))), (oN 5 (.mov (.t 41)))] [34, 35, 36, 37, 38, 39, 40, 41]) (.skip)))) (.region [ (oN 18 (.mov (.t 7))), (oN 19 (.bin .add (.t 18) (.c (.int .i64 1)))), (oN 7 (.mov (.t 19)))] [18, 19, 34]))
def zh9 : ACode := .seq (.region [ (oN 42 (.mov (.t 5))), (oN 4 (.mov (.t 42)))] [2, 5, 6, 7, 42]) (.ret)
def zlF : ACode := .seq (.region [ (oN 2 (.rbox (.t 0))), (oN 4 (.mknil 1))] [0, 4]) (.seq (.region [ (oN 5 (.mknil 1))] []) (.seq (.region [ (oN 8 (.fldaddr 1 1 (.t 2))), (oN 9 (.load false 1 (.t 8))), (oN 10 (.mov (.t 1))), (oN 11 (.idx 2 (.t 9) (.t 10))), (oN 12 (.load true 2 (.t 11))), (oN 13 (.call ze7 [(.t 12)])), (oN 6 (.mov (.t 13)))] [1, 8, 9, 10, 11, 12, 13]) (.seq (.seq (.region [ (oN 7 (.mov (.c (.int .i64 0))))] []) (.block 0 (.loop ziq))) (zh9))))
def zlY : List ARet := [.tmp 4]
theorem zq3 : zT Tryz.prog zgZ (qRo [2]) = some (zlF.strip, zlY, 43) := by kernel_rfl
def zh3 : ACode := .seq (.seq (.region [ (oN 18 (.mov (.t 8))), (oN 19 (.mov (.t 7))), (oN 20 (.len (.t 19))), (oN 21 (.bin .lss (.t 18) (.t 20)))] [18, 19, 20]) (.cond (.t 21) (.skip) (.exit 0))) (.seq (.block 1 (.seq (.draw ( .step (oN 24 (.fldaddr 0 1 (.t 5))) ( .step (oN 25 (.load false 1 (.t 24))) ( .step (oN 26 (.mov (.t 7))) ( .step (oN 27 (.mov (.t 8))) ( .step (oN 28 (.idx 1 (.t 26) (.t 27))) ( .step (oN 29 (.load false 1 (.t 28))) ( .step (oN 30 (.callq zck [(.t 25), (.t 29)])) ( .step (oN 31 (.un .not (.t 30))) ( .done))))))))) [21, 24, 25, 26, 27, 28, 29, 30]) (.cond (.t 31) (.draw ( .step (oN 32 (.load true 2 (.t 3))) ( .step (oN 33 (.mov (.t 7))) ( .step (oN 34 (.mov (.t 8))) ( .step (oN 37 (.load true 2 (.t 5))) ( .alt (oN 35 (.idx 1 (.t 33) (.t 34))) ( .step (oN 36 (.load false 1 (.t 35))) ( .alt (oN 38 (.call zfy [(.t 32), (.t 36), (.t 37)])) ( .alt ⟨none, .store 2 (.t 5) (.t 38), none⟩ ( .done) ( .stop)) ( .stop))) ( .stop)))))) [31, 32, 33, 34, 35, 36, 37, 38]) (.skip)))) (.region [ (oN 22 (.mov (.t 8))), (oN 23 (.bin .add (.t 22) (.c (.int .i64 1)))), (oN 8 (.mov (.t 23)))] [22, 23, 31]))
def zim : ACode := .seq (.region [ (oN 39 (.fldaddr 1 1 (.t 5))), (oN 40 (.load false 1 (.t 39))), (oN 41 (.mov (.t 1))), (oN 42 (.buildSl 1 1 [.int .i64 0] [(0, (.t 41))])), (oN 43 (.append 1 8 (.t 40) (.t 42))), (oN 44 (.fldaddr 1 1 (.t 5))), ⟨none, .store 1 (.t 44) (.t 43), none⟩] [1, 3, 7, 8, 39, 40, 41, 42, 43, 44]) (.seq (.region [ (oN 45 (.load true 2 (.t 5))), ⟨none, .store 2 (.t 6) (.t 45), none⟩] [5, 45]) (.ret))
def zly : ACode := .seq (.region [ (oN 3 (.rbox (.t 0))), (oN 5 (.box (.t 2))), (oN 6 (.alloc [.nilsl, .nilsl]))] [0, 2]) (.seq (.region [ (oN 9 (.fldaddr 0 1 (.t 5))), (oN 10 (.load false 1 (.t 9))), (oN 11 (.mov (.t 1))), (oN 12 (.buildSl 1 1 [.int .i64 0] [(0, (.t 11))])), (oN 13 (.append 1 8 (.t 10) (.t 12))), (oN 14 (.fldaddr 0 1 (.t 5))), ⟨none, .store 1 (.t 14) (.t 13), none⟩] [9, 10, 11, 12, 13, 14]) (.seq (.region [ (oN 15 (.load true 2 (.t 3))), (oN 16 (.mov (.t 1))), (oN 17 (.call zgZ [(.t 15), (.t 16)])), (oN 7 (.mov (.t 17)))] [15, 16, 17]) (.seq (.seq (.region [ (oN 8 (.mov (.c (.int .i64 0))))] []) (.block 0 (.loop zh3))) (zim))))
def zll : List ARet := [.cell 6 true 2]
theorem zpy : zT Tryz.prog zfy (qRoL [3] [(7, [0, 1, 2, 3, 4, 5, 7, 8, 9, 10, 11, 12, 13, 14, 15, 16, 17, 18, 19, 20, 21, 22, 23, 24, 25, 26, 27, 28, 29, 30, 31, 32, 33, 34, 35, 36, 37, 38, 39, 40, 41, 42, 43, 44, 45, 46, 47, 48, 49, 50, 51, 52, 53, 54, 55, 56, 57, 58, 59, 60, 61, 62, 63, 64, 65, 66, 67, 68, 69, 70, 71, 72, 73, 74, 75, 76, 77, 78, 79, 80, 81, 82, 83, 84, 85, 86, 87, 88, 89, 90, 91, 92, 93, 94, 95, 96, 97, 98, 99, 100, 101, 102, 103, 104, 105, 106, 107, 108, 109, 110, 111, 112, 113, 114, 115, 116, 117, 118, 119, 120, 121, 122, 123, 124, 125, 126, 127, 128, 129, 130, 131, 132, 133, 134, 135, 136, 137, 138, 139, 140, 141, 142, 143, 144, 145, 146, 147, 148, 149])]) = some (zly.strip, zll, 46) := by kernel_rfl
def zjD : ACode := .seq (.region [ (oN 1 (.rbox (.t 0))), (oN 2 (.mknil 1))] [0, 2]) (.seq (.seq (.region [ (oN 4 (.fldaddr 1 1 (.t 1))), (oN 5 (.load false 1 (.t 4))), (oN 6 (.len (.t 5))), (oN 7 (.bin .eql (.t 6) (.c (.int .i64 0))))] [4, 5, 6]) (.cond (.t 7) (.seq (.region [ (oN 2 (.mknil 1))] [1, 7]) (.ret)) (.skip))) (.seq (.region [ (oN 8 (.fldaddr 1 1 (.t 1))), (oN 9 (.load false 1 (.t 8))), (oN 10 (.fldaddr 1 1 (.t 1))), (oN 11 (.load false 1 (.t 10))), (oN 12 (.len (.t 11))), (oN 13 (.bin .sub (.t 12) (.c (.int .i64 1)))), (oN 14 (.idx 8 (.t 9) (.t 13))), (oN 15 (.load true 8 (.t 14))), (oN 3 (.alloc [.int .i64 0, .int .i64 0, .int .i64 0, .int .i64 0, .int .i64 0, .int .u32 0, .nilsl, .nilsl])), ⟨none, .store 8 (.t 3) (.t 15), none⟩] [1, 2, 7, 8, 9, 10, 11, 12, 13, 14, 15]) (.seq (.seq (.region [ (oN 16 (.fldaddr 0 1 (.t 3))), (oN 17 (.load false 1 (.t 16)))] [16]) (.block 0 (.seq (.region [ (oN 19 (.bin .eql (.t 17) (.c (.int .i64 6)))), (oN 18 (.mov (.t 19)))] [19]) (.cond (.t 18) (.seq (.region [ (oN 20 (.fldaddr 3 1 (.t 3))), (oN 21 (.load false 1 (.t 20))), (oN 22 (.buildSl 1 1 [.int .i64 0] [(0, (.t 21))])), (oN 2 (.mov (.t 22)))] [3, 17, 18, 20, 21, 22]) (.ret)) (.seq (.region [ (oN 24 (.bin .eql (.t 17) (.c (.int .i64 7)))), (oN 23 (.mov (.t 24)))] [18, 24]) (.cond (.t 23) (.seq (.region [ (oN 25 (.fldaddr 3 1 (.t 3))), (oN 26 (.load false 1 (.t 25))), (oN 27 (.fldaddr 4 1 (.t 3))), (oN 28 (.load false 1 (.t 27))), (oN 29 (.buildSl 1 2 [.int .i64 0] [(0, (.t 26)), (1, (.t 28))])), (oN 2 (.mov (.t 29)))] [3, 17, 23, 25, 26, 27, 28, 29]) (.ret)) (.seq (.region [ (oN 31 (.bin .eql (.t 17) (.c (.int .i64 8)))), (oN 30 (.mov (.t 31)))] [17, 23, 31]) (.cond (.t 30) (.seq (.region [ (oN 32 (.fldaddr 7 1 (.t 3))), (oN 33 (.load false 1 (.t 32))), (oN 2 (.mov (.t 33)))] [3, 30, 32, 33]) (.ret)) (.skip))))))))) (.seq (.region [ (oN 2 (.mknil 1))] [3, 30]) (.ret)))))
def zbZ : List ARet := [.tmp 2]
theorem znP : zT Tryz.prog ze7 (qRo [1]) = some (zjD.strip, zbZ, 34) := by kernel_rfl
def zfY : ACode := .seq (.region [ (oN 1 (.rbox (.t 0))), (oN 2 (.mknil 1))] [0, 2]) (.seq (.region [ (oN 3 (.load true 2 (.t 1))), (oN 4 (.call zdk [(.t 3)])), (oN 5 (.call zbG [(.t 4), (.c (.int .i64 0))])), (oN 2 (.mov (.t 5)))] [1, 3, 4, 5]) (.ret))
def zdI : List ARet := [.tmp 2]
theorem zkr : zT Tryz.prog zaC (qRo [1]) = some (zfY.strip, zdI, 6) := by kernel_rfl
def zcW : ACode := .seq (.region [ (oN 14 (.bin .lss (.t 13) (.t 12)))] []) (.seq (.cond (.t 14) (.skip) (.exit 0)) (.seq (.block 1 (.seq (.region [ (oN 15 (.idx 1 (.t 11) (.t 13))), (oN 16 (.load false 1 (.t 15))), (oN 5 (.mov (.t 16)))] [14, 15, 16]) (.region [ (oN 17 (.mov (.t 3))), (oN 18 (.mov (.t 5))), (oN 19 (.idx 1 (.t 17) (.t 18))), ⟨none, .store 1 (.t 19) (.c (.bool true)), none⟩] [5, 17, 18, 19]))) (.region [ (oN 20 (.bin .add (.t 13) (.c (.int .i64 1)))), (oN 13 (.mov (.t 20)))] [20])))
def zcO : ACode := .seq (.region [ (oN 21 (.mov (.t 3))), (oN 2 (.mov (.t 21)))] [3, 11, 12, 13, 21]) (.ret)
def zdS : ACode := .seq (.region [ (oN 1 (.rbox (.t 0))), (oN 2 (.mknil 1))] [0, 2]) (.seq (.region [ (oN 6 (.fldaddr 1 1 (.t 1))), (oN 7 (.load false 1 (.t 6))), (oN 8 (.len (.t 7))), (oN 9 (.mksl 1 1 [.bool false] (.t 8) (.t 8))), (oN 3 (.mov (.t 9)))] [6, 7, 8, 9]) (.seq (.seq (.region [ (oN 10 (.load true 2 (.t 1))), (oN 11 (.call zaC [(.t 10)])), (oN 12 (.len (.t 11))), (oN 13 (.mov (.c (.int .i64 0))))] [1, 10]) (.block 0 (.loop zcW))) (zcO)))
def zdW : List ARet := [.tmp 2]
theorem zhY : zT Tryz.prog zbv (qRo [1]) = some (zdS.strip, zdW, 22) := by kernel_rfl
def zfv : ACode := .seq (.region [ (oN 13 (.bin .lss (.t 12) (.t 11)))] []) (.seq (.cond (.t 13) (.skip) (.exit 0)) (.seq (.block 1 (.seq (.region [ (oN 14 (.mov (.t 12))), (oN 4 (.mov (.t 14)))] [13, 14]) (.region [ (oN 15 (.mov (.t 3))), (oN 16 (.mov (.t 4))), (oN 17 (.load true 2 (.t 1))), (oN 18 (.mov (.t 4))), (oN 19 (.call zcv [(.t 17), (.t 18)])), (oN 20 (.idx 1 (.t 15) (.t 16))), ⟨none, .store 1 (.t 20) (.t 19), none⟩] [4, 15, 16, 17, 18, 19, 20]))) (.region [ (oN 21 (.bin .add (.t 12) (.c (.int .i64 1)))), (oN 12 (.mov (.t 21)))] [21])))
def zfw : ACode := .seq (.region [ (oN 22 (.mov (.t 3))), (oN 2 (.mov (.t 22)))] [1, 3, 11, 12, 22]) (.ret)
def zhF : ACode := .seq (.region [ (oN 1 (.rbox (.t 0))), (oN 2 (.mknil 1))] [0, 2]) (.seq (.region [ (oN 5 (.fldaddr 1 1 (.t 1))), (oN 6 (.load false 1 (.t 5))), (oN 7 (.len (.t 6))), (oN 8 (.mksl 1 24 [.nilsl] (.t 7) (.t 7))), (oN 3 (.mov (.t 8)))] [5, 6, 7, 8]) (.seq (.seq (.region [ (oN 9 (.fldaddr 1 1 (.t 1))), (oN 10 (.load false 1 (.t 9))), (oN 11 (.len (.t 10))), (oN 12 (.mov (.c (.int .i64 0))))] [9, 10]) (.block 0 (.loop zfv))) (zfw)))
def zhL : List ARet := [.tmp 2]
theorem zmj : zT Tryz.prog zdk (qRo [1]) = some (zhF.strip, zhL, 23) := by kernel_rfl
def zdj : ACode := .seq (.region [ (oN 2 (.rbox (.t 0))), (oN 4 (.mknil 1))] [0, 4]) (.seq (.seq (.region [ (oN 8 (.mov (.t 1))), (oN 9 (.load false 1 (.t 2))), (oN 10 (.len (.t 9))), (oN 11 (.bin .geq (.t 8) (.t 10)))] [8, 9, 10]) (.cond (.t 11) (.seq (.region [ (oN 4 (.mknil 1))] [1, 2, 11]) (.ret)) (.skip))) (.seq (.region [ (oN 12 (.load false 1 (.t 2))), (oN 13 (.len (.t 12))), (oN 14 (.mksl 1 1 [.bool false] (.t 13) (.t 13))), (oN 5 (.alloc [.nilsl])), ⟨none, .store 1 (.t 5) (.t 14), none⟩] [4, 11, 12, 13, 14]) (.seq (.region [ (oN 6 (.alloc [.nilsl]))] []) (.seq (.region [ (oN 7 (.alloc [.nilfn]))] []) (.seq (.region [ (oN 15 (.mkfn (.func zbh) [(.t 5), (.t 2), (.t 7), (.t 6)])), ⟨none, .store 1 (.t 7) (.t 15), none⟩] [2, 5, 15]) (.seq (.region [ (oN 16 (.load false 1 (.t 7))), (oN 17 (.mov (.t 1))), (oN 18 (.callv (.t 16) [(.t 17)]))] [1, 7, 16, 17, 18]) (.seq (.region [ (oN 19 (.load false 1 (.t 6))), (oN 20 (.call za0 [(.t 19)]))] [19, 20]) (.seq (.region [ (oN 21 (.load false 1 (.t 6))), (oN 4 (.mov (.t 21)))] [6, 21]) (.ret)))))))))
def zdx : List ARet := [.tmp 4]
theorem zgg : zT Tryz.prog zbG (qRo [2]) = some (zdj.strip, zdx, 22) := by kernel_rfl
def zev : ACode := .seq (.region [ (oN 42 (.mov (.t 7))), (oN 43 (.mkfn (.func zbf) [(.t 2)])), (oN 44 (.call zau [(.t 42), (.t 43)])), (oN 4 (.mov (.t 44)))] [2, 6, 7, 37, 42, 43, 44]) (.ret)
def zgd : ACode := .seq (.region [ (oN 2 (.rbox (.t 0))), (oN 4 (.mknil 1))] [0, 4]) (.seq (.region [ (oN 8 (.fldaddr 1 1 (.t 2))), (oN 9 (.load false 1 (.t 8))), (oN 10 (.mov (.t 1))), (oN 11 (.idx 2 (.t 9) (.t 10))), (oN 12 (.fldaddr 1 1 (.t 11))), (oN 13 (.load false 1 (.t 12))), (oN 5 (.mov (.t 13)))] [1, 8, 9, 10, 11, 12, 13]) (.seq (.seq (.region [ (oN 14 (.mov (.t 5))), (oN 15 (.len (.t 14))), (oN 16 (.bin .eql (.t 15) (.c (.int .i64 0))))] [14, 15]) (.cond (.t 16) (.seq (.region [ (oN 4 (.mknil 1))] [2, 5, 16]) (.ret)) (.skip))) (.seq (.region [ (oN 17 (.mov (.t 5))), (oN 18 (.mov (.t 5))), (oN 19 (.len (.t 18))), (oN 20 (.bin .sub (.t 19) (.c (.int .i64 1)))), (oN 21 (.idx 8 (.t 17) (.t 20))), (oN 22 (.load true 8 (.t 21))), (oN 6 (.alloc [.int .i64 0, .int .i64 0, .int .i64 0, .int .i64 0, .int .i64 0, .int .u32 0, .nilsl, .nilsl])), ⟨none, .store 8 (.t 6) (.t 22), none⟩] [4, 5, 16, 17, 18, 19, 20, 21, 22]) (.seq (.region [ (oN 7 (.mknil 1))] []) (.join (.seq (.region [ (oN 23 (.fldaddr 0 1 (.t 6))), (oN 24 (.load false 1 (.t 23)))] [23]) (.block 0 (.seq (.region [ (oN 26 (.bin .eql (.t 24) (.c (.int .i64 6)))), (oN 25 (.mov (.t 26)))] [26]) (.cond (.t 25) (.region [ (oN 27 (.fldaddr 3 1 (.t 6))), (oN 28 (.load false 1 (.t 27))), (oN 29 (.buildSl 1 1 [.int .i64 0] [(0, (.t 28))])), (oN 7 (.mov (.t 29)))] [6, 24, 25, 27, 28, 29]) (.seq (.region [ (oN 31 (.bin .eql (.t 24) (.c (.int .i64 7)))), (oN 30 (.mov (.t 31)))] [25, 31]) (.cond (.t 30) (.region [ (oN 32 (.fldaddr 3 1 (.t 6))), (oN 33 (.load false 1 (.t 32))), (oN 34 (.fldaddr 4 1 (.t 6))), (oN 35 (.load false 1 (.t 34))), (oN 36 (.buildSl 1 2 [.int .i64 0] [(0, (.t 33)), (1, (.t 35))])), (oN 7 (.mov (.t 36)))] [6, 24, 30, 32, 33, 34, 35, 36]) (.seq (.region [ (oN 38 (.bin .eql (.t 24) (.c (.int .i64 8)))), (oN 37 (.mov (.t 38)))] [24, 30, 38]) (.cond (.t 37) (.region [ (oN 39 (.fldaddr 7 1 (.t 6))), (oN 40 (.load false 1 (.t 39))), (oN 41 (.call zB [(.t 40)])), (oN 7 (.mov (.t 41)))] [6, 37, 39, 40, 41]) (.skip))))))))) (zev))))))
def zdo : List ARet := [.tmp 4]
theorem zkp : zT Tryz.prog zcv (qRo [2]) = some (zgd.strip, zdo, 45) := by kernel_rfl
def zdH : ACode := .seq (.region [ (oN 17 (.bin .lss (.t 16) (.t 15)))] []) (.seq (.cond (.t 17) (.skip) (.exit 0)) (.seq (.block 1 (.seq (.region [ (oN 18 (.idx 1 (.t 14) (.t 16))), (oN 19 (.load false 1 (.t 18))), (oN 7 (.mov (.t 19)))] [17, 18, 19]) (.seq (.region [ (oN 20 (.load false 1 (.t 1))), (oN 21 (.mov (.t 7))), (oN 22 (.idx 1 (.t 20) (.t 21))), (oN 23 (.load false 1 (.t 22))), (oN 24 (.un .not (.t 23)))] [20, 21, 22, 23]) (.cond (.t 24) (.region [ (oN 25 (.load false 1 (.t 3))), (oN 26 (.mov (.t 7))), (oN 27 (.callv (.t 25) [(.t 26)]))] [7, 24, 25, 26, 27]) (.skip))))) (.region [ (oN 28 (.bin .add (.t 16) (.c (.int .i64 1)))), (oN 16 (.mov (.t 28)))] [7, 24, 28])))
def zdv : ACode := .region [ (oN 29 (.load false 1 (.t 4))), (oN 30 (.mov (.t 0))), (oN 31 (.buildSl 1 1 [.int .i64 0] [(0, (.t 30))])), (oN 32 (.append 1 8 (.t 29) (.t 31))), ⟨none, .store 1 (.t 4) (.t 32), none⟩] [0, 1, 3, 4, 14, 15, 16, 29, 30, 31, 32]
def zeZ : ACode := .seq (.region [ (oN 8 (.load false 1 (.t 1))), (oN 9 (.mov (.t 0))), (oN 10 (.idx 1 (.t 8) (.t 9))), ⟨none, .store 1 (.t 10) (.c (.bool true)), none⟩] [8, 9, 10]) (.seq (.seq (.region [ (oN 11 (.load false 1 (.t 2))), (oN 12 (.mov (.t 0))), (oN 13 (.idx 1 (.t 11) (.t 12))), (oN 14 (.load false 1 (.t 13))), (oN 15 (.len (.t 14))), (oN 16 (.mov (.c (.int .i64 0))))] [2, 11, 12, 13]) (.block 0 (.loop zdH))) (zdv))
def zeO : List ARet := []
theorem zjo : zT Tryz.prog zbh (qRo []) = some (zeZ.strip, zeO, 33) := by kernel_rfl
def zb2 : ACode := .seq (.seq (.region [ (oN 7 (.mov (.t 2))), (oN 8 (.mov (.t 3))), (oN 9 (.bin .lss (.t 7) (.t 8)))] [7, 8]) (.cond (.t 9) (.skip) (.exit 0))) (.seq (.block 1 (.draw ( .step (oN 14 (.mov (.t 0))) ( .step (oN 15 (.mov (.t 2))) ( .step (oN 16 (.mov (.t 0))) ( .step (oN 17 (.mov (.t 3))) ( .step (oN 18 (.mov (.t 0))) ( .step (oN 19 (.mov (.t 3))) ( .step (oN 20 (.idx 1 (.t 18) (.t 19))) ( .step (oN 21 (.load false 1 (.t 20))) ( .step (oN 22 (.mov (.t 0))) ( .step (oN 23 (.mov (.t 2))) ( .alt (oN 24 (.idx 1 (.t 22) (.t 23))) ( .step (oN 25 (.load false 1 (.t 24))) ( .step (oN 26 (.idx 1 (.t 14) (.t 15))) ( .alt ⟨none, .store 1 (.t 26) (.t 21), none⟩ ( .step (oN 27 (.idx 1 (.t 16) (.t 17))) ( .alt ⟨none, .store 1 (.t 27) (.t 25), none⟩ ( .done) ( .stop))) ( .stop)))) ( .stop)))))))))))) [9, 14, 15, 16, 17, 18, 19, 20, 21, 22, 23, 24, 25, 26, 27])) (.region [ (oN 10 (.mov (.t 2))), (oN 11 (.bin .add (.t 10) (.c (.int .i64 1)))), (oN 12 (.mov (.t 3))), (oN 13 (.bin .sub (.t 12) (.c (.int .i64 1)))), (oN 2 (.mov (.t 11))), (oN 3 (.mov (.t 13)))] [10, 11, 12, 13]))
def zcQ : ACode := .seq (.region [ (oN 4 (.mov (.t 0))), (oN 5 (.len (.t 4))), (oN 6 (.bin .sub (.t 5) (.c (.int .i64 1)))), (oN 2 (.mov (.c (.int .i64 0)))), (oN 3 (.mov (.t 6)))] [4, 5, 6]) (.block 0 (.loop zb2))
def zcP : List ARet := []
theorem zgu : zT Tryz.prog za0 (qRo []) = some (zcQ.strip, zcP, 28) := by kernel_rfl
def zbD : ACode := .seq (.seq (.region [ (oN 16 (.mov (.t 6))), (oN 17 (.mov (.t 0))), (oN 18 (.len (.t 17))), (oN 19 (.bin .lss (.t 16) (.t 18)))] [16, 17, 18]) (.cond (.t 19) (.skip) (.exit 0))) (.seq (.block 1 (.seq (.region [ (oN 22 (.mov (.t 0))), (oN 23 (.mov (.t 6))), (oN 24 (.idx 1 (.t 22) (.t 23))), (oN 25 (.load false 1 (.t 24))), (oN 7 (.mov (.t 25)))] [19, 22, 23, 24, 25]) (.seq (.region [ (oN 26 (.mov (.t 1))), (oN 27 (.mov (.t 7))), (oN 28 (.callv (.t 26) [(.t 27)])), (oN 29 (.un .not (.t 28)))] [26, 27, 28]) (.cond (.t 29) (.seq (.region [ (oN 30 (.mov (.t 0))), (oN 31 (.mov (.t 5))), (oN 32 (.mov (.t 7))), (oN 33 (.idx 1 (.t 30) (.t 31))), ⟨none, .store 1 (.t 33) (.t 32), none⟩] [7, 29, 30, 31, 32, 33]) (.region [ (oN 34 (.mov (.t 5))), (oN 35 (.bin .add (.t 34) (.c (.int .i64 1)))), (oN 5 (.mov (.t 35)))] [34, 35])) (.skip))))) (.region [ (oN 20 (.mov (.t 6))), (oN 21 (.bin .add (.t 20) (.c (.int .i64 1)))), (oN 6 (.mov (.t 21)))] [7, 20, 21, 29]))
def zbH : ACode := .seq (.region [ (oN 36 (.mov (.t 0))), (oN 37 (.mov (.t 5))), (oN 38 (.slice 1 (.t 36) (some (.t 37)) none)), ⟨none, .clear 1 [.int .i64 0] (.t 38), none⟩] [1, 6, 36, 37, 38]) (.seq (.region [ (oN 39 (.mov (.t 0))), (oN 40 (.mov (.t 5))), (oN 41 (.slice 1 (.t 39) none (some (.t 40)))), (oN 4 (.mov (.t 41)))] [0, 5, 39, 40, 41]) (.ret))
def zb8 : ACode := .seq (.region [ (oN 4 (.mknil 1))] [4]) (.seq (.region [ (oN 8 (.mov (.t 0))), (oN 9 (.mov (.t 1))), (oN 10 (.call zX [(.t 8), (.t 9)])), (oN 5 (.mov (.t 10)))] [8, 9, 10]) (.seq (.seq (.region [ (oN 11 (.mov (.t 5))), (oN 12 (.bin .eql (.t 11) (.c (.int .i64 (-1)))))] [11]) (.cond (.t 12) (.seq (.region [ (oN 13 (.mov (.t 0))), (oN 4 (.mov (.t 13)))] [0, 1, 5, 12, 13]) (.ret)) (.skip))) (.seq (.seq (.region [ (oN 14 (.mov (.t 5))), (oN 15 (.bin .add (.t 14) (.c (.int .i64 1)))), (oN 6 (.mov (.t 15)))] [4, 12, 14, 15]) (.block 0 (.loop zbD))) (zbH))))
def za8 : List ARet := [.tmp 4]
theorem zfa : zT Tryz.prog zau (qRo []) = some (zb8.strip, za8, 42) := by kernel_rfl
def zeJ : ACode := .seq (.region [ (oN 3 (.mov (.c (.bool false))))] [3]) (.seq (.region [ (oN 4 (.mov (.t 0))), (oN 5 (.bin .lss (.t 4) (.c (.int .i64 0)))), (oN 6 (.mov (.t 5))), (oG 7 6 false (.mov (.t 0))), (oG 8 6 false (.fldaddr 1 1 (.t 1))), (oG 9 6 false (.load false 1 (.t 8))), (oG 10 6 false (.len (.t 9))), (oG 11 6 false (.bin .geq (.t 7) (.t 10))), (oN 12 (.pick (.t 6) (.c (.bool true)) (.t 11))), (oN 3 (.mov (.t 12)))] [0, 1, 4, 5, 6, 7, 8, 9, 10, 11, 12]) (.ret))
def zcL : List ARet := [.tmp 3]
theorem zjh : zT Tryz.prog zbf (qRo []) = some (zeJ.strip, zcL, 13) := by kernel_rfl
end Go.Ab
namespace Go.Ab.Dm
open Go.RowKit Go.Proofs
theorem zo {α β : Type} {f : α → β} {l : List α} {i : Nat} {d : β} (h : i < l.length) : (l.map f).getD i d = f l[i] := zdG (List.getElem?_eq_getElem h)
theorem zff (l : List Int) (x : Int) : zk Tryz.prog zck [za l, .int .i64 x] (· = .bool (decide (x ∈ l))) := by
  refine fn_x zn7 rfl ?_
  unfold zla
  simp only [evD, Nat.reduceBEq, Nat.reduceAdd, Nat.reduceLeDiff]
  refine zm (fun i : Nat => ([(0, za l), (1, .int .i64 x), (5, .int .i64 i)], [])) 0 (fun i => i ≤ l.length ∧ x ∉ l.take i) (fun i => l.length - i) 0 ⟨Nat.zero_le _, by simp⟩ (Ent.keep rfl fin5) ?_
  intro i ⟨h1, h2⟩ wf
  unfold zha
  simp only [evD, Nat.reduceBEq, Nat.reduceAdd, Nat.reduceLeDiff, za]
  refine fun hbig => zp (fun h => ?_) (fun h => ?_)
  · have hi : i < l.length := by simpa using h
    simp only [evD, Nat.reduceBEq, Nat.reduceAdd, Nat.reduceLeDiff, zo hi]
    refine ⟨by omega, fun hr => zp (fun h => ?_) (fun h => ?_)⟩
    · have hx : l[i] = x := by simpa using h
      simp only [evD, Nat.reduceBEq, Nat.reduceAdd, Nat.reduceLeDiff, zgH]
      refine ⟨_, .bool _ _, ?_⟩
      have : x ∈ l := by rw [← hx]; exact List.getElem_mem hi
      simp [this]
    · have hx : l[i] ≠ x := by simpa using h
      simp only [evD, Nat.reduceBEq, Nat.reduceAdd, Nat.reduceLeDiff]
      refine ⟨i + 1, ⟨hi, ?_⟩, by omega, ?_⟩
      · rw [List.take_add_one, List.getElem?_eq_getElem hi]
        simp only [List.mem_append, not_or, Option.toList, List.mem_singleton]
        exact ⟨h2, fun e => hx e.symm⟩
      · unfold big at hbig
        rw [zl0 (by omega) (by omega)]
        exact Ent.keep rfl fin5
  · have hi : ¬ i < l.length := by simpa using h
    unfold zg8
    simp only [evD, Nat.reduceBEq, Nat.reduceAdd, Nat.reduceLeDiff, zgH]
    refine ⟨_, .bool _ _, ?_⟩
    have : l.take i = l := List.take_of_length_le (by omega)
    rw [this] at h2
    simp [h2]
theorem zn0 (b : Blk) : zk Tryz.prog ze7 [.agg b.cells] (· = za b.targets) := by
  refine fn_x znP rfl ?_
  unfold zjD
  have hB := hBig
  (repeat first | simp (disch := try exact dis1) only [evD, Nat.reduceBEq, Nat.reduceAdd, Nat.reduceLeDiff, Blk.cells] | with_reducible intro _ | ((with_reducible apply And.intro); omega))
  (refine zp (fun h => ?_) (fun h => ?_)) <;> (try simp only [dcd] at h)
  · have h0 : b.stmts = [] := List.eq_nil_of_length_eq_zero (by omega)
    (repeat first | simp (disch := try exact dis1) only [evD, Nat.reduceBEq, Nat.reduceAdd, Nat.reduceLeDiff, zbZ] | with_reducible intro _ | ((with_reducible apply And.intro); omega))
    refine ⟨_, ?_, rfl⟩
    have e : b.targets = [] := by simp [Blk.targets, h0]
    rw [e]
    exact zbj (l := []) trivial rfl (Nat.zero_le _)
  · have h0 : 0 < b.stmts.length := by omega
    obtain ⟨s, hs⟩ : ∃ s, b.stmts[b.stmts.length - 1]? = some s := ⟨_, List.getElem?_eq_getElem (by omega)⟩
    have ht : b.targets = if s.op = 6 then [s.next] else if s.op = 7 then [s.next, s.els] else if s.op = 8 then s.cases else [] := by
      have : b.stmts.getLast? = some s := by rw [List.getLast?_eq_getElem?, hs]
      simp [Blk.targets, this]
    have e : (b.stmts.map Stm.cells).getD ((b.stmts.length : Int) - 1).toNat [] = s.cells := by
      rw [show ((b.stmts.length : Int) - 1).toNat = b.stmts.length - 1 by omega]
      exact zdG hs
    (repeat first | simp (disch := try exact dis1) only [evD, Nat.reduceBEq, Nat.reduceAdd, Nat.reduceLeDiff, e, Stm.cells] | with_reducible intro _ | ((with_reducible apply And.intro); omega))
    (refine zp (fun h => ?_) (fun h => ?_)) <;> (try simp only [dcd] at h)
    · rw [if_pos h] at ht
      (repeat first | simp (disch := try exact dis1) only [evD, Nat.reduceBEq, Nat.reduceAdd, Nat.reduceLeDiff, za, zbZ] | with_reducible intro _ | ((with_reducible apply And.intro); omega))
      refine ⟨_, ?_, rfl⟩
      rw [ht]
      exact zbj (l := [s.next]) trivial rfl (by simp [big])
    · rw [if_neg h] at ht
      (repeat first | simp (disch := try exact dis1) only [evD, Nat.reduceBEq, Nat.reduceAdd, Nat.reduceLeDiff] | with_reducible intro _ | ((with_reducible apply And.intro); omega))
      (refine zp (fun h => ?_) (fun h => ?_)) <;> (try simp only [dcd] at h)
      · rw [if_pos h] at ht
        (repeat first | simp (disch := try exact dis1) only [evD, Nat.reduceBEq, Nat.reduceAdd, Nat.reduceLeDiff, za, zbZ] | with_reducible intro _ | ((with_reducible apply And.intro); omega))
        refine ⟨_, ?_, rfl⟩
        rw [ht]
        exact zbj (l := [s.next, s.els]) trivial rfl (by simp [big])
      · rw [if_neg h] at ht
        (repeat first | simp (disch := try exact dis1) only [evD, Nat.reduceBEq, Nat.reduceAdd, Nat.reduceLeDiff] | with_reducible intro _ | ((with_reducible apply And.intro); omega))
        (refine zp (fun h => ?_) (fun h => ?_)) <;> (try simp only [dcd] at h)
        · rw [if_pos h] at ht
          (repeat first | simp (disch := try exact dis1) only [evD, Nat.reduceBEq, Nat.reduceAdd, Nat.reduceLeDiff, za, zbZ] | with_reducible intro _ | ((with_reducible apply And.intro); omega))
          refine ⟨_, ?_, rfl⟩
          rw [ht]
          exact .sl _ _ _ _
        · rw [if_neg h] at ht
          (repeat first | simp (disch := try exact dis1) only [evD, Nat.reduceBEq, Nat.reduceAdd, Nat.reduceLeDiff, zbZ] | with_reducible intro _ | ((with_reducible apply And.intro); omega))
          refine ⟨_, ?_, rfl⟩
          rw [ht]
          exact zbj (l := []) trivial rfl (Nat.zero_le _)
def zbW (n : Nat) (x : Int) : Bool := decide (0 ≤ x) && decide (x < n)
def _root_.Go.Ab.Gr.E (g : Gr) : Adj := g.blocks.map fun b => (b.targets.filter (zbW g.blocks.length)).map Int.toNat
def _root_.Go.Ab.Gr.small (g : Gr) : Prop := g.blocks.length ≤ 1000 ∧ ∀ b ∈ g.blocks, b.targets.length ≤ 1000
theorem _root_.Go.Ab.Gr.E_len (g : Gr) : g.E.length = g.blocks.length := by simp [Gr.E]
theorem _root_.Go.Ab.Gr.E_ok (g : Gr) : g.E.ok := by
  intro k n hn
  unfold suc Gr.E at hn
  rw [List.getD_eq_getElem?_getD, List.getElem?_map] at hn
  cases hb : g.blocks[k]? with
  | none => rw [hb] at hn; simp at hn
  | some b =>
    rw [hb] at hn
    simp only [Option.map_some, Option.getD_some, List.mem_map, List.mem_filter, zbW, Bool.and_eq_true, decide_eq_true_eq] at hn
    obtain ⟨x, ⟨_, h1, h2⟩, rfl⟩ := hn
    rw [g.E_len]
    omega
theorem encInts_nats (l : List Nat) : za (l.map fun (n : Nat) => (n : Int)) = zat l := by
  simp [za, zat, encL]
  rfl
theorem zbY {α : Type} {p : α → Bool} {l : List α} {i : Nat} (h : i < l.length) : (l.take (i + 1)).filter p = (l.take i).filter p ++ if p l[i] then [l[i]] else [] := by
  rw [List.take_add_one, List.getElem?_eq_getElem h, List.filter_append]
  cases hp : p l[i] <;> simp [List.filter, hp]
theorem znY {α : Type} (p : α → Bool) (l : List α) (i : Nat) : ((l.take i).filter p).length ≤ i := Nat.le_trans (List.length_filter_le _ _) (List.length_take_le _ _)
theorem zqv (g : Gr) (hg : g.small) (k : Nat) (hk : k < g.blocks.length) : zk Tryz.prog zgZ [.agg g.cells, .int .i64 k] (· = zat (suc g.E k)) := by
  have he : zat (suc g.E k) = za (g.blocks[k].targets.filter (zbW g.blocks.length)) := by
    rw [← encInts_nats]
    congr 1
    simp only [suc, Gr.E, zo hk, List.map_map]
    conv => rhs; rw [← List.map_id (List.filter _ _)]
    refine List.map_congr_left fun x hx => ?_
    simp only [List.mem_filter, zbW, Bool.and_eq_true, decide_eq_true_eq] at hx
    simp only [Function.comp, id]
    omega
  rw [he]
  refine fn_x zq3 rfl ?_
  unfold zlF
  have hB := hBig
  have e : (g.blocks.map Blk.cells).getD k [] = g.blocks[k].cells := zdG (List.getElem?_eq_getElem hk)
  (repeat first | simp (disch := try exact dis1) only [evD, Nat.reduceBEq, Nat.reduceAdd, Nat.reduceLeDiff, Gr.cells, e, Blk.two] | with_reducible intro _ | ((with_reducible apply And.intro); omega))
  refine ze (zh (zn0 _) rfl) ?_
  have hsm := hg.2 _ (List.getElem_mem hk)
  generalize g.blocks[k].targets = l at hsm ⊢
  (repeat first | simp (disch := try exact dis1) only [evD, Nat.reduceBEq, Nat.reduceAdd, Nat.reduceLeDiff] | with_reducible intro _ | ((with_reducible apply And.intro); omega))
  refine zm (fun i : Nat => ([(2, encP 2 g.cells), (5, .own 0 0 0 0 ((l.take i).filter (zbW g.blocks.length)).length), (6, za l), (7, .int .i64 i)], [(0, .row 1 (((l.take i).filter (zbW g.blocks.length)).map cI) 0)])) 1 (fun i => i ≤ l.length) (fun i => l.length - i) 0 (Nat.zero_le _) (Ent.tab [(0, 1, 0)] [] rfl (by (try simp only [evWB, Nat.reduceBEq, Nat.reduceAdd, Nat.reduceSub, Nat.reduceLeDiff, Nat.reduceLT, implies_true, Gr.cells]) <;> exact fin4) (by (try simp only [evWB, Nat.reduceBEq, Nat.reduceAdd, Nat.reduceSub, Nat.reduceLeDiff, Nat.reduceLT, implies_true, Gr.cells]) <;> exact fin4)) ?_
  intro i hi wf
  unfold ziq
  (repeat first | simp (disch := try exact dis1) only [evD, Nat.reduceBEq, Nat.reduceAdd, Nat.reduceLeDiff, za, encP, Gr.cells] | with_reducible intro _ | ((with_reducible apply And.intro); omega))
  (refine zp (fun h => ?_) (fun h => ?_)) <;> (try simp only [dcd] at h)
  · have hi' : i < l.length := by omega
    have hs : (l.take (i + 1)).filter (zbW g.blocks.length) = (l.take i).filter (zbW g.blocks.length) ++ if zbW g.blocks.length l[i] then [l[i]] else [] := zbY hi'
    (repeat first | simp (disch := try exact dis1) only [evD, Nat.reduceBEq, Nat.reduceAdd, Nat.reduceLeDiff, zo hi'] | with_reducible intro _ | ((with_reducible apply And.intro); omega))
    generalize hc : decide (0 ≤ l[i]) = hcb; cases hcb <;> simp only [decide_eq_true_eq, decide_eq_false_iff_not, ne_eq, Classical.not_not] at hc
    · rw [if_neg (by simp [zbW, hc])] at hs
      (repeat first | simp (disch := try exact dis1) only [evD, Nat.reduceBEq, Nat.reduceAdd, Nat.reduceLeDiff] | with_reducible intro _ | ((with_reducible apply And.intro); omega))
      exact ⟨i + 1, by omega, by omega, (Ent.tab [(0, 0, 0)] [] rfl (by (try simp only [evWB, Nat.reduceBEq, Nat.reduceAdd, Nat.reduceSub, Nat.reduceLeDiff, Nat.reduceLT, implies_true, Gr.cells, hs, List.append_nil]) <;> exact fin4) (by (try simp only [evWB, Nat.reduceBEq, Nat.reduceAdd, Nat.reduceSub, Nat.reduceLeDiff, Nat.reduceLT, implies_true, Gr.cells, hs, List.append_nil]) <;> exact fin4))⟩
    · (repeat first | simp (disch := try exact dis1) only [evD, Nat.reduceBEq, Nat.reduceAdd, Nat.reduceLeDiff, zo hi'] | with_reducible intro _ | ((with_reducible apply And.intro); omega))
      (refine zp (fun hd => ?_) (fun hd => ?_)) <;> (try simp only [dcd] at hd)
      · rw [if_pos (by simp [zbW, hc, hd])] at hs
        have hf := znY (zbW g.blocks.length) l i
        (repeat first | simp (disch := try exact dis1) only [evD, Nat.reduceBEq, Nat.reduceAdd, Nat.reduceLeDiff, zo hi'] | with_reducible intro _ | ((with_reducible apply And.intro); omega))
        exact ⟨i + 1, by omega, by omega, (Ent.tab [(0, 0, 1)] [] rfl (by (try simp only [evWB, Nat.reduceBEq, Nat.reduceAdd, Nat.reduceSub, Nat.reduceLeDiff, Nat.reduceLT, implies_true, Gr.cells, hs, List.append_nil]) <;> exact fin4) (by (try simp only [evWB, Nat.reduceBEq, Nat.reduceAdd, Nat.reduceSub, Nat.reduceLeDiff, Nat.reduceLT, implies_true, Gr.cells, hs, List.append_nil]) <;> exact fin4))⟩
      · rw [if_neg (by simp [zbW, hc, hd])] at hs
        (repeat first | simp (disch := try exact dis1) only [evD, Nat.reduceBEq, Nat.reduceAdd, Nat.reduceLeDiff] | with_reducible intro _ | ((with_reducible apply And.intro); omega))
        exact ⟨i + 1, by omega, by omega, (Ent.tab [(0, 0, 0)] [] rfl (by (try simp only [evWB, Nat.reduceBEq, Nat.reduceAdd, Nat.reduceSub, Nat.reduceLeDiff, Nat.reduceLT, implies_true, Gr.cells, hs, List.append_nil]) <;> exact fin4) (by (try simp only [evWB, Nat.reduceBEq, Nat.reduceAdd, Nat.reduceSub, Nat.reduceLeDiff, Nat.reduceLT, implies_true, Gr.cells, hs, List.append_nil]) <;> exact fin4))⟩
  · unfold zh9
    (repeat first | simp (disch := try exact dis1) only [evD, Nat.reduceBEq, Nat.reduceAdd, Nat.reduceLeDiff, zlY] | with_reducible intro _ | ((with_reducible apply And.intro); omega))
    refine ⟨_, ?_, rfl⟩
    rw [List.take_of_length_le (show l.length ≤ i by omega)]
    have := List.length_filter_le (zbW g.blocks.length) l
    exact zbj (l := l.filter (zbW g.blocks.length)) trivial rfl (by omega)
theorem zyU (l : List Nat) (x : Int) : (x ∈ l.map fun (n : Nat) => (n : Int)) ↔ ∃ n ∈ l, (n : Int) = x := by simp
theorem zwM (l : List Nat) (x : Nat) : ((x : Int) ∈ l.map fun (n : Nat) => (n : Int)) ↔ x ∈ l := by
  rw [zyU]
  exact ⟨fun ⟨n, h, e⟩ => by rw [show x = n by omega]; exact h, fun h => ⟨x, h, rfl⟩⟩
theorem zsp (l : List Nat) (x : Nat) : zk Tryz.prog zck [zat l, .int .i64 x] (· = .bool (decide (x ∈ l))) := by
  have := zff (l.map fun (n : Nat) => (n : Int)) x
  rw [encInts_nats] at this
  simpa only [zwM] using this
theorem zxK {H : AH} {nx r q g : Nat} {l : List Nat} {x : Nat} (hg : H.get r q = some (.row 1 (l.map cN) g)) (hb : l.length ≤ big) :
    zcg Tryz.prog zck [.own r q g 0 l.length, .int .i64 x] H nx (.bool (decide (x ∈ l))) :=
  z6 (D := fun a b => a = r ∧ b = q) (zsp l x) (.cons (zia ⟨rfl, rfl⟩ hg hb) (.cons (.int _ _ _) .nil)) (.inl rfl)
end Go.Ab.Dm
