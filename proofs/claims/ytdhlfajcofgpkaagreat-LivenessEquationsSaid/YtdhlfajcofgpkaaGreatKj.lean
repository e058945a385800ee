/-
  Part 10 of the proof: how the calls of this program run, over values instead of memory, and what each function computes.
-/
import Derived.KernelRfl
import Derived.Test.YtdhlfajcofgpkaaGreatKi
set_option maxRecDepth 100000
set_option linter.unusedVariables false
set_option linter.unusedSimpArgs false
set_option linter.unnecessarySimpa false
set_option linter.unusedSectionVars false

namespace Go.Ab
open Go.RowKit Go.Proofs
theorem zmI (l : List Int) (n : Int) : zB Tryz.prog ziZ [za l, .int .i64 n] (· = .bool (decide (n ∈ l))) := by
  refine fn_x ztc rfl ?_
  unfold zm8
  have hB := hBig
  (repeat first | simp (disch := try exact dis1) only [evD, Nat.reduceBEq, Nat.reduceAdd, Nat.reduceLeDiff, za] | with_reducible intro _ | ((with_reducible apply And.intro); omega))
  refine zl (fun i : Nat => ([(0, za l), (1, .int .i64 n), (5, .int .i64 i)], [])) 0 (fun i => i ≤ l.length ∧ n ∉ l.take i) (fun i => l.length - i) 0 ⟨Nat.zero_le _, by simp⟩ (Ent.tab [] [] rfl (by (try simp only [evWB, Nat.reduceBEq, Nat.reduceAdd, Nat.reduceSub, Nat.reduceLeDiff, Nat.reduceLT, implies_true, za]) <;> exact fin2) (by (try simp only [evWB, Nat.reduceBEq, Nat.reduceAdd, Nat.reduceSub, Nat.reduceLeDiff, Nat.reduceLT, implies_true, za]) <;> exact fin2)) ?_
  rintro i ⟨hi, hn⟩ wf
  unfold ziK
  by_cases hil : i < l.length
  · have hgl := zu (f := cI) (d := []) hil
    by_cases he : l[i] = n
    · have hm : n ∈ l := by rw [← he]; exact List.getElem_mem hil
      rw [decide_eq_true hm]
      (repeat first | simp (disch := try exact dis1) only [evD, Nat.reduceBEq, Nat.reduceAdd, Nat.reduceLeDiff, dT, za, hgl, zjE] | with_reducible intro _ | ((with_reducible apply And.intro); omega))
      exact ⟨_, .bool _ _, rfl⟩
    · (repeat first | simp (disch := try exact dis1) only [evD, Nat.reduceBEq, Nat.reduceAdd, Nat.reduceLeDiff, dT, dF, za, hgl] | with_reducible intro _ | ((with_reducible apply And.intro); omega))
      refine ⟨i + 1, ⟨by omega, ?_⟩, by omega, Ent.keep rfl fin5⟩
      rw [List.take_add_one, List.getElem?_eq_getElem hil]
      simp only [Option.toList_some, List.mem_append, List.mem_singleton, not_or]
      exact ⟨hn, fun e => he e.symm⟩
  · rw [List.take_of_length_le (by omega)] at hn
    rw [decide_eq_false hn]
    (repeat first | simp (disch := try exact dis1) only [evD, Nat.reduceBEq, Nat.reduceAdd, Nat.reduceLeDiff, dF, za] | with_reducible intro _ | ((with_reducible apply And.intro); omega))
    unfold zjn
    (repeat first | simp (disch := try exact dis1) only [evD, Nat.reduceBEq, Nat.reduceAdd, Nat.reduceLeDiff, zjE] | with_reducible intro _ | ((with_reducible apply And.intro); omega))
    exact ⟨_, .bool _ _, rfl⟩
theorem zhz (A B : List Int) : zB Tryz.prog zcA [za A, za B] (· = .bool (decide (A = B))) := by
  refine fn_x zlA rfl ?_
  unfold zhy
  have hB := hBig
  by_cases hl : A.length = B.length
  · (repeat first | simp (disch := try exact dis1) only [evD, Nat.reduceBEq, Nat.reduceAdd, Nat.reduceLeDiff, dF, za] | with_reducible intro _ | ((with_reducible apply And.intro); omega))
    refine zl (fun i : Nat => ([(0, za A), (1, za B), (5, .int .i64 i)], [])) 0 (fun i => i ≤ A.length ∧ A.take i = B.take i) (fun i => A.length - i) 0 ⟨Nat.zero_le _, by simp⟩ (Ent.tab [] [] rfl (by (try simp only [evWB, Nat.reduceBEq, Nat.reduceAdd, Nat.reduceSub, Nat.reduceLeDiff, Nat.reduceLT, implies_true, za]) <;> exact fin2) (by (try simp only [evWB, Nat.reduceBEq, Nat.reduceAdd, Nat.reduceSub, Nat.reduceLeDiff, Nat.reduceLT, implies_true, za]) <;> exact fin2)) ?_
    rintro i ⟨hi, htk⟩ wf
    unfold zfs
    by_cases hil : i < A.length
    · have hib : i < B.length := by omega
      have ga := zu (f := cI) (d := []) hil
      have gb := zu (f := cI) (d := []) hib
      by_cases he : A[i] = B[i]
      · (repeat first | simp (disch := try exact dis1) only [evD, Nat.reduceBEq, Nat.reduceAdd, Nat.reduceLeDiff, dT, dF, za, ga, gb] | with_reducible intro _ | ((with_reducible apply And.intro); omega))
        exact ⟨i + 1, ⟨by omega, zn8 htk hil hib he⟩, by omega, Ent.keep rfl fin5⟩
      · have hne : A ≠ B := fun e => he (by subst e; rfl)
        rw [decide_eq_false hne]
        (repeat first | simp (disch := try exact dis1) only [evD, Nat.reduceBEq, Nat.reduceAdd, Nat.reduceLeDiff, dT, za, ga, gb, zdm] | with_reducible intro _ | ((with_reducible apply And.intro); omega))
        exact ⟨_, .bool _ _, rfl⟩
    · rw [List.take_of_length_le (by omega), List.take_of_length_le (by omega)] at htk
      rw [decide_eq_true htk]
      (repeat first | simp (disch := try exact dis1) only [evD, Nat.reduceBEq, Nat.reduceAdd, Nat.reduceLeDiff, dF, za] | with_reducible intro _ | ((with_reducible apply And.intro); omega))
      unfold zfm
      (repeat first | simp (disch := try exact dis1) only [evD, Nat.reduceBEq, Nat.reduceAdd, Nat.reduceLeDiff, zdm] | with_reducible intro _ | ((with_reducible apply And.intro); omega))
      exact ⟨_, .bool _ _, rfl⟩
  · have hne : A ≠ B := fun e => hl (by rw [e])
    rw [decide_eq_false hne]
    (repeat first | simp (disch := try exact dis1) only [evD, Nat.reduceBEq, Nat.reduceAdd, Nat.reduceLeDiff, dT, za, zdm] | with_reducible intro _ | ((with_reducible apply And.intro); omega))
    exact ⟨_, .bool _ _, rfl⟩
theorem zjZ (b : Bl) : zB Tryz.prog zd2 [.agg b.cells] (· = za (zz b.stmts)) := by
  refine fn_x zjJ rfl ?_
  unfold zge
  have hB := hBig
  obtain ⟨ad, l⟩ := b
  simp only [Bl.cells]
  by_cases h0 : l.length = 0
  · obtain rfl : l = [] := List.eq_nil_of_length_eq_zero h0
    (repeat first | simp (disch := try exact dis1) only [evD, Nat.reduceBEq, Nat.reduceAdd, Nat.reduceLeDiff, fldP, dT, List.length_nil, zdD] | with_reducible intro _ | ((with_reducible apply And.intro); omega))
    exact ⟨_, zaT (l := []) trivial rfl (by simp only [List.length_nil]; omega), rfl⟩
  have hlast : l.length - 1 < l.length := by omega
  have hidx : (((l.length : Nat) : Int) - 1).toNat = l.length - 1 := by omega
  have hg := zu (f := St.cells) (d := []) hlast
  have ht := zik l[l.length - 1]
  rw [zeY hlast]
  generalize l[l.length - 1] = s at hg ht ⊢
  (repeat first | simp (disch := try exact dis1) only [evD, Nat.reduceBEq, Nat.reduceAdd, Nat.reduceLeDiff, fldP, dT, dF, hidx, hg, St.len, St.eight] | with_reducible intro _ | ((with_reducible apply And.intro); omega))
  refine zh (zn ht rfl) ?_
  (repeat first | simp (disch := try exact dis1) only [evD, Nat.reduceBEq, Nat.reduceAdd, Nat.reduceLeDiff, zdD] | with_reducible intro _ | ((with_reducible apply And.intro); omega))
  exact ⟨_, zW rfl, rfl⟩
theorem zq3 {U l : List Int} (hl : Asc l) (h : ∀ x ∈ l, x ∈ U) : l.length ≤ U.length := List.Nodup.length_le_of_subset (zi2 hl) h
structure FewV (exit : List Int) (bl : List Bl) : Prop where
  sz : ∀ b ∈ bl, ∀ s ∈ b.stmts, zA s.e ≤ 100000
  len : bl.length ≤ 1000000
  stmts : ∀ b ∈ bl, b.stmts.length ≤ 1000000
  ts : ∀ b ∈ bl, (zz b.stmts).length ≤ 1000000
  uni : (univ exit bl).length + exit.length ≤ 400000
theorem zu8 {exit : List Int} {bl : List Bl} {b : Bl} (hb : b ∈ bl) {s : St} (hs : s ∈ b.stmts) : ∀ x ∈ zc6 s, x ∈ univ exit bl := fun x hx =>
  List.mem_append_right _ (List.mem_flatMap.2 ⟨b, hb, List.mem_flatMap.2 ⟨s, hs, hx⟩⟩)
theorem zvd {exit : List Int} {bl : List Bl} {ins : List (List Int)} (hi : LInvU exit bl ins) {l : List St} : ∀ x ∈ endB ins l, x ∈ univ exit bl := fun x hx => by
  obtain ⟨t, _, _, h3⟩ := zeG.1 hx
  exact hi.uni _ x h3
theorem renL {ρ : Nat → Nat} {l : List (List Int)} {g : Nat} : AObj.ren ρ (.row 1 (l.map cLL) g) = .row 1 (l.map cLL) g := by
  simp only [AObj.ren]
  rw [zgp (zg zxw)]
structure RunL (exit : List Int) (bl : List Bl) (ins : List (List Int)) (k : Nat) (c : Bool) : Prop where
  inv : LInvU exit bl ins
  fuel : zjc exit bl ≤ k + zcj ins
  go : fixL exit bl k ins = zbx exit bl
  done : c = false → ins = zbx exit bl
theorem zkl : ∀ (l : List St) (h : l.length - 1 < l.length), ze7 l = (ziR (l[l.length - 1]'h) && !((l.take (l.length - 1)).any ziR))
  | [], h => by simp at h
  | [x], h => by
    rw [ze7, ze7]
    simp
  | x :: y :: l, h => by
    have ih := zkl (y :: l) (by simp)
    rw [ze7, ih]
    simp only [List.length_cons, Nat.add_sub_cancel, List.isEmpty_cons, List.take_succ_cons, List.any_cons]
    have e : (x :: y :: l)[l.length + 1] = (y :: l)[l.length] := rfl
    rw [e]
    cases ziR x <;> cases ziR (y :: l)[l.length] <;> simp
theorem zwi {α : Type} {f : α → List AV} {H H2 : AH} {σ : Nat → Nat → Option (Nat × Nat × Nat)} {D : Nat → Nat → Prop} {t : Bool} {l : List α} {sz i n z : Nat} (hi : i ≤ l.length) (hn : n = i) (hz : z = 0) (hf : ∀ a, zI (f a) = true) :
    Vw H H2 σ D t (.sl sz n (fun a j => ((l.map f).getD (z + a) []).getD j .undef)) (encL sz f (l.take i)) := by
  subst hn hz
  have e : (l.take n).length = n := by rw [List.length_take]; omega
  unfold encL
  rw [e]
  refine .slf _ _ _ _ _ (fun a j ha hj => ?_)
  have e2 : (List.map f (List.take n l)).getD a [] = (l.map f).getD (0 + a) [] := by
    rw [Nat.zero_add, List.map_take, List.getD_eq_getElem?_getD, List.getElem?_take_of_lt ha, List.getD_eq_getElem?_getD]
  rw [e2, zu (show 0 + a < l.length by omega), List.getD_eq_getElem?_getD]
  cases hx : (f l[0 + a])[j]? with
  | none => exact .undef _ _
  | some x => exact zck (zaR (hf _) hx)
theorem zmV (l : List St) : PredT (.fn (.func zb7) []) l ziR := ⟨_, _, rfl, by kernel_rfl, rfl, fun s _ => zgY s⟩
theorem zmo (t ad : Int) (l : List Bl) : zB Tryz.prog zeE [.int .i64 t, encP 2 [.int .u32 ad, encL 2 Bl.cells l]] (· = .bool (!inN l.length t)) := by
  refine fn_x zmp rfl ?_
  unfold zih inN
  have hB := hBig
  by_cases h0 : 0 ≤ t
  · by_cases h1 : t < l.length
    · rw [decide_eq_true ⟨h0, h1⟩]
      (repeat first | simp (disch := try exact dis1) only [evD, Nat.reduceBEq, Nat.reduceAdd, Nat.reduceLeDiff, fldP, dT, dF, zdI] | with_reducible intro _ | ((with_reducible apply And.intro); omega))
      exact ⟨_, .bool _ _, rfl⟩
    · rw [decide_eq_false (fun h => h1 h.2)]
      (repeat first | simp (disch := try exact dis1) only [evD, Nat.reduceBEq, Nat.reduceAdd, Nat.reduceLeDiff, fldP, dT, dF, zdI] | with_reducible intro _ | ((with_reducible apply And.intro); omega))
      exact ⟨_, .bool _ _, rfl⟩
  · rw [decide_eq_false (fun h => h0 h.1)]
    (repeat first | simp (disch := try exact dis1) only [evD, Nat.reduceBEq, Nat.reduceAdd, Nat.reduceLeDiff, fldP, dT, dF, zdI] | with_reducible intro _ | ((with_reducible apply And.intro); omega))
    exact ⟨_, .bool _ _, rfl⟩
theorem zks (ad : Int) (l : List Bl) (m : List Int) : PredI (.fn (.func zeE) [encP 2 [.int .u32 ad, encL 2 Bl.cells l]]) m (fun t => !inN l.length t) := ⟨_, _, rfl, by kernel_rfl, rfl, fun s _ => zmo s ad l⟩
theorem zpd (g : G) (hf : fewB g) (hc : ∀ b ∈ g.blocks, ∀ s ∈ b.stmts, s.cases.length ≤ 100000000) : zB Tryz.prog zit [.agg g.cells] (· = .bool (!g.blocks.isEmpty && g.blocks.all fun b => zcU b.stmts g.blocks.length)) := by
  refine fn_x zpu rfl ?_
  unfold zj4
  have hB := hBig
  obtain ⟨hb, hs⟩ := hf
  obtain ⟨ad, l⟩ := g
  simp only at hb hs hc
  simp only [G.cells]
  by_cases h0 : l.length = 0
  · obtain rfl : l = [] := List.eq_nil_of_length_eq_zero h0
    (repeat first | simp (disch := try exact dis1) only [evD, Nat.reduceBEq, Nat.reduceAdd, Nat.reduceLeDiff, fldP, dT, List.length_nil, zb2] | with_reducible intro _ | ((with_reducible apply And.intro); omega))
    exact ⟨_, .bool _ _, rfl⟩
  have he : l.isEmpty = false := by cases l with | nil => simp at h0 | cons a l => rfl
  rw [he]
  generalize hR : (l.all fun b => zcU b.stmts l.length) = R
  (repeat first | simp (disch := try exact dis1) only [evD, Nat.reduceBEq, Nat.reduceAdd, Nat.reduceLeDiff, fldP, dF] | with_reducible intro _ | ((with_reducible apply And.intro); omega))
  refine zl (fun i : Nat => ([(1, encP 2 [.int .u32 ad, encL 2 Bl.cells l]), (11, encL 2 Bl.cells l), (12, .int .i64 l.length), (13, .int .i64 i)], [])) 0 (fun i => i ≤ l.length ∧ ((l.drop i).all fun b => zcU b.stmts l.length) = R) (fun i => l.length - i) 0 ⟨Nat.zero_le _, hR⟩ (Ent.keep rfl fin5) ?_
  rintro i ⟨hi, hgo⟩ wf
  unfold zhE
  by_cases hl : i < l.length
  · have hg : (l.map Bl.cells).getD i [] = [.int .u32 l[i].addr, encL 8 St.cells l[i].stmts] := zu hl
    have hss := zgF l[i] (hc _ (List.getElem_mem hl))
    rw [List.drop_eq_getElem_cons hl, List.all_cons] at hgo
    simp only [Bl.cells] at hss
    generalize l[i].stmts = m at hg hgo hss
    generalize l[i].addr = ad' at hg hss
    by_cases hm0 : m.length = 0
    · obtain rfl : m = [] := List.eq_nil_of_length_eq_zero hm0
      replace hgo : R = false := by rw [← hgo]; rfl
      subst hgo
      (repeat first | simp (disch := try exact dis1) only [evD, Nat.reduceBEq, Nat.reduceAdd, Nat.reduceLeDiff, fldP, dT, hg, List.length_nil, zb2] | with_reducible intro _ | ((with_reducible apply And.intro); omega))
      exact ⟨_, .bool _ _, rfl⟩
    have hlast : m.length - 1 < m.length := by omega
    have hidx : (((m.length : Nat) : Int) - 1).toNat = m.length - 1 := by omega
    have hme : m.isEmpty = false := by cases m with | nil => simp at hm0 | cons a l => rfl
    unfold zcU at hgo
    rw [hme, zkl m hlast] at hgo
    (repeat first | simp (disch := try exact dis1) only [evD, Nat.reduceBEq, Nat.reduceAdd, Nat.reduceLeDiff, fldP, dT, dF, hg, hidx, zu hlast, St.len, St.eight] | with_reducible intro _ | ((with_reducible apply And.intro); omega))
    refine zh (zn (zgY m[m.length - 1]) rfl) ?_
    generalize ziR m[m.length - 1] = q at hgo
    cases q with
    | false =>
      replace hgo : R = false := by rw [← hgo]; rfl
      subst hgo
      (repeat first | simp (disch := try exact dis1) only [evD, Nat.reduceBEq, Nat.reduceAdd, Nat.reduceLeDiff, zb2] | with_reducible intro _ | ((with_reducible apply And.intro); omega))
      exact ⟨_, .bool _ _, rfl⟩
    | true =>
      (repeat first | simp (disch := try exact dis1) only [evD, Nat.reduceBEq, Nat.reduceAdd, Nat.reduceLeDiff, fldP, zkW, hidx] | with_reducible intro _ | ((with_reducible apply And.intro); omega))
      refine zh (zaO (D := noR) (zgs (m.take (m.length - 1)) _ _ (zmV _)) (.cons (zwi (by omega) (by omega) rfl (fun _ => rfl)) (.cons (zr2 (zmV (m.take (m.length - 1)))) .nil)) (.inl rfl)) ?_
      generalize (m.take (m.length - 1)).any ziR = q at hgo
      cases q with
      | true =>
        replace hgo : R = false := by rw [← hgo]; rfl
        subst hgo
        (repeat first | simp (disch := try exact dis1) only [evD, Nat.reduceBEq, Nat.reduceAdd, Nat.reduceLeDiff, zb2] | with_reducible intro _ | ((with_reducible apply And.intro); omega))
        exact ⟨_, .bool _ _, rfl⟩
      | false =>
        (repeat first | simp (disch := try exact dis1) only [evD, Nat.reduceBEq, Nat.reduceAdd, Nat.reduceLeDiff, fldP] | with_reducible intro _ | ((with_reducible apply And.intro); omega))
        refine zh (zn hss rfl) ?_
        (repeat first | simp (disch := try exact dis1) only [evD, Nat.reduceBEq, Nat.reduceAdd, Nat.reduceLeDiff, fldP] | with_reducible intro _ | ((with_reducible apply And.intro); omega))
        refine zh (zaO (D := noR) (zgm (zz m) _ _ (zks ad l _)) (.cons (zW rfl) (.cons (zrz (zks ad l (zz m))) .nil)) (.inl rfl)) ?_
        rw [List.all_eq_not_any_not] at hgo
        generalize ((zz m).any fun t => !inN l.length t) = q at hgo
        cases q with
        | true =>
          replace hgo : R = false := by rw [← hgo]; rfl
          subst hgo
          (repeat first | simp (disch := try exact dis1) only [evD, Nat.reduceBEq, Nat.reduceAdd, Nat.reduceLeDiff, zb2] | with_reducible intro _ | ((with_reducible apply And.intro); omega))
          exact ⟨_, .bool _ _, rfl⟩
        | false =>
          replace hgo : ((l.drop (i + 1)).all fun b => zcU b.stmts l.length) = R := by rw [← hgo]; rfl
          (repeat first | simp (disch := try exact dis1) only [evD, Nat.reduceBEq, Nat.reduceAdd, Nat.reduceLeDiff] | with_reducible intro _ | ((with_reducible apply And.intro); omega))
          exact ⟨i + 1, ⟨by omega, hgo⟩, by omega, (Ent.tab [] [] rfl (by (try simp only [evWB, Nat.reduceBEq, Nat.reduceAdd, Nat.reduceSub, Nat.reduceLeDiff, Nat.reduceLT, implies_true]) <;> exact fin2) (by (try simp only [evWB, Nat.reduceBEq, Nat.reduceAdd, Nat.reduceSub, Nat.reduceLeDiff, Nat.reduceLT, implies_true]) <;> exact fin2))⟩
  · rw [List.drop_of_length_le (by omega)] at hgo
    replace hgo : R = true := by rw [← hgo]; rfl
    subst hgo
    (repeat first | simp (disch := try exact dis1) only [evD, Nat.reduceBEq, Nat.reduceAdd, Nat.reduceLeDiff, fldP, dF] | with_reducible intro _ | ((with_reducible apply And.intro); omega))
    unfold zhJ
    (repeat first | simp (disch := try exact dis1) only [evD, Nat.reduceBEq, Nat.reduceAdd, Nat.reduceLeDiff, zb2] | with_reducible intro _ | ((with_reducible apply And.intro); omega))
    exact ⟨_, .bool _ _, rfl⟩
theorem zkA (g : G) (hf : fewB g) (hc : ∀ b ∈ g.blocks, ∀ s ∈ b.stmts, s.cases.length ≤ 100000000) : zB Tryz.prog zeI [.agg g.cells] (· = .int .i64 (zhx g)) := by
  refine fn_x zku rfl ?_
  unfold zgV
  have hB := hBig
  have hsh := zpd g hf hc
  obtain ⟨hb, hs⟩ := hf
  obtain ⟨ad, l⟩ := g
  simp only at hb hs hsh
  simp only [G.cells, zhx, zr1] at hsh ⊢
  (repeat first | simp (disch := try exact dis1) only [evD, Nat.reduceBEq, Nat.reduceAdd, Nat.reduceLeDiff, fldP] | with_reducible intro _ | ((with_reducible apply And.intro); omega))
  refine zl (fun s : Nat × Nat => ([(1, encP 2 [.int .u32 ad, encL 2 Bl.cells l]), (3, .int .i64 s.2), (12, encL 2 Bl.cells l), (13, .int .i64 l.length), (14, .int .i64 s.1)], [])) 0 (fun s => s.1 ≤ l.length ∧ s.2 = zD (l.take s.1) ∧ s.2 ≤ 1100 * s.1) (fun s => l.length - s.1) (0, 0) ⟨Nat.zero_le _, rfl, Nat.le_refl _⟩ (Ent.keep rfl fin5) ?_
  rintro ⟨i, n⟩ ⟨hi, hct, hn⟩ wf
  simp only at hi hn hct
  unfold ze8
  by_cases hl : i < l.length
  · have hg : (l.map Bl.cells).getD i [] = [.int .u32 l[i].addr, encL 8 St.cells l[i].stmts] := zu hl
    have hsl := hs l[i] (List.getElem_mem hl)
    (repeat first | simp (disch := try exact dis1) only [evD, Nat.reduceBEq, Nat.reduceAdd, Nat.reduceLeDiff, fldP, dT, hg] | with_reducible intro _ | ((with_reducible apply And.intro); omega))
    exact ⟨(i + 1, n + l[i].stmts.length), ⟨by simp only; omega, by simp only; rw [zl5 hl, hct], by simp only; omega⟩, by simp only; omega, (Ent.tab [] [] rfl (by (try simp only [evWB, Nat.reduceBEq, Nat.reduceAdd, Nat.reduceSub, Nat.reduceLeDiff, Nat.reduceLT, implies_true]) <;> exact fin2) (by (try simp only [evWB, Nat.reduceBEq, Nat.reduceAdd, Nat.reduceSub, Nat.reduceLeDiff, Nat.reduceLT, implies_true]) <;> exact fin2))⟩
  rw [List.take_of_length_le (by omega)] at hct
  (repeat first | simp (disch := try exact dis1) only [evD, Nat.reduceBEq, Nat.reduceAdd, Nat.reduceLeDiff, fldP, dF] | with_reducible intro _ | ((with_reducible apply And.intro); omega))
  unfold zeR
  by_cases h256 : 256 < l.length
  · rw [if_pos (.inl h256)]
    (repeat first | simp (disch := try exact dis1) only [evD, Nat.reduceBEq, Nat.reduceAdd, Nat.reduceLeDiff, fldP, dT, zbk] | with_reducible intro _ | ((with_reducible apply And.intro); omega))
    exact ⟨_, .int _ _ _, rfl⟩
  by_cases h1024 : 1024 < n
  · rw [if_pos (.inr (by omega))]
    (repeat first | simp (disch := try exact dis1) only [evD, Nat.reduceBEq, Nat.reduceAdd, Nat.reduceLeDiff, fldP, dT, dF, zbk] | with_reducible intro _ | ((with_reducible apply And.intro); omega))
    exact ⟨_, .int _ _ _, rfl⟩
  rw [if_neg (by omega)]
  (repeat first | simp (disch := try exact dis1) only [evD, Nat.reduceBEq, Nat.reduceAdd, Nat.reduceLeDiff, fldP, dF, zkD, tab, List.getD_cons_zero, List.getD_cons_succ] | with_reducible intro _ | ((with_reducible apply And.intro); omega))
  refine zh (zn hsh rfl) ?_
  generalize (!l.isEmpty && l.all fun b => zcU b.stmts l.length) = q
  cases q with
  | false =>
    (repeat first | simp (disch := try exact dis1) only [evD, Nat.reduceBEq, Nat.reduceAdd, Nat.reduceLeDiff, zbk] | with_reducible intro _ | ((with_reducible apply And.intro); omega))
    exact ⟨_, .int _ _ _, rfl⟩
  | true =>
  rw [if_pos rfl]
  (repeat first | simp (disch := try exact dis1) only [evD, Nat.reduceBEq, Nat.reduceAdd, Nat.reduceLeDiff, fldP] | with_reducible intro _ | ((with_reducible apply And.intro); omega))
  refine zl (fun i : Nat => ([(36, encL 2 Bl.cells l), (37, .int .i64 l.length), (38, .int .i64 i)], [])) 0 (fun i => i ≤ l.length ∧ zfz (l.drop i) = zfz l) (fun i => l.length - i) 0 ⟨Nat.zero_le _, rfl⟩ (Ent.keep rfl fin5) ?_
  rintro i ⟨hi, hgo⟩ wf
  unfold zeK
  by_cases hl : i < l.length
  · have hg : (l.map Bl.cells).getD i [] = [.int .u32 l[i].addr, encL 8 St.cells l[i].stmts] := zu hl
    have hsl := hs l[i] (List.getElem_mem hl)
    rw [zkX hl] at hgo
    (repeat first | simp (disch := try exact dis1) only [evD, Nat.reduceBEq, Nat.reduceAdd, Nat.reduceLeDiff, fldP, dT, hg] | with_reducible intro _ | ((with_reducible apply And.intro); omega))
    generalize l[i].stmts = m at hg hgo hsl
    generalize l[i].addr = ad' at hg
    refine zl (fun j : Nat => ([(36, encL 2 Bl.cells l), (37, .int .i64 l.length), (38, .int .i64 i), (43, encL 8 St.cells m), (44, .int .i64 m.length), (45, .int .i64 j)], [])) 0 (fun j => j ≤ m.length ∧ zdq (m.drop j) = zdq m) (fun j => m.length - j) 0 ⟨Nat.zero_le _, rfl⟩ (Ent.tab [] [] rfl (by (try simp only [evWB, Nat.reduceBEq, Nat.reduceAdd, Nat.reduceSub, Nat.reduceLeDiff, Nat.reduceLT, implies_true]) <;> exact fin2) (by (try simp only [evWB, Nat.reduceBEq, Nat.reduceAdd, Nat.reduceSub, Nat.reduceLeDiff, Nat.reduceLT, implies_true]) <;> exact fin2)) ?_
    rintro j ⟨hj, hgo2⟩ wf2
    unfold zfh
    by_cases hm : j < m.length
    · rw [zmd hm] at hgo2
      (repeat first | simp (disch := try exact dis1) only [evD, Nat.reduceBEq, Nat.reduceAdd, Nat.reduceLeDiff, fldP, dT, zu hm, St.len, St.eight, St.flat] | with_reducible intro _ | ((with_reducible apply And.intro); omega))
      refine zh (zn (zlo m[j]) rfl) ?_
      by_cases hx : m[j].check = 0
      · rw [if_neg (by omega)] at hgo2
        (repeat first | simp (disch := try exact dis1) only [evD, Nat.reduceBEq, Nat.reduceAdd, Nat.reduceLeDiff, dF] | with_reducible intro _ | ((with_reducible apply And.intro); omega))
        exact ⟨j + 1, ⟨by omega, hgo2⟩, by omega, (Ent.tab [] [] rfl (by (try simp only [evWB, Nat.reduceBEq, Nat.reduceAdd, Nat.reduceSub, Nat.reduceLeDiff, Nat.reduceLT, implies_true]) <;> exact fin2) (by (try simp only [evWB, Nat.reduceBEq, Nat.reduceAdd, Nat.reduceSub, Nat.reduceLeDiff, Nat.reduceLT, implies_true]) <;> exact fin2))⟩
      · rw [if_pos hx] at hgo2
        rw [← hgo2, if_pos hx] at hgo
        rw [← hgo]
        (repeat first | simp (disch := try exact dis1) only [evD, Nat.reduceBEq, Nat.reduceAdd, Nat.reduceLeDiff, dT, zbk] | with_reducible intro _ | ((with_reducible apply And.intro); omega))
        exact ⟨_, .int _ _ _, rfl⟩
    · rw [List.drop_of_length_le (by omega), zdq] at hgo2
      rw [← hgo2, if_neg (by omega)] at hgo
      (repeat first | simp (disch := try exact dis1) only [evD, Nat.reduceBEq, Nat.reduceAdd, Nat.reduceLeDiff, fldP, dF] | with_reducible intro _ | ((with_reducible apply And.intro); omega))
      unfold ze5
      (repeat first | simp (disch := try exact dis1) only [evD, Nat.reduceBEq, Nat.reduceAdd, Nat.reduceLeDiff] | with_reducible intro _ | ((with_reducible apply And.intro); omega))
      exact ⟨i + 1, ⟨by omega, hgo⟩, by omega, Ent.keep rfl fin5⟩
  rw [List.drop_of_length_le (by omega), zfz] at hgo
  rw [← hgo]
  (repeat first | simp (disch := try exact dis1) only [evD, Nat.reduceBEq, Nat.reduceAdd, Nat.reduceLeDiff, fldP, dF] | with_reducible intro _ | ((with_reducible apply And.intro); omega))
  unfold zeL
  (repeat first | simp (disch := try exact dis1) only [evD, Nat.reduceBEq, Nat.reduceAdd, Nat.reduceLeDiff, zbk] | with_reducible intro _ | ((with_reducible apply And.intro); omega))
  exact ⟨_, .int _ _ _, rfl⟩
mutual
def zkr : Ex → Bool
  | .mk op _ _ _ l => decide (op = 18) || zll l
def zll : List Ex → Bool
  | [] => false
  | x :: l => zkr x || zll l
end
theorem zlF : ∀ l : List Ex, zll l = l.any zkr
  | [] => by rw [zll]; rfl
  | x :: l => by rw [zll, zlF l]; rfl
theorem zjF : ∀ (k : Nat) (e : Ex), zbl e ≤ k → zB Tryz.prog zbi [.agg (encX e)] (· = .bool (zkr e)) := by
  intro k
  induction k with
  | zero => intro e h; obtain ⟨_, _, _, _, l⟩ := e; rw [zbl] at h; omega
  | succ k ih =>
  intro e hk
  obtain ⟨op, nn, v, w, l⟩ := e
  refine fn_x zjD rfl ?_
  unfold zf3
  have hB := hBig
  rw [zbl] at hk
  rw [zb3, zkr, zlF]
  by_cases h1 : op = 18
  · rw [decide_eq_true h1, Bool.true_or]
    (repeat first | simp (disch := try exact dis1) only [evD, Nat.reduceBEq, Nat.reduceAdd, Nat.reduceLeDiff, fldP, dT, encP, zdt] | with_reducible intro _ | ((with_reducible apply And.intro); omega))
    exact ⟨_, .bool _ _, rfl⟩
  · rw [decide_eq_false h1, Bool.false_or]
    have hp : PredE (.fn (.func zbi) []) l zkr := ⟨_, _, rfl, by kernel_rfl, rfl, fun s hs => ih s (by have := zdb hs; omega)⟩
    (repeat first | simp (disch := try exact dis1) only [evD, Nat.reduceBEq, Nat.reduceAdd, Nat.reduceLeDiff, fldP, dF] | with_reducible intro _ | ((with_reducible apply And.intro); omega))
    refine zh (zaO (D := noR) (zH l _ _ hp) (.cons (zW rfl) (.cons (zcI hp) .nil)) (.inl rfl)) ?_
    (repeat first | simp (disch := try exact dis1) only [evD, Nat.reduceBEq, Nat.reduceAdd, Nat.reduceLeDiff, zdt] | with_reducible intro _ | ((with_reducible apply And.intro); omega))
    exact ⟨_, .bool _ _, rfl⟩
theorem zkS (l : List Ex) : PredE (.fn (.func zbi) []) l zkr := ⟨_, _, rfl, by kernel_rfl, rfl, fun s _ => zjF _ s (Nat.le_refl _)⟩
def remS (s : St) (a : List Int) : Bool := decide (s.op = 1) && (!decide (s.var ∈ a) && !s.e.any zkr)
theorem zhB (s : St) (a : MS) : z6 Tryz.prog zcs [.agg s.cells, .mp 0 0] [(0, .row 3 ((setM a.1 a.2).map cm) 0)] 1
    (fun v H nx => v = .bool (remS s a.keys) ∧ H = [(0, .row 3 ((setM a.1 a.2).map cm) 0)] ∧ nx = 1) := by
  refine zcl (fn_x zhK rfl ?_)
  unfold zdS
  have hB := hBig
  obtain ⟨c, ps⟩ := a
  obtain ⟨op, var, width, next, els, tgt, l, cs⟩ := s
  unfold remS MS.keys
  simp only
  by_cases h1 : op = 1
  · rw [decide_eq_true h1, Bool.true_and]
    by_cases hm : var ∈ ps.map (·.1)
    · obtain ⟨j, hj, hje, hf⟩ := ziM hm
      rw [decide_eq_true hm]
      (repeat first | simp (disch := try exact dis1) only [evD, Nat.reduceBEq, Nat.reduceAdd, Nat.reduceLeDiff, fldP, St.cells, za, dT, zr, hf, zbn, Bool.not_true, Bool.false_and] | with_reducible intro _ | ((with_reducible apply And.intro); omega))
      exact ⟨.bool false, _, _, (Ent.tabB [(0, 0, 0)] [] rfl rfl rfl (by (try simp only [evWB, Nat.reduceBEq, Nat.reduceAdd, Nat.reduceSub, Nat.reduceLeDiff, Nat.reduceLT, implies_true, zr]) <;> exact fin6) (by (try simp only [evWB, Nat.reduceBEq, Nat.reduceAdd, Nat.reduceSub, Nat.reduceLeDiff, Nat.reduceLT, implies_true, zr]) <;> exact fin6)), rfl, rfl, rfl⟩
    · have hf := zhY hm
      rw [decide_eq_false hm]
      (repeat first | simp (disch := try exact dis1) only [evD, Nat.reduceBEq, Nat.reduceAdd, Nat.reduceLeDiff, fldP, St.cells, za, dT, zr, hf] | with_reducible intro _ | ((with_reducible apply And.intro); omega))
      refine zh (zaO (D := noR) (zH l _ _ (zkS l)) (.cons (zW rfl) (.cons (zcI (zkS l)) .nil)) (.inl rfl)) ?_
      (repeat first | simp (disch := try exact dis1) only [evD, Nat.reduceBEq, Nat.reduceAdd, Nat.reduceLeDiff, zbn, Bool.not_false, Bool.true_and] | with_reducible intro _ | ((with_reducible apply And.intro); omega))
      exact ⟨.bool (!l.any zkr), _, _, (Ent.tabB [(0, 0, 0)] [] rfl rfl rfl (by (try simp only [evWB, Nat.reduceBEq, Nat.reduceAdd, Nat.reduceSub, Nat.reduceLeDiff, Nat.reduceLT, implies_true, zr]) <;> exact fin6) (by (try simp only [evWB, Nat.reduceBEq, Nat.reduceAdd, Nat.reduceSub, Nat.reduceLeDiff, Nat.reduceLT, implies_true, zr]) <;> exact fin6)), rfl, rfl, rfl⟩
  · rw [decide_eq_false h1, Bool.false_and]
    (repeat first | simp (disch := try exact dis1) only [evD, Nat.reduceBEq, Nat.reduceAdd, Nat.reduceLeDiff, fldP, St.cells, za, dF, zr, zbn] | with_reducible intro _ | ((with_reducible apply And.intro); omega))
    exact ⟨.bool false, _, _, (Ent.tabB [(0, 0, 0)] [] rfl rfl rfl (by (try simp only [evWB, Nat.reduceBEq, Nat.reduceAdd, Nat.reduceSub, Nat.reduceLeDiff, Nat.reduceLT, implies_true, zr]) <;> exact fin6) (by (try simp only [evWB, Nat.reduceBEq, Nat.reduceAdd, Nat.reduceSub, Nat.reduceLeDiff, Nat.reduceLT, implies_true, zr]) <;> exact fin6)), rfl, rfl, rfl⟩
theorem zjP : ∀ (k : Nat) (e : Ex), zbl e ≤ k → k ≤ 1000000 → zB Tryz.prog zcG [.agg (encX e)] (· = .agg (encX e)) := by
  intro k
  induction k with
  | zero => intro e h; obtain ⟨_, _, _, _, l⟩ := e; rw [zbl] at h; omega
  | succ k ih =>
  intro e hk hk2
  obtain ⟨op, nn, v, w, l⟩ := e
  refine fn_x zjO rfl ?_
  unfold zgf
  have hB := hBig
  rw [zbl] at hk
  have hll : l.length ≤ zA l := zhS l
  rw [zb3]
  (repeat first | simp (disch := try exact dis1) only [evD, Nat.reduceBEq, Nat.reduceAdd, Nat.reduceLeDiff, fldP] | with_reducible intro _ | ((with_reducible apply And.intro); omega))
  refine zl (fun i : Nat => ([(1, .ptr 0 0 0 0 0), (2, .ptr 1 0 0 0 0), (3, .own 2 0 0 0 i), (7, encL 5 encX l), (8, .int .i64 l.length), (9, .int .i64 i)], [(0, .row 5 [[.int .i64 op, .int .u32 nn, .int .i64 v, .int .i64 w, encL 5 encX l]] 0), (1, .row 5 [[.int .i64 0, .int .u32 0, .int .i64 0, .int .i64 0, .nilsl]] 0), (2, .row 5 ((l.take i).map encX) 0)])) 3
    (fun i => i ≤ l.length) (fun i => l.length - i) 0 (Nat.zero_le _) (Ent.tab [(0, 0, 0), (1, 1, 0), (2, 2, 0)] [] rfl (by (try simp only [evWB, Nat.reduceBEq, Nat.reduceAdd, Nat.reduceSub, Nat.reduceLeDiff, Nat.reduceLT, implies_true, List.take_zero]) <;> exact fin2) (by (try simp only [evWB, Nat.reduceBEq, Nat.reduceAdd, Nat.reduceSub, Nat.reduceLeDiff, Nat.reduceLT, implies_true, List.take_zero]) <;> exact fin2)) ?_
  rintro i hi wf
  unfold zeb
  by_cases hil : i < l.length
  · have hm := zdb (List.getElem_mem hil)
    have htk : (l.take (i + 1)).map encX = (l.take i).map encX ++ [encX l[i]] := by rw [List.take_add_one, List.getElem?_eq_getElem hil, List.map_append]; rfl
    have htl : ((l.take i).map encX).length = i := by rw [List.length_map, List.length_take]; omega
    generalize l.take i = T at htk htl ⊢
    have htT : (T.map encX).take i = T.map encX := List.take_of_length_le (by omega)
    (repeat first | simp (disch := try exact dis1) only [evD, Nat.reduceBEq, Nat.reduceAdd, Nat.reduceLeDiff, fldP, dT, zu hil, zbd, zau, zb] | with_reducible intro _ | ((with_reducible apply And.intro); omega))
    refine zh (zn (ih l[i] (by omega) (by omega)) (flX rfl)) ?_
    (repeat first | simp (disch := try exact dis1) only [evD, Nat.reduceBEq, Nat.reduceAdd, Nat.reduceLeDiff, zbd, zau, zb, htl, htT] | with_reducible intro _ | ((with_reducible apply And.intro); omega))
    refine ⟨i + 1, by omega, by omega, ?_⟩
    exact (Ent.tab [(0, 0, 0), (1, 1, 0), (2, 2, 1)] [] rfl (by (try simp only [evWB, Nat.reduceBEq, Nat.reduceAdd, Nat.reduceSub, Nat.reduceLeDiff, Nat.reduceLT, implies_true, htk]) <;> exact fin7) (by (try simp only [evWB, Nat.reduceBEq, Nat.reduceAdd, Nat.reduceSub, Nat.reduceLeDiff, Nat.reduceLT, implies_true, htk]) <;> exact fin7))
  · obtain rfl : i = l.length := by omega
    rw [List.take_length]
    (repeat first | simp (disch := try exact dis1) only [evD, Nat.reduceBEq, Nat.reduceAdd, Nat.reduceLeDiff, fldP, dF] | with_reducible intro _ | ((with_reducible apply And.intro); omega))
    unfold zen
    (repeat first | simp (disch := try exact dis1) only [evD, Nat.reduceBEq, Nat.reduceAdd, Nat.reduceLeDiff, fldP] | with_reducible intro _ | ((with_reducible apply And.intro); omega))
    (repeat first | simp (disch := try exact dis1) only [evD, Nat.reduceBEq, Nat.reduceAdd, Nat.reduceLeDiff, zf5] | with_reducible intro _ | ((with_reducible apply And.intro); omega))
    refine ⟨.agg [.int .i64 op, .int .u32 nn, .int .i64 v, .int .i64 w, encL 5 encX l], .agg _ _ _ rfl (fun j a c h1 h2 => ?_), rfl⟩
    match j with
    | 0 => cases h1; cases h2; exact .int _ _ _
    | 1 => cases h1; cases h2; exact .int _ _ _
    | 2 => cases h1; cases h2; exact .int _ _ _
    | 3 => cases h1; cases h2; exact .int _ _ _
    | 4 => cases h1; cases h2; exact zrI trivial rfl (by omega)
    | j + 5 => cases h1
theorem zx2 {H H2 : AH} {σ : Nat → Nat → Option (Nat × Nat × Nat)} {D : Nat → Nat → Prop} {t : Bool} {r q g : Nat} {l : List St} (hD : D r q) (hg : H.get r q = some (.row 8 (l.map St.cells) g)) (hb : l.length ≤ big) : Vw H H2 σ D t (.own r q g 0 l.length) (encL 8 St.cells l) :=
  zhk hD hg hb fun a _ j _ => by
    rw [List.getD_eq_getElem?_getD]
    cases hx : a.cells[j]? with
    | none => exact .undef _ _
    | some x => exact zck (zaR a.flat hx)
theorem zvx {H H2 : AH} {σ : Nat → Nat → Option (Nat × Nat × Nat)} {D : Nat → Nat → Prop} {t : Bool} {r q g : Nat} {l : List Bl} (hD : D r q) (hg : H.get r q = some (.row 2 (l.map Bl.cells) g)) (hb : l.length ≤ big) : Vw H H2 σ D t (.own r q g 0 l.length) (encL 2 Bl.cells l) :=
  zhk hD hg hb fun a _ j _ => by
    rw [List.getD_eq_getElem?_getD]
    cases hx : a.cells[j]? with
    | none => exact .undef _ _
    | some x => exact zck (zaR (show zI a.cells = true from rfl) hx)
theorem zu3 {Q : QT} (ad ad2 : Int) (bl : List Bl) (done : List Bl) (i : Nat) (sts : List St) (j : Nat) (op var width next els tgt : Int) (l : List Ex) (cs : List Int) (hsz : zA l ≤ 100000)
    (hcs : cs.length ≤ 1000000) (hj : j < sts.length) (hjl : sts.length ≤ 1000000) (hst : sts[j] = ⟨op, var, width, next, els, tgt, l, cs⟩)
    (hfin : ∀ K H nx, Ent 0 K H nx [(2, .ptr 0 0 0 0 0), (3, .ptr 1 0 0 0 0), (6, .ptr 3 0 0 0 0), (16, encL 2 Bl.cells bl), (17, .int .i64 bl.length), (18, .int .i64 i), (26, encL 8 St.cells sts), (27, .int .i64 sts.length), (28, .int .i64 ((j + 1 : Nat) : Int))]
      [(0, .row 2 [[.int .u32 0, .nilsl]] 0), (1, .row 2 [[.int .u32 ad, .own 2 0 0 0 done.length]] 0), (2, .row 2 (done.map Bl.cells) 0), (3, .row 2 [[.int .u32 ad2, .own 4 0 0 0 (j + 1)]] 0), (4, .row 8 ((sts.take (j + 1)).map St.cells) 0)] 5 → Q .normal K H nx)
    {K : Kn} {H : AH} {nx : Nat} (hent : Ent 0 K H nx [(2, .ptr 0 0 0 0 0), (3, .ptr 1 0 0 0 0), (6, .ptr 3 0 0 0 0), (8, .ptr 5 0 0 0 0), (9, .own 6 0 0 0 0), (16, encL 2 Bl.cells bl), (17, .int .i64 bl.length), (18, .int .i64 i), (26, encL 8 St.cells sts), (27, .int .i64 sts.length), (28, .int .i64 j), (33, encL 5 encX l), (34, .int .i64 l.length), (35, .int .i64 0)]
      [(0, .row 2 [[.int .u32 0, .nilsl]] 0), (1, .row 2 [[.int .u32 ad, .own 2 0 0 0 done.length]] 0), (2, .row 2 (done.map Bl.cells) 0), (3, .row 2 [[.int .u32 ad2, .own 4 0 0 0 j]] 0), (4, .row 8 ((sts.take j).map St.cells) 0), (5, .row 8 [[.int .i64 op, .int .i64 var, .int .i64 width, .int .i64 next, .int .i64 els, .int .u32 tgt, encL 5 encX l, za cs]] 0), (6, .row 5 [] 0)] 7) :
    zg2 Tryz.prog 0 zb8 (zaX 4 (seqQ Tryz.prog 0 zce (zaX 3 (seqQ Tryz.prog 0 zb9 Q)))) K H nx := by
  have hB := hBig
  have hll : l.length ≤ zA l := zhS l
  refine zl (fun m : Nat => ([(2, .ptr 0 0 0 0 0), (3, .ptr 1 0 0 0 0), (6, .ptr 3 0 0 0 0), (8, .ptr 5 0 0 0 0), (9, .own 6 0 0 0 m), (16, encL 2 Bl.cells bl), (17, .int .i64 bl.length), (18, .int .i64 i), (26, encL 8 St.cells sts), (27, .int .i64 sts.length), (28, .int .i64 j), (33, encL 5 encX l), (34, .int .i64 l.length), (35, .int .i64 m)],
      [(0, .row 2 [[.int .u32 0, .nilsl]] 0), (1, .row 2 [[.int .u32 ad, .own 2 0 0 0 done.length]] 0), (2, .row 2 (done.map Bl.cells) 0), (3, .row 2 [[.int .u32 ad2, .own 4 0 0 0 j]] 0), (4, .row 8 ((sts.take j).map St.cells) 0), (5, .row 8 [[.int .i64 op, .int .i64 var, .int .i64 width, .int .i64 next, .int .i64 els, .int .u32 tgt, encL 5 encX l, za cs]] 0), (6, .row 5 ((l.take m).map encX) 0)])) 7
    (fun m => m ≤ l.length) (fun m => l.length - m) 0 (Nat.zero_le _) hent ?_
  rintro m hm wf
  unfold zb8
  by_cases hil : m < l.length
  · have hmm := zdb (List.getElem_mem hil)
    have htk : (l.take (m + 1)).map encX = (l.take m).map encX ++ [encX l[m]] := by rw [List.take_add_one, List.getElem?_eq_getElem hil, List.map_append]; rfl
    have htl : ((l.take m).map encX).length = m := by rw [List.length_map, List.length_take]; omega
    generalize l.take m = T at htk htl ⊢
    generalize sts.take j = S at *
    have htT : (T.map encX).take m = T.map encX := List.take_of_length_le (by omega)
    (repeat first | simp (disch := try exact dis1) only [evD, Nat.reduceBEq, Nat.reduceAdd, Nat.reduceLeDiff, fldP, dT, zu hil, zbd, zau, zb] | with_reducible intro _ | ((with_reducible apply And.intro); omega))
    refine zh (zn (zjP (zbl l[m]) l[m] (Nat.le_refl _) (by omega)) (flX rfl)) ?_
    (repeat first | simp (disch := try exact dis1) only [evD, Nat.reduceBEq, Nat.reduceAdd, Nat.reduceLeDiff, zbd, zau, zb, htl, htT] | with_reducible intro _ | ((with_reducible apply And.intro); omega))
    refine ⟨m + 1, by omega, by omega, ?_⟩
    exact (Ent.tab [(0, 0, 0), (1, 1, 0), (2, 2, 0), (3, 3, 0), (4, 4, 0), (5, 5, 0), (6, 6, 1)] [] rfl (by (try simp only [evWB, Nat.reduceBEq, Nat.reduceAdd, Nat.reduceSub, Nat.reduceLeDiff, Nat.reduceLT, implies_true, htk]) <;> exact fin7) (by (try simp only [evWB, Nat.reduceBEq, Nat.reduceAdd, Nat.reduceSub, Nat.reduceLeDiff, Nat.reduceLT, implies_true, htk]) <;> exact fin7))
  · obtain rfl : m = l.length := by omega
    rw [List.take_length]
    (repeat first | simp (disch := try exact dis1) only [evD, Nat.reduceBEq, Nat.reduceAdd, Nat.reduceLeDiff, dF] | with_reducible intro _ | ((with_reducible apply And.intro); omega))
    unfold zce
    (repeat first | simp (disch := try exact dis1) only [evD, Nat.reduceBEq, Nat.reduceAdd, Nat.reduceLeDiff] | with_reducible intro _ | ((with_reducible apply And.intro); omega))
    refine zT [] 0 _ (zoo cs (by omega)) rfl rfl (by (try simp only [evWB, Nat.reduceBEq, Nat.reduceAdd, Nat.reduceSub, Nat.reduceLeDiff, Nat.reduceLT, implies_true]) <;> exact fin1) (by (try simp only [evWB, Nat.reduceBEq, Nat.reduceAdd, Nat.reduceSub, Nat.reduceLeDiff, Nat.reduceLT, implies_true]) <;> exact fin1) ?_
    rintro _ _ _ ⟨rfl, rfl, rfl⟩
    have hl8 : ((sts.take j).map St.cells).length = j := by rw [List.length_map, List.length_take]; omega
    have hsj : sts.take (j + 1) = sts.take j ++ [⟨op, var, width, next, els, tgt, l, cs⟩] := by rw [List.take_add_one, List.getElem?_eq_getElem hj, hst]; rfl
    rw [hsj] at hfin
    generalize sts.take j = S at *
    have hS8 : (S.map St.cells).take j = S.map St.cells := List.take_of_length_le (by omega)
    (repeat first | simp (disch := try exact dis1) only [evD, Nat.reduceBEq, Nat.reduceAdd, Nat.reduceLeDiff, renI, hl8, hS8] | with_reducible intro _ | ((with_reducible apply And.intro); omega))
    unfold zb9
    (repeat first | simp (disch := try exact dis1) only [evD, Nat.reduceBEq, Nat.reduceAdd, Nat.reduceLeDiff] | with_reducible intro _ | ((with_reducible apply And.intro); omega))
    refine hfin _ _ _ ?_
    exact (Ent.tab [(0, 0, 0), (1, 1, 0), (2, 2, 0), (3, 3, 0), (4, 4, 1)] [6, 7] rfl (by (try simp only [evWB, Nat.reduceBEq, Nat.reduceAdd, Nat.reduceSub, Nat.reduceLeDiff, Nat.reduceLT, implies_true, List.map_append, List.map_cons, List.map_nil, St.cells]) <;> exact fin7) (by (try simp only [evWB, Nat.reduceBEq, Nat.reduceAdd, Nat.reduceSub, Nat.reduceLeDiff, Nat.reduceLT, implies_true, List.map_append, List.map_cons, List.map_nil, St.cells]) <;> exact fin7))
theorem zuX {Q : QT} (ad ad2 : Int) (bl : List Bl) (i : Nat) (hi : i < bl.length) (hbl : bl.length ≤ 1000000) (sts : List St) (hb : bl[i] = ⟨ad2, sts⟩) (hjl : sts.length ≤ 1000000)
    (hsz : ∀ s ∈ sts, zA s.e ≤ 100000 ∧ s.cases.length ≤ 1000000)
    (hfin : ∀ K H nx, Ent 0 K H nx [(2, .ptr 0 0 0 0 0), (3, .ptr 1 0 0 0 0), (16, encL 2 Bl.cells bl), (17, .int .i64 bl.length), (18, .int .i64 ((i + 1 : Nat) : Int))]
      [(0, .row 2 [[.int .u32 0, .nilsl]] 0), (1, .row 2 [[.int .u32 ad, .own 2 0 0 0 (i + 1)]] 0), (2, .row 2 ((bl.take (i + 1)).map Bl.cells) 0)] 3 → Q .normal K H nx)
    {K : Kn} {H : AH} {nx : Nat} (hent : Ent 0 K H nx [(2, .ptr 0 0 0 0 0), (3, .ptr 1 0 0 0 0), (6, .ptr 3 0 0 0 0), (16, encL 2 Bl.cells bl), (17, .int .i64 bl.length), (18, .int .i64 i), (26, encL 8 St.cells sts), (27, .int .i64 sts.length), (28, .int .i64 0)]
      [(0, .row 2 [[.int .u32 0, .nilsl]] 0), (1, .row 2 [[.int .u32 ad, .own 2 0 0 0 i]] 0), (2, .row 2 ((bl.take i).map Bl.cells) 0), (3, .row 2 [[.int .u32 ad2, .own 4 0 0 0 0]] 0), (4, .row 8 [] 0)] 5) :
    zg2 Tryz.prog 0 zb4 (zaX 2 (seqQ Tryz.prog 0 zcb (zaX 1 (seqQ Tryz.prog 0 zb6 Q)))) K H nx := by
  have hB := hBig
  refine zl (fun j : Nat => ([(2, .ptr 0 0 0 0 0), (3, .ptr 1 0 0 0 0), (6, .ptr 3 0 0 0 0), (16, encL 2 Bl.cells bl), (17, .int .i64 bl.length), (18, .int .i64 i), (26, encL 8 St.cells sts), (27, .int .i64 sts.length), (28, .int .i64 j)],
      [(0, .row 2 [[.int .u32 0, .nilsl]] 0), (1, .row 2 [[.int .u32 ad, .own 2 0 0 0 i]] 0), (2, .row 2 ((bl.take i).map Bl.cells) 0), (3, .row 2 [[.int .u32 ad2, .own 4 0 0 0 j]] 0), (4, .row 8 ((sts.take j).map St.cells) 0)])) 5
    (fun j => j ≤ sts.length) (fun j => sts.length - j) 0 (Nat.zero_le _) hent ?_
  rintro j hj wf
  unfold zb4
  have hdl : (bl.take i).length = i := by rw [List.length_take]; omega
  by_cases hil : j < sts.length
  · obtain ⟨z1, z2⟩ := hsz _ (List.getElem_mem hil)
    have hgs := zu (f := St.cells) (d := []) hil
    have hst : sts[j] = ⟨sts[j].op, sts[j].var, sts[j].width, sts[j].next, sts[j].els, sts[j].tgt, sts[j].e, sts[j].cases⟩ := rfl
    have hl0 := fun (Q : QT) => zu3 (Q := Q) ad ad2 bl (bl.take i) i sts j sts[j].op sts[j].var sts[j].width sts[j].next sts[j].els sts[j].tgt sts[j].e sts[j].cases z1 z2 hil hjl hst
    rw [hdl] at hl0
    simp only [St.cells] at hgs
    (repeat first | simp (disch := try exact dis1) only [evD, Nat.reduceBEq, Nat.reduceAdd, Nat.reduceLeDiff, fldP, dT, hgs] | with_reducible intro _ | ((with_reducible apply And.intro); omega))
    refine hl0 _ ?_ ?_
    · intro K2 H2 nx2 he
      exact ⟨j + 1, by omega, by show sts.length - (j + 1) < sts.length - j; omega, he⟩
    · exact (Ent.tab [(0, 0, 0), (1, 1, 0), (2, 2, 0), (3, 3, 0), (4, 4, 0), (5, 5, 0), (6, 6, 0)] [] rfl (by (try simp only [evWB, Nat.reduceBEq, Nat.reduceAdd, Nat.reduceSub, Nat.reduceLeDiff, Nat.reduceLT, implies_true]) <;> exact fin7) (by (try simp only [evWB, Nat.reduceBEq, Nat.reduceAdd, Nat.reduceSub, Nat.reduceLeDiff, Nat.reduceLT, implies_true]) <;> exact fin7))
  · obtain rfl : j = sts.length := by omega
    rw [List.take_length]
    have hbk : bl.take (i + 1) = bl.take i ++ [⟨ad2, sts⟩] := by rw [List.take_add_one, List.getElem?_eq_getElem hi, hb]; rfl
    rw [hbk] at hfin
    generalize bl.take i = D at *
    have hD : (D.map Bl.cells).take i = D.map Bl.cells := List.take_of_length_le (by rw [List.length_map]; omega)
    have hDl : (D.map Bl.cells).length = i := by rw [List.length_map]; omega
    (repeat first | simp (disch := try exact dis1) only [evD, Nat.reduceBEq, Nat.reduceAdd, Nat.reduceLeDiff, dF] | with_reducible intro _ | ((with_reducible apply And.intro); omega))
    unfold zcb
    (repeat first | simp (disch := try exact dis1) only [evD, Nat.reduceBEq, Nat.reduceAdd, Nat.reduceLeDiff, hD, hDl] | with_reducible intro _ | ((with_reducible apply And.intro); omega))
    unfold zb6
    (repeat first | simp (disch := try exact dis1) only [evD, Nat.reduceBEq, Nat.reduceAdd, Nat.reduceLeDiff] | with_reducible intro _ | ((with_reducible apply And.intro); omega))
    refine hfin _ _ _ ?_
    exact (Ent.tab [(0, 0, 0), (1, 1, 0), (2, 2, 1)] [4] rfl (by (try simp only [evWB, Nat.reduceBEq, Nat.reduceAdd, Nat.reduceSub, Nat.reduceLeDiff, Nat.reduceLT, implies_true, List.map_append, List.map_cons, List.map_nil, Bl.cells]) <;> exact fin7) (by (try simp only [evWB, Nat.reduceBEq, Nat.reduceAdd, Nat.reduceSub, Nat.reduceLeDiff, Nat.reduceLT, implies_true, List.map_append, List.map_cons, List.map_nil, Bl.cells]) <;> exact fin7))
theorem zup (g : G) (hbl : g.blocks.length ≤ 1000000) (hst : ∀ b ∈ g.blocks, b.stmts.length ≤ 1000000) (hsz : ∀ b ∈ g.blocks, ∀ s ∈ b.stmts, zA s.e ≤ 100000 ∧ s.cases.length ≤ 1000000) :
    z6 Tryz.prog zdB [.agg g.cells] [] 0 (fun v H nx => v = .agg [.int .u32 g.addr, .own 0 0 0 0 g.blocks.length] ∧ H = [(0, .row 2 (g.blocks.map Bl.cells) 0)] ∧ nx = 1) := by
  refine zcl (fn_x zi0 rfl ?_)
  unfold zfk
  have hB := hBig
  obtain ⟨ad, bl⟩ := g
  simp only at hbl hst hsz ⊢
  (repeat first | simp (disch := try exact dis1) only [evD, Nat.reduceBEq, Nat.reduceAdd, Nat.reduceLeDiff, fldP, G.cells] | with_reducible intro _ | ((with_reducible apply And.intro); omega))
  refine zl (fun i : Nat => ([(2, .ptr 0 0 0 0 0), (3, .ptr 1 0 0 0 0), (16, encL 2 Bl.cells bl), (17, .int .i64 bl.length), (18, .int .i64 i)],
      [(0, .row 2 [[.int .u32 0, .nilsl]] 0), (1, .row 2 [[.int .u32 ad, .own 2 0 0 0 i]] 0), (2, .row 2 ((bl.take i).map Bl.cells) 0)])) 3
    (fun i => i ≤ bl.length) (fun i => bl.length - i) 0 (Nat.zero_le _) (Ent.tab [(0, 0, 0), (1, 1, 0)] [] rfl (by (try simp only [evWB, Nat.reduceBEq, Nat.reduceAdd, Nat.reduceSub, Nat.reduceLeDiff, Nat.reduceLT, implies_true, List.take_zero, List.map_nil]) <;> exact fin2) (by (try simp only [evWB, Nat.reduceBEq, Nat.reduceAdd, Nat.reduceSub, Nat.reduceLeDiff, Nat.reduceLT, implies_true, List.take_zero, List.map_nil]) <;> exact fin2)) ?_
  rintro i hi wf
  unfold zdM
  by_cases hil : i < bl.length
  · have hm := List.getElem_mem hil
    have hgl := zu (f := Bl.cells) (d := []) hil
    have hl3 := fun (Q : QT) => zuX (Q := Q) ad bl[i].addr bl i hil hbl bl[i].stmts rfl (hst _ hm) (hsz _ hm)
    simp only [Bl.cells] at hgl
    (repeat first | simp (disch := try exact dis1) only [evD, Nat.reduceBEq, Nat.reduceAdd, Nat.reduceLeDiff, fldP, dT, hgl] | with_reducible intro _ | ((with_reducible apply And.intro); omega))
    refine hl3 _ ?_ ?_
    · intro K2 H2 nx2 he
      exact ⟨i + 1, by omega, by show bl.length - (i + 1) < bl.length - i; omega, he⟩
    · exact (Ent.tab [(0, 0, 0), (1, 1, 0), (2, 2, 0), (3, 4, 0)] [] rfl (by (try simp only [evWB, Nat.reduceBEq, Nat.reduceAdd, Nat.reduceSub, Nat.reduceLeDiff, Nat.reduceLT, implies_true]) <;> exact fin7) (by (try simp only [evWB, Nat.reduceBEq, Nat.reduceAdd, Nat.reduceSub, Nat.reduceLeDiff, Nat.reduceLT, implies_true]) <;> exact fin7))
  · obtain rfl : i = bl.length := by omega
    rw [List.take_length]
    (repeat first | simp (disch := try exact dis1) only [evD, Nat.reduceBEq, Nat.reduceAdd, Nat.reduceLeDiff, dF] | with_reducible intro _ | ((with_reducible apply And.intro); omega))
    unfold zdT
    (repeat first | simp (disch := try exact dis1) only [evD, Nat.reduceBEq, Nat.reduceAdd, Nat.reduceLeDiff, zfw] | with_reducible intro _ | ((with_reducible apply And.intro); omega))
    exact ⟨.agg [.int .u32 ad, .own 0 0 0 0 bl.length], [(0, .row 2 (bl.map Bl.cells) 0)], 1, (Ent.tab [(0, 2, 0)] [] rfl (by (try simp only [evWB, Nat.reduceBEq, Nat.reduceAdd, Nat.reduceSub, Nat.reduceLeDiff, Nat.reduceLT, implies_true]) <;> exact fin7) (by (try simp only [evWB, Nat.reduceBEq, Nat.reduceAdd, Nat.reduceSub, Nat.reduceLeDiff, Nat.reduceLT, implies_true]) <;> exact fin7)), rfl, rfl, rfl⟩
def ziP (exit : List Int) : List St → List Int → List St × List Int
  | [], a => ([], a)
  | s :: l, a => if remS s (ziP exit l a).2 = true then ziP exit l a else (s :: (ziP exit l a).1, zd9 exit s (ziP exit l a).2)
def keepM (exit : List Int) : List St → MS → List St × MS
  | [], a => ([], a)
  | s :: l, a => if remS s (keepM exit l a).2.keys = true then keepM exit l a else (s :: (keepM exit l a).1, zdn exit s (keepM exit l a).2)
theorem zs0 {s : St} {a b : List Int} (h : ∀ x, x ∈ a ↔ x ∈ b) : remS s a = remS s b := by
  unfold remS
  rw [decide_eq_decide.2 (h s.var)]
theorem zn7 {exit : List Int} {a : MS} {e : List Int} (h : ∀ x, x ∈ a.keys ↔ x ∈ e) : ∀ l : List St, (keepM exit l a).1 = (ziP exit l e).1 ∧ ∀ x, x ∈ (keepM exit l a).2.keys ↔ x ∈ (ziP exit l e).2
  | [] => ⟨rfl, h⟩
  | s :: l => by
    obtain ⟨h1, h2⟩ := zn7 h l
    unfold keepM ziP
    rw [zs0 h2]
    split
    · exact ⟨h1, h2⟩
    · exact ⟨by rw [h1], zlX h2⟩
theorem zhp {exit : List Int} {e : List Int} : ∀ l : List St, ((ziP exit l e).1).Sublist l
  | [] => List.Sublist.slnil
  | s :: l => by
    unfold ziP
    split
    · exact (zhp l).cons s
    · exact (zhp l).cons_cons s
theorem zmc {exit : List Int} {e : MS} : ∀ l : List St, ((keepM exit l e).1).Sublist l
  | [] => List.Sublist.slnil
  | s :: l => by
    unfold keepM
    split
    · exact (zmc l).cons s
    · exact (zmc l).cons_cons s
theorem zr0 {exit : List Int} : ∀ {l : List St} {a : MS}, a.ok → a.1 + zY exit.length l ≤ 1000000 → a.2.length + zY exit.length l ≤ 1000000 →
    (keepM exit l a).2.ok ∧ (keepM exit l a).2.1 ≤ a.1 + zY exit.length l ∧ (keepM exit l a).2.2.length ≤ a.2.length + zY exit.length l
  | [], a, h, _, _ => ⟨h, by show a.1 ≤ a.1 + (0 : Nat); omega, Nat.le_refl _⟩
  | s :: l, a, h, h1, h2 => by
    have e : zY exit.length (s :: l) = zA s.e + exit.length + zY exit.length l := rfl
    rw [e] at h1 h2 ⊢
    obtain ⟨i1, i2, i3⟩ := zr0 (exit := exit) (l := l) h (by omega) (by omega)
    unfold keepM
    split
    · exact ⟨i1, by omega, by omega⟩
    · obtain ⟨j1, j2, j3⟩ := zrs (exit := exit) (s := s) i1 (by omega) (by omega)
      exact ⟨j1, by simp only; omega, by simp only; omega⟩
def blkD (exit : List Int) (bl : List Bl) (i : Nat) (b : Bl) : Bl := ⟨b.addr, (ziP exit b.stmts (zaj exit bl i)).1⟩
def zcp (exit : List Int) (bl : List Bl) : List Bl := bl.mapIdx (blkD exit bl)
theorem zhT {exit : List Int} {bl : List Bl} : (zcp exit bl).length = bl.length := by simp [zcp]
theorem zsh {exit : List Int} {bl : List Bl} {i : Nat} (h : i < bl.length) : (zcp exit bl)[i]'(by rw [zhT]; exact h) = blkD exit bl i bl[i] := by simp [zcp]
def SubB (a b : List Bl) : Prop := a.length = b.length ∧ ∀ i (h1 : i < a.length) (h2 : i < b.length), a[i].addr = b[i].addr ∧ (a[i].stmts).Sublist b[i].stmts
theorem SubB.rfl' {a : List Bl} : SubB a a := ⟨rfl, fun _ _ _ => ⟨rfl, List.Sublist.refl _⟩⟩
theorem SubB.trans {a b c : List Bl} (h : SubB a b) (k : SubB b c) : SubB a c := ⟨h.1.trans k.1, fun i h1 h2 => by
  obtain ⟨x1, x2⟩ := h.2 i h1 (by have := h.1; omega)
  obtain ⟨y1, y2⟩ := k.2 i (by have := h.1; omega) h2
  exact ⟨x1.trans y1, x2.trans y2⟩⟩
theorem zc5 {exit : List Int} {bl : List Bl} : SubB (zcp exit bl) bl := ⟨zhT, fun i h1 h2 => by rw [zsh h2]; exact ⟨rfl, zhp _⟩⟩
theorem SubB.mem {a b : List Bl} (h : SubB a b) {x : Bl} (hx : x ∈ a) : ∃ y ∈ b, x.addr = y.addr ∧ (x.stmts).Sublist y.stmts := by
  obtain ⟨i, hi, rfl⟩ := List.mem_iff_getElem.1 hx
  have hl := h.1
  obtain ⟨h1, h2⟩ := h.2 i hi (by omega)
  exact ⟨_, List.getElem_mem _, h1, h2⟩
theorem SubB.count : ∀ {a b : List Bl}, SubB a b → zD a ≤ zD b
  | [], [], _ => Nat.le_refl _
  | [], y :: b, h => by have := h.1; simp at this
  | x :: a, [], h => by have := h.1; simp at this
  | x :: a, y :: b, h => by
    have h1 := (h.2 0 (by simp) (by simp)).2.length_le
    have h2 : SubB a b := ⟨by have := h.1; simpa using this, fun i h1 h2 => h.2 (i + 1) (by simpa using h1) (by simpa using h2)⟩
    have h3 := SubB.count h2
    simp only [List.getElem_cons_zero] at h1
    simp only [zD, List.map_cons, List.sum_cons] at h3 ⊢
    omega
theorem SubB.same : ∀ {a b : List Bl}, SubB a b → zD a = zD b → a = b
  | [], [], _, _ => rfl
  | [], y :: b, h, _ => by have := h.1; simp at this
  | x :: a, [], h, _ => by have := h.1; simp at this
  | x :: a, y :: b, h, hc => by
    obtain ⟨ha, hs⟩ := h.2 0 (by simp) (by simp)
    have h2 : SubB a b := ⟨by have := h.1; simpa using this, fun i h1 h2 => h.2 (i + 1) (by simpa using h1) (by simpa using h2)⟩
    have h3 := h2.count
    simp only [List.getElem_cons_zero] at ha hs
    have hl := hs.length_le
    simp only [zD, List.map_cons, List.sum_cons] at hc h3
    have e1 : x.stmts = y.stmts := hs.eq_of_length (by omega)
    rw [SubB.same h2 (by simp only [zD]; omega)]
    congr 1
    obtain ⟨a1, s1⟩ := x
    obtain ⟨a2, s2⟩ := y
    simp only at ha e1
    rw [ha, e1]
theorem zv8 {k : Nat} {a b : List St} (h : a.Sublist b) : zY k a ≤ zY k b := by
  induction h with
  | slnil => exact Nat.le_refl _
  | cons s _ ih => show _ ≤ zA s.e + k + _; omega
  | cons_cons s _ ih => show zA s.e + k + _ ≤ zA s.e + k + _; omega
structure GoodB (U exit : List Int) (bl : List Bl) : Prop where
  he : ∀ x ∈ exit, x ∈ U
  hu : ∀ b ∈ bl, ∀ s ∈ b.stmts, ∀ x ∈ zc6 s, x ∈ U
  hsz : ∀ b ∈ bl, ∀ s ∈ b.stmts, zA s.e ≤ 100000 ∧ s.cases.length ≤ 100000
  cost : ∀ b ∈ bl, 2 * U.length + zY exit.length b.stmts ≤ 1000000
  cnt : zD bl ≤ 1000000
  len : bl.length ≤ 1000000
theorem zo2 {s : St} : (zfH s).length ≤ s.cases.length + 2 := by
  unfold zfH
  split
  · simp
  · split
    · simp
    · split
      · omega
      · simp
theorem zhD {l : List St} {n : Nat} (h : ∀ s ∈ l, s.cases.length ≤ n) : (zz l).length ≤ n + 2 := by
  unfold zz
  split
  · simp
  · rename_i s hs
    have := h s (List.mem_of_getLast? hs)
    have := zo2 (s := s)
    omega
theorem zjt {bl : List Bl} {b : Bl} (h : b ∈ bl) : b.stmts.length ≤ zD bl := by
  induction bl with
  | nil => cases h
  | cons x l ih =>
    simp only [zD, List.map_cons, List.sum_cons] at ih ⊢
    rcases List.mem_cons.1 h with rfl | h
    · omega
    · have := ih h; omega
theorem GoodB.univ {U exit : List Int} {bl : List Bl} (h : GoodB U exit bl) : UnivB U exit bl := by
  refine ⟨h.he, h.hu, fun b hb s hs => (h.hsz b hb s hs).1, h.cost, fun b hb => ⟨fun s hs => ?_, ?_, ?_⟩, h.len⟩
  · have := (h.hsz b hb s hs).2; omega
  · exact Nat.le_trans (zjt hb) h.cnt
  · have := zhD (l := b.stmts) (n := 100000) fun s hs => (h.hsz b hb s hs).2
    omega
theorem GoodB.sub {U exit : List Int} {a b : List Bl} (h : GoodB U exit b) (k : SubB a b) : GoodB U exit a := by
  refine ⟨h.he, fun x hx s hs => ?_, fun x hx s hs => ?_, fun x hx => ?_, Nat.le_trans k.count h.cnt, by rw [k.1]; exact h.len⟩
  · obtain ⟨y, hy, _, h2⟩ := k.mem hx
    exact h.hu y hy s (h2.mem hs)
  · obtain ⟨y, hy, _, h2⟩ := k.mem hx
    exact h.hsz y hy s (h2.mem hs)
  · obtain ⟨y, hy, _, h2⟩ := k.mem hx
    have := zv8 (k := exit.length) h2
    have := h.cost y hy
    omega
def zox (exit : List Int) : Nat → List Bl → List Bl
  | 0, bl => bl
  | k + 1, bl => if zD (zcp exit bl) = zD bl then bl else zox exit k (zcp exit bl)
theorem zpi {exit : List Int} : ∀ (k : Nat) (bl : List Bl), SubB (zox exit k bl) bl
  | 0, bl => SubB.rfl'
  | k + 1, bl => by
    unfold zox
    split
    · exact SubB.rfl'
    · exact (zpi k _).trans zc5
theorem zmY {exit : List Int} : ∀ (k k' : Nat) (bl : List Bl), zD bl < k → zD bl < k' → zox exit k bl = zox exit k' bl
  | 0, _, bl, h, _ => absurd h (Nat.not_lt_zero _)
  | _ + 1, 0, bl, _, h => absurd h (Nat.not_lt_zero _)
  | k + 1, k' + 1, bl, h, h' => by
    unfold zox
    split
    · rfl
    · have := (zc5 (exit := exit) (bl := bl)).count
      exact zmY k k' _ (by omega) (by omega)
def zmA (exit : List Int) (bl : List Bl) : List Bl := zox exit (zD bl + 1) bl
theorem zqc {exit : List Int} {s : St} {l : List St} {a : List Int} : zfa exit (s :: l) a = zd9 exit s (zfa exit l a) := rfl
inductive SubD (exit e : List Int) : List St → List St → Prop
  | nil : SubD exit e [] []
  | keep {s : St} {x y : List St} : SubD exit e x y → SubD exit e (s :: x) (s :: y)
  | drop {s : St} {x y : List St} : SubD exit e x y → remS s (zfa exit x e) = true → SubD exit e x (s :: y)
theorem SubD.refl {exit e : List Int} : ∀ {l : List St}, SubD exit e l l
  | [] => .nil
  | _ :: _ => .keep SubD.refl
def ztH (exit e : List Int) : List St → List St
  | [] => []
  | s :: l => if remS s (zfa exit l e) = true then ztH exit e l else s :: ztH exit e l
structure RelD (exit : List Int) (x y : List Bl) : Prop where
  len : x.length = y.length
  blk : ∀ i (h1 : i < x.length) (h2 : i < y.length), x[i].addr = y[i].addr ∧ SubD exit (zaj exit x i) x[i].stmts y[i].stmts
theorem zmO {g : List Bl} {i : Nat} (h : i < g.length) : (g.map (·.stmts)).getD i [] = g[i].stmts := zu h
theorem zwU {exit : List Int} {g : List Bl} {ins : List (List Int)} {i : Nat} (h : i < g.length) : newB exit g ins i = zeT exit g[i].stmts (endB ins g[i].stmts) := by
  unfold newB; rw [zmO h]
theorem ziG {exit : List Int} {g : List Bl} {i : Nat} (h : i < g.length) : zaj exit g i = endB (zbx exit g) g[i].stmts := by
  unfold zaj; rw [zmO h]
theorem zth {exit : List Int} {g : List Bl} : (zbx exit g).length = g.length := (zc4 exit g).1.len
theorem zsO {exit e : List Int} {l : List St} (h : l ≠ []) : zeT exit l e = zfa exit l e := by
  unfold zeT
  rw [if_neg (by cases l with | nil => exact absurd rfl h | cons a l => simp)]
theorem zs4 {exit : List Int} {g : List Bl} {i : Nat} (h : i < g.length) : (zbx exit g).getD i [] = zeT exit g[i].stmts (zaj exit g i) := by
  rw [← (zc4 exit g).2 i h, zwU h, ziG h]
def zvo (exit : List Int) (bl : List Bl) : List Bl := bl.mapIdx fun i b => ⟨b.addr, ztH exit (zaj exit bl i) b.stmts⟩
def deadR (exit : List Int) : Nat → List Bl → List Bl
  | 0, bl => bl
  | k + 1, bl => if zD (zvo exit bl) = zD bl then zvo exit bl else deadR exit k (zvo exit bl)
theorem ziF : ∀ {l : List St}, zdq l = 0 ↔ ∀ s ∈ l, s.check = 0
  | [] => by simp [zdq]
  | s :: l => by
    rw [zdq]
    split
    · rename_i h
      constructor
      · intro h2; exact absurd h2 h
      · intro h2; exact absurd (h2 s (by simp)) h
    · rename_i h
      rw [ziF]
      have h : s.check = 0 := Classical.not_not.1 h
      simp [h]
theorem zip : ∀ {l : List Bl}, zfz l = 0 ↔ ∀ b ∈ l, ∀ s ∈ b.stmts, s.check = 0
  | [] => by simp [zfz]
  | b :: l => by
    rw [zfz]
    split
    · rename_i h
      constructor
      · intro h2; exact absurd h2 h
      · intro h2; exact absurd (ziF.2 (h2 b (by simp))) h
    · rename_i h
      rw [zip]
      have h : zdq b.stmts = 0 := Classical.not_not.1 h
      rw [ziF] at h
      constructor
      · intro h2 c hc
        rcases List.mem_cons.1 hc with rfl | hc
        · exact h
        · exact h2 c hc
      · exact fun h2 c hc => h2 c (List.mem_cons_of_mem _ hc)
structure OkG (g : G) : Prop where
  len : g.blocks.length ≤ 256
  cnt : zD g.blocks ≤ 1024
  ne : g.blocks ≠ []
  closed : ∀ b ∈ g.blocks, b.stmts ≠ [] ∧ ze7 b.stmts = true ∧ ∀ t ∈ zz b.stmts, 0 ≤ t ∧ t < g.blocks.length
  chk : ∀ b ∈ g.blocks, ∀ s ∈ b.stmts, s.check = 0
theorem zyl {g : G} : zhx g = 0 ↔ OkG g := by
  unfold zhx zr1
  constructor
  · intro h
    split at h
    · cases h
    · rename_i h1
      split at h
      · rename_i h2
        rw [Bool.and_eq_true, List.all_eq_true] at h2
        refine ⟨by omega, by omega, ?_, fun b hb => ?_, zip.1 h⟩
        · rintro h3
          rw [h3] at h2
          cases h2.1
        · have := h2.2 b hb
          unfold zcU at this
          rw [Bool.and_eq_true, Bool.and_eq_true, List.all_eq_true] at this
          refine ⟨?_, this.2.1, fun t ht => of_decide_eq_true (this.2.2 t ht)⟩
          rintro h3
          rw [h3] at this
          cases this.1
      · cases h
  · rintro ⟨h1, h2, h3, h4, h5⟩
    rw [if_neg (by omega), if_pos, zip.2 h5]
    rw [Bool.and_eq_true, List.all_eq_true]
    refine ⟨?_, fun b hb => ?_⟩
    · cases hg : g.blocks with
      | nil => exact absurd hg h3
      | cons a l => rfl
    · obtain ⟨k1, k2, k3⟩ := h4 b hb
      unfold zcU
      rw [Bool.and_eq_true, Bool.and_eq_true, List.all_eq_true]
      refine ⟨?_, k2, fun t ht => decide_eq_true (k3 t ht)⟩
      cases hg : b.stmts with
      | nil => exact absurd hg k1
      | cons a l => rfl
def st0 : St := ⟨0, 0, 0, 0, 0, 0, [], []⟩
def revP (l : List St) (i x : Nat) : St := if x < i ∨ l.length - i ≤ x then l.getD (l.length - 1 - x) st0 else l.getD x st0
def revL (l : List St) (i : Nat) : List St := (List.range l.length).map (revP l i)
theorem zwc {l : List St} {i : Nat} : (revL l i).length = l.length := by simp [revL]
theorem zol {l : List St} : revL l 0 = l := by
  apply List.ext_getElem?
  intro x
  unfold revL revP
  by_cases hx : x < l.length
  · have : ¬ l.length ≤ x := by omega
    simp [hx, List.getD_eq_getElem?_getD, this]
  · simp [hx]
theorem zxN {l : List St} {i : Nat} (h : l.length ≤ 2 * i + 1) : revL l i = l.reverse := by
  apply List.ext_getElem?
  intro x
  unfold revL revP
  by_cases hx : x < l.length
  · rw [List.getElem?_reverse hx]
    simp only [List.getElem?_map, List.getElem?_range hx, Option.map_some]
    by_cases hc : x < i ∨ l.length - i ≤ x
    · rw [if_pos hc]
      rw [List.getD_eq_getElem?_getD, List.getElem?_eq_getElem (show l.length - 1 - x < l.length by omega)]
      rfl
    · rw [if_neg hc, show l.length - 1 - x = x by omega, List.getD_eq_getElem?_getD, List.getElem?_eq_getElem hx]
      rfl
  · simp [hx]
theorem zr8 {l : List St} {i x : Nat} (hx : x < l.length) : ((revL l i).map St.cells).getD x [] = (revP l i x).cells := by
  simp [revL, List.getD_eq_getElem?_getD, hx]
theorem zu2 {l : List St} {i : Nat} (h : 2 * i + 1 < l.length) :
    (((revL l i).map St.cells).set i (revP l i (l.length - 1 - i)).cells).set (l.length - 1 - i) (revP l i i).cells = (revL l (i + 1)).map St.cells := by
  unfold revL
  rw [List.map_map, List.map_map, zeu, zeu]
  refine List.map_congr_left fun x hx => ?_
  have hx' := List.mem_range.1 hx
  unfold updF
  simp only [Function.comp]
  by_cases h1 : x = l.length - 1 - i
  · rw [if_pos h1]
    unfold revP
    rw [if_neg (by omega), if_pos (by omega), show l.length - 1 - x = i by omega]
  · rw [if_neg h1]
    by_cases h2 : x = i
    · rw [if_pos h2]
      unfold revP
      rw [if_neg (by omega), if_pos (by omega), h2]
    · rw [if_neg h2]
      unfold revP
      by_cases h3 : x < i ∨ l.length - i ≤ x
      · rw [if_pos h3, if_pos (by omega)]
      · rw [if_neg h3, if_neg (by omega)]
theorem renS {ρ : Nat → Nat} {l : List St} {g : Nat} : AObj.ren ρ (.row 8 (l.map St.cells) g) = .row 8 (l.map St.cells) g := by
  simp only [AObj.ren]
  rw [zgp (zg fun s => s.flat)]
theorem zjY (l : List St) (g : Nat) (hl : l.length ≤ 1000000) : z6 Tryz.prog zam [.own 0 0 g 0 l.length] [(0, .row 8 (l.map St.cells) g)] 1
    (fun v H nx => v = .tup [] ∧ H = [(0, .row 8 (l.reverse.map St.cells) g)] ∧ nx = 1) := by
  refine zcl (fn_x zcO rfl ?_)
  unfold za0
  have hB := hBig
  (repeat first | simp (disch := try exact dis1) only [evD, Nat.reduceBEq, Nat.reduceAdd, Nat.reduceLeDiff] | with_reducible intro _ | ((with_reducible apply And.intro); omega))
  refine zl (fun i : Nat => ([(0, .own 0 0 g 0 l.length), (2, .int .i64 i), (3, .int .i64 ((l.length : Int) - 1 - i))], [(0, .row 8 ((revL l i).map St.cells) g)])) 1 (fun i => 2 * i ≤ l.length + 1) (fun i => l.length + 1 - i) 0 (by omega) (Ent.tabB [(0, 0, 0)] [] rfl rfl rfl (by (try simp only [evWB, Nat.reduceBEq, Nat.reduceAdd, Nat.reduceSub, Nat.reduceLeDiff, Nat.reduceLT, implies_true, zol]) <;> exact fin2) (by (try simp only [evWB, Nat.reduceBEq, Nat.reduceAdd, Nat.reduceSub, Nat.reduceLeDiff, Nat.reduceLT, implies_true, zol]) <;> exact fin2)) ?_
  intro i hi wf
  unfold zaP
  (repeat first | simp (disch := try exact dis1) only [evD, Nat.reduceBEq, Nat.reduceAdd, Nat.reduceLeDiff] | with_reducible intro _ | ((with_reducible apply And.intro); omega))
  (refine zav (fun h => ?_) (fun h => ?_)) <;> (try simp only [dcd] at h)
  · have e : ((l.length : Int) - 1 - i).toNat = l.length - 1 - i := by omega
    have hsw := zu2 (l := l) (i := i) (by omega)
    have g1 := zr8 (l := l) (i := i) (show l.length - 1 - i < l.length by omega)
    have g2 := zr8 (l := l) (i := i) (show i < l.length by omega)
    (repeat first | simp (disch := try exact dis1) only [evD, Nat.reduceBEq, Nat.reduceAdd, Nat.reduceLeDiff, e, zwc, g1, g2, St.len, St.eight, List.length_set] | with_reducible intro _ | ((with_reducible apply And.intro); omega))
    rw [hsw]
    exact ⟨i + 1, by omega, by omega, (Ent.tabB [(0, 0, 0)] [] rfl rfl rfl (by (try simp only [evWB, Nat.reduceBEq, Nat.reduceAdd, Nat.reduceSub, Nat.reduceLeDiff, Nat.reduceLT, implies_true]) <;> exact fin2) (by (try simp only [evWB, Nat.reduceBEq, Nat.reduceAdd, Nat.reduceSub, Nat.reduceLeDiff, Nat.reduceLT, implies_true]) <;> exact fin2))⟩
  · (repeat first | simp (disch := try exact dis1) only [evD, Nat.reduceBEq, Nat.reduceAdd, Nat.reduceLeDiff, za2] | with_reducible intro _ | ((with_reducible apply And.intro); omega))
    refine ⟨.tup [], [(0, .row 8 (l.reverse.map St.cells) g)], 1, ?_, rfl, rfl, rfl⟩
    rw [zxN (by omega)]
    exact (Ent.tabB [(0, 0, 0)] [] rfl rfl rfl (by (try simp only [evWB, Nat.reduceBEq, Nat.reduceAdd, Nat.reduceSub, Nat.reduceLeDiff, Nat.reduceLT, implies_true]) <;> exact fin2) (by (try simp only [evWB, Nat.reduceBEq, Nat.reduceAdd, Nat.reduceSub, Nat.reduceLeDiff, Nat.reduceLT, implies_true]) <;> exact fin2))
def zeB (ad : Int) (n : Nat) (D : List Bl) (T : Nat → MS) : AH := [(0, .row 2 [[.int .u32 0, .nilsl]] 0), (1, .row 2 [[.int .u32 ad, .own 2 0 0 0 n]] 0), (2, .row 2 (D.map Bl.cells) 0), (3, .row 1 (mps 4 n) 0), (4, famS n T)]
theorem zxV {exit : List Int} {sts : List St} {i : Nat} {a : MS} (h : i < sts.length) : keepM exit (sts.drop i) a = if remS sts[i] (keepM exit (sts.drop (i + 1)) a).2.keys = true then keepM exit (sts.drop (i + 1)) a else (sts[i] :: (keepM exit (sts.drop (i + 1)) a).1, zdn exit sts[i] (keepM exit (sts.drop (i + 1)) a).2) := by
  rw [List.drop_eq_getElem_cons h, keepM]
theorem zvu {α : Type} {f : α → List AV} {A : List α} {a : α} {i : Nat} {c : List AV} {H HH : AH} {σ : Nat → Nat → Option (Nat × Nat × Nat)} {D : Nat → Nat → Prop} (hf : ∀ a, zI (f a) = true) (hi : i < A.length) (hl : (f a).length = c.length)
    (h : ∀ (j : Nat) (x y : AV), c[j]? = some x → (f a)[j]? = some y → Vw H HH σ D true x y) : RowV H HH σ D ((A.map f).set i c) ((A.set i a).map f) := by
  refine ⟨by simp, fun k c2 hk => ?_⟩
  rw [List.map_set] at hk
  by_cases hki : i = k
  · subst hki
    rw [List.getElem?_set_self (by simpa using hi)] at hk ⊢
    cases hk
    exact ⟨c, rfl, hl, h⟩
  · rw [List.getElem?_set_ne hki] at hk ⊢
    refine ⟨c2, hk, rfl, fun j x y h1 h2 => ?_⟩
    rw [h1] at h2
    cases h2
    obtain ⟨b, _, rfl⟩ := List.mem_map.1 (List.mem_of_getElem? hk)
    exact zck (zaR (hf b) h1)
theorem zsg {H HH : AH} {σ : Nat → Nat → Option (Nat × Nat × Nat)} {D : Nat → Nat → Prop} {r : Nat} {kp : List St} {x : Int} (hD : D r 0) (hg : H.get r 0 = some (.row 8 (kp.map St.cells) 0)) (hb : kp.length ≤ big) :
    ∀ (j : Nat) (a b : AV), [AV.int .u32 x, .own r 0 0 0 kp.length][j]? = some a → (Bl.cells ⟨x, kp⟩)[j]? = some b → Vw H HH σ D true a b := by
  intro j a b h1 h2
  match j with
  | 0 => cases h1; cases h2; exact .int _ _ _
  | 1 => cases h1; cases h2; exact zx2 hD hg hb
  | j + 2 => cases h1
theorem zyg {Q : QT} (ad : Int) (n b : Nat) (hb : b < n) (hn : n ≤ 1000000) (D : List Bl) (hD : D.length = n) (T : Nat → MS) (exit : List Int) (sts : List St) (a0 : MS) (r0 : Nat) (m0 : Bool)
    (hsz : ∀ s ∈ sts, zA s.e ≤ 100000) (ha : a0.ok) (h1 : a0.1 + zY exit.length sts ≤ 1000000) (h2 : a0.2.length + zY exit.length sts ≤ 1000000) (hlen : sts.length ≤ 1000000) (hr0 : r0 + sts.length ≤ 2000000)
    (hfin : ∀ K H nx, Ent 0 K H nx [(1, za exit), (4, .ptr 0 0 0 0 0), (8, .ptr 1 0 0 0 0), (9, .int .i64 ((r0 + (sts.length - (keepM exit sts a0).1.length) : Nat) : Int)), (10, .bool (m0 || decide ((keepM exit sts a0).1.length < sts.length))), (12, .own 3 0 0 0 n), (35, .int .i64 n), (36, .int .i64 ((b + 1 : Nat) : Int))]
      (zeB ad n (D.set b ⟨(D[b]'(by omega)).addr, (keepM exit sts a0).1⟩) T) 5 → Q .normal K H nx)
    {K : Kn} {H : AH} {nx : Nat} (hent : Ent 0 K H nx [(1, za exit), (4, .ptr 0 0 0 0 0), (8, .ptr 1 0 0 0 0), (9, .int .i64 r0), (10, .bool m0), (12, .own 3 0 0 0 n), (13, .int .i64 b), (14, .mp 5 0), (15, encL 8 St.cells sts), (16, .own 6 0 0 0 0), (17, .int .i64 ((sts.length : Int) - 1)), (35, .int .i64 n), (36, .int .i64 b)]
      (zeB ad n D T ++ [(5, .row 3 ((setM a0.1 a0.2).map cm) 0), (6, .row 8 [] 0)]) 7) :
    zg2 Tryz.prog 0 zcR (zaX 4 (seqQ Tryz.prog 0 zcJ (zaX 3 (seqQ Tryz.prog 0 zcL Q)))) K H nx := by
  have hB := hBig
  have hz : keepM exit (sts.drop sts.length) a0 = ([], a0) := by rw [List.drop_length]; rfl
  have hlk := fun i => (zmc (exit := exit) (e := a0) (sts.drop i)).length_le
  simp only [List.length_drop] at hlk
  refine zl (fun i : Nat => ([(1, za exit), (4, .ptr 0 0 0 0 0), (8, .ptr 1 0 0 0 0), (9, .int .i64 ((r0 + (sts.length - i - (keepM exit (sts.drop i) a0).1.length) : Nat) : Int)), (10, .bool (m0 || decide ((keepM exit (sts.drop i) a0).1.length < sts.length - i))), (12, .own 3 0 0 0 n), (13, .int .i64 b), (14, .mp 5 0), (15, encL 8 St.cells sts), (16, .own 6 0 0 0 (keepM exit (sts.drop i) a0).1.length), (17, .int .i64 ((i : Int) - 1)), (35, .int .i64 n), (36, .int .i64 b)],
      zeB ad n D T ++ [(5, .row 3 ((setM (keepM exit (sts.drop i) a0).2.1 (keepM exit (sts.drop i) a0).2.2).map cm) 0), (6, .row 8 ((keepM exit (sts.drop i) a0).1.reverse.map St.cells) 0)])) 7
    (fun i => i ≤ sts.length) (fun i => i) sts.length (Nat.le_refl _) ?_ ?_
  · rw [hz]
    simp only [List.length_nil, Nat.sub_self, Nat.lt_irrefl, decide_false, Bool.or_false, Nat.add_zero, List.reverse_nil, List.map_nil]
    exact hent
  rintro i hi wf
  unfold zcR
  have hc := zkR (k := exit.length) (l := sts) (i := i)
  obtain ⟨k1, k2, k3⟩ := zr0 (exit := exit) (l := sts.drop i) ha (by omega) (by omega)
  have hli := hlk i
  rcases Nat.eq_zero_or_pos i with rfl | hp
  · rw [List.drop_zero] at *
    generalize keepM exit sts a0 = R at *
    obtain ⟨kp, a⟩ := R
    simp only [Nat.sub_zero] at *
    have hrl : kp.reverse.length = kp.length := List.length_reverse
    have hrr : kp.reverse.reverse = kp := List.reverse_reverse kp
    have hbD : b < D.length := by omega
    have hrev := zjY kp.reverse 0 (by omega)
    rw [hrl, hrr] at hrev
    (repeat first | simp (disch := try exact dis1) only [evD, Nat.reduceBEq, Nat.reduceAdd, Nat.reduceLeDiff, dF, Int.natCast_zero, zeB, List.cons_append, List.nil_append] | with_reducible intro _ | ((with_reducible apply And.intro); omega))
    unfold zcJ
    (repeat first | simp (disch := try exact dis1) only [evD, Nat.reduceBEq, Nat.reduceAdd, Nat.reduceLeDiff] | with_reducible intro _ | ((with_reducible apply And.intro); omega))
    refine zT [(0, 6, 0)] 1 _ (hrev) rfl rfl fin8 fin8 ?_
    rintro _ _ _ ⟨rfl, rfl, rfl⟩
    have hg : (D.map Bl.cells).getD b [] = [.int .u32 D[b].addr, encL 8 St.cells D[b].stmts] := zu (f := Bl.cells) (d := []) hbD
    have hsp : ∀ x y z : AV, splice [x, y] 1 [z] = [x, z] := fun _ _ _ => rfl
    (repeat first | simp (disch := try exact dis1) only [evD, Nat.reduceBEq, Nat.reduceAdd, Nat.reduceLeDiff, renS, hg, hsp] | with_reducible intro _ | ((with_reducible apply And.intro); omega))
    unfold zcL
    (repeat first | simp (disch := try exact dis1) only [evD, Nat.reduceBEq, Nat.reduceAdd, Nat.reduceLeDiff] | with_reducible intro _ | ((with_reducible apply And.intro); omega))
    refine hfin _ _ _ ?_
    refine Ent.tab [(0, 0, 0), (1, 1, 0), (2, 2, 0), (3, 3, 0), (4, 4, 0)] [6] rfl ?_ ?_
    · ((try simp only [evWB, Nat.reduceBEq, Nat.reduceAdd, Nat.reduceSub, Nat.reduceLeDiff, Nat.reduceLT, implies_true, zeB, famS]) <;> ((repeat' with_reducible apply And.intro) <;> first | omega | rfl | (exact zvu (fun _ => rfl) hbD rfl (zsg rfl rfl (by omega)); done) | (refine zF zM (by decide) ⟨rfl, rfl⟩ ?_; (try simp only [evWB, Nat.reduceBEq, Nat.reduceAdd, Nat.reduceSub, Nat.reduceLeDiff, Nat.reduceLT, implies_true, zeB, famS]) <;> ((repeat' with_reducible apply And.intro) <;> first | omega | rfl | (refine zF zM (by decide) ⟨rfl, rfl⟩ ?_; (try simp only [evWB, Nat.reduceBEq, Nat.reduceAdd, Nat.reduceSub, Nat.reduceLeDiff, Nat.reduceLT, implies_true, zeB, famS]) <;> ((repeat' with_reducible apply And.intro) <;> first | omega | rfl | exact zgw (fun _ => rfl) | exact Vw.it _ _ rfl | exact Vw.mp _ _ _ _ rfl | exact zF zM (by decide) ⟨rfl, rfl⟩ trivial | exact zF zM (by decide) (fun _ _ => ⟨rfl, rfl⟩) trivial | (refine ziz rfl ?_; (repeat' (first | exact zg zM | exact zac | exact zg (fun _ => rfl) | exact zg (fun _ => zi) | exact zg (fun _ => zb) | exact zp zi | exact zp zb | exact zag rfl | exact zaf | exact zp rfl | refine zP ?_ ?_ | refine zj rfl ?_ | refine zj zi ?_ | refine zj zb ?_)); done) | exact zdH rfl | (refine RowV.of_flat ?_; (repeat' (first | exact zg zM | exact zac | exact zg (fun _ => rfl) | exact zg (fun _ => zi) | exact zg (fun _ => zb) | exact zp zi | exact zp zb | exact zag rfl | exact zaf | exact zp rfl | refine zP ?_ ?_ | refine zj rfl ?_ | refine zj zi ?_ | refine zj zb ?_)); done) | ((repeat' (first | exact zg zM | exact zac | exact zg (fun _ => rfl) | exact zg (fun _ => zi) | exact zg (fun _ => zb) | exact zp zi | exact zp zb | exact zag rfl | exact zaf | exact zp rfl | refine zP ?_ ?_ | refine zj rfl ?_ | refine zj zi ?_ | refine zj zb ?_)); done) | exact zfK rfl rfl (by omega) | exact zaT rfl rfl (by omega) | exact zdF rfl rfl (by omega) | exact zfQ (fun _ => rfl) | exact zF (fun _ => rfl) (by decide) ⟨rfl, rfl⟩ trivial | exact zF (fun _ => rfl) (by decide) (fun _ _ => ⟨rfl, rfl⟩) trivial | (simp; done)); done) | exact zgw (fun _ => rfl) | exact Vw.it _ _ rfl | exact Vw.mp _ _ _ _ rfl | exact zF zM (by decide) ⟨rfl, rfl⟩ trivial | exact zF zM (by decide) (fun _ _ => ⟨rfl, rfl⟩) trivial | (refine ziz rfl ?_; (repeat' (first | exact zg zM | exact zac | exact zg (fun _ => rfl) | exact zg (fun _ => zi) | exact zg (fun _ => zb) | exact zp zi | exact zp zb | exact zag rfl | exact zaf | exact zp rfl | refine zP ?_ ?_ | refine zj rfl ?_ | refine zj zi ?_ | refine zj zb ?_)); done) | exact zdH rfl | (refine RowV.of_flat ?_; (repeat' (first | exact zg zM | exact zac | exact zg (fun _ => rfl) | exact zg (fun _ => zi) | exact zg (fun _ => zb) | exact zp zi | exact zp zb | exact zag rfl | exact zaf | exact zp rfl | refine zP ?_ ?_ | refine zj rfl ?_ | refine zj zi ?_ | refine zj zb ?_)); done) | ((repeat' (first | exact zg zM | exact zac | exact zg (fun _ => rfl) | exact zg (fun _ => zi) | exact zg (fun _ => zb) | exact zp zi | exact zp zb | exact zag rfl | exact zaf | exact zp rfl | refine zP ?_ ?_ | refine zj rfl ?_ | refine zj zi ?_ | refine zj zb ?_)); done) | exact zfK rfl rfl (by omega) | exact zaT rfl rfl (by omega) | exact zdF rfl rfl (by omega) | exact zfQ (fun _ => rfl) | exact zF (fun _ => rfl) (by decide) ⟨rfl, rfl⟩ trivial | exact zF (fun _ => rfl) (by decide) (fun _ _ => ⟨rfl, rfl⟩) trivial | (simp; done)); done) | exact zgw (fun _ => rfl) | exact Vw.it _ _ rfl | exact Vw.mp _ _ _ _ rfl | exact zF zM (by decide) ⟨rfl, rfl⟩ trivial | exact zF zM (by decide) (fun _ _ => ⟨rfl, rfl⟩) trivial | (refine ziz rfl ?_; (repeat' (first | exact zg zM | exact zac | exact zg (fun _ => rfl) | exact zg (fun _ => zi) | exact zg (fun _ => zb) | exact zp zi | exact zp zb | exact zag rfl | exact zaf | exact zp rfl | refine zP ?_ ?_ | refine zj rfl ?_ | refine zj zi ?_ | refine zj zb ?_)); done) | exact zdH rfl | (refine RowV.of_flat ?_; (repeat' (first | exact zg zM | exact zac | exact zg (fun _ => rfl) | exact zg (fun _ => zi) | exact zg (fun _ => zb) | exact zp zi | exact zp zb | exact zag rfl | exact zaf | exact zp rfl | refine zP ?_ ?_ | refine zj rfl ?_ | refine zj zi ?_ | refine zj zb ?_)); done) | ((repeat' (first | exact zg zM | exact zac | exact zg (fun _ => rfl) | exact zg (fun _ => zi) | exact zg (fun _ => zb) | exact zp zi | exact zp zb | exact zag rfl | exact zaf | exact zp rfl | refine zP ?_ ?_ | refine zj rfl ?_ | refine zj zi ?_ | refine zj zb ?_)); done) | exact zfK rfl rfl (by omega) | exact zaT rfl rfl (by omega) | exact zdF rfl rfl (by omega) | exact zfQ (fun _ => rfl) | exact zF (fun _ => rfl) (by decide) ⟨rfl, rfl⟩ trivial | exact zF (fun _ => rfl) (by decide) (fun _ _ => ⟨rfl, rfl⟩) trivial | (simp; done)))
    · ((try simp only [evWB, Nat.reduceBEq, Nat.reduceAdd, Nat.reduceSub, Nat.reduceLeDiff, Nat.reduceLT, implies_true, zeB]) <;> ((repeat' with_reducible apply And.intro) <;> first | omega | rfl | (rfl; done) | (refine zF zM (by decide) ⟨rfl, rfl⟩ ?_; (try simp only [evWB, Nat.reduceBEq, Nat.reduceAdd, Nat.reduceSub, Nat.reduceLeDiff, Nat.reduceLT, implies_true, zeB]) <;> ((repeat' with_reducible apply And.intro) <;> first | omega | rfl | (refine zF zM (by decide) ⟨rfl, rfl⟩ ?_; (try simp only [evWB, Nat.reduceBEq, Nat.reduceAdd, Nat.reduceSub, Nat.reduceLeDiff, Nat.reduceLT, implies_true, zeB]) <;> ((repeat' with_reducible apply And.intro) <;> first | omega | rfl | exact zgw (fun _ => rfl) | exact Vw.it _ _ rfl | exact Vw.mp _ _ _ _ rfl | exact zF zM (by decide) ⟨rfl, rfl⟩ trivial | exact zF zM (by decide) (fun _ _ => ⟨rfl, rfl⟩) trivial | (refine ziz rfl ?_; (repeat' (first | exact zg zM | exact zac | exact zg (fun _ => rfl) | exact zg (fun _ => zi) | exact zg (fun _ => zb) | exact zp zi | exact zp zb | exact zag rfl | exact zaf | exact zp rfl | refine zP ?_ ?_ | refine zj rfl ?_ | refine zj zi ?_ | refine zj zb ?_)); done) | exact zdH rfl | (refine RowV.of_flat ?_; (repeat' (first | exact zg zM | exact zac | exact zg (fun _ => rfl) | exact zg (fun _ => zi) | exact zg (fun _ => zb) | exact zp zi | exact zp zb | exact zag rfl | exact zaf | exact zp rfl | refine zP ?_ ?_ | refine zj rfl ?_ | refine zj zi ?_ | refine zj zb ?_)); done) | ((repeat' (first | exact zg zM | exact zac | exact zg (fun _ => rfl) | exact zg (fun _ => zi) | exact zg (fun _ => zb) | exact zp zi | exact zp zb | exact zag rfl | exact zaf | exact zp rfl | refine zP ?_ ?_ | refine zj rfl ?_ | refine zj zi ?_ | refine zj zb ?_)); done) | exact zfK rfl rfl (by omega) | exact zaT rfl rfl (by omega) | exact zdF rfl rfl (by omega) | exact zfQ (fun _ => rfl) | exact zF (fun _ => rfl) (by decide) ⟨rfl, rfl⟩ trivial | exact zF (fun _ => rfl) (by decide) (fun _ _ => ⟨rfl, rfl⟩) trivial | (simp; done)); done) | exact zgw (fun _ => rfl) | exact Vw.it _ _ rfl | exact Vw.mp _ _ _ _ rfl | exact zF zM (by decide) ⟨rfl, rfl⟩ trivial | exact zF zM (by decide) (fun _ _ => ⟨rfl, rfl⟩) trivial | (refine ziz rfl ?_; (repeat' (first | exact zg zM | exact zac | exact zg (fun _ => rfl) | exact zg (fun _ => zi) | exact zg (fun _ => zb) | exact zp zi | exact zp zb | exact zag rfl | exact zaf | exact zp rfl | refine zP ?_ ?_ | refine zj rfl ?_ | refine zj zi ?_ | refine zj zb ?_)); done) | exact zdH rfl | (refine RowV.of_flat ?_; (repeat' (first | exact zg zM | exact zac | exact zg (fun _ => rfl) | exact zg (fun _ => zi) | exact zg (fun _ => zb) | exact zp zi | exact zp zb | exact zag rfl | exact zaf | exact zp rfl | refine zP ?_ ?_ | refine zj rfl ?_ | refine zj zi ?_ | refine zj zb ?_)); done) | ((repeat' (first | exact zg zM | exact zac | exact zg (fun _ => rfl) | exact zg (fun _ => zi) | exact zg (fun _ => zb) | exact zp zi | exact zp zb | exact zag rfl | exact zaf | exact zp rfl | refine zP ?_ ?_ | refine zj rfl ?_ | refine zj zi ?_ | refine zj zb ?_)); done) | exact zfK rfl rfl (by omega) | exact zaT rfl rfl (by omega) | exact zdF rfl rfl (by omega) | exact zfQ (fun _ => rfl) | exact zF (fun _ => rfl) (by decide) ⟨rfl, rfl⟩ trivial | exact zF (fun _ => rfl) (by decide) (fun _ _ => ⟨rfl, rfl⟩) trivial | (simp; done)); done) | exact zgw (fun _ => rfl) | exact Vw.it _ _ rfl | exact Vw.mp _ _ _ _ rfl | exact zF zM (by decide) ⟨rfl, rfl⟩ trivial | exact zF zM (by decide) (fun _ _ => ⟨rfl, rfl⟩) trivial | (refine ziz rfl ?_; (repeat' (first | exact zg zM | exact zac | exact zg (fun _ => rfl) | exact zg (fun _ => zi) | exact zg (fun _ => zb) | exact zp zi | exact zp zb | exact zag rfl | exact zaf | exact zp rfl | refine zP ?_ ?_ | refine zj rfl ?_ | refine zj zi ?_ | refine zj zb ?_)); done) | exact zdH rfl | (refine RowV.of_flat ?_; (repeat' (first | exact zg zM | exact zac | exact zg (fun _ => rfl) | exact zg (fun _ => zi) | exact zg (fun _ => zb) | exact zp zi | exact zp zb | exact zag rfl | exact zaf | exact zp rfl | refine zP ?_ ?_ | refine zj rfl ?_ | refine zj zi ?_ | refine zj zb ?_)); done) | ((repeat' (first | exact zg zM | exact zac | exact zg (fun _ => rfl) | exact zg (fun _ => zi) | exact zg (fun _ => zb) | exact zp zi | exact zp zb | exact zag rfl | exact zaf | exact zp rfl | refine zP ?_ ?_ | refine zj rfl ?_ | refine zj zi ?_ | refine zj zb ?_)); done) | exact zfK rfl rfl (by omega) | exact zaT rfl rfl (by omega) | exact zdF rfl rfl (by omega) | exact zfQ (fun _ => rfl) | exact zF (fun _ => rfl) (by decide) ⟨rfl, rfl⟩ trivial | exact zF (fun _ => rfl) (by decide) (fun _ _ => ⟨rfl, rfl⟩) trivial | (simp; done)))
  · obtain ⟨i, rfl⟩ : ∃ k, i = k + 1 := ⟨i - 1, by omega⟩
    have hil : i < sts.length := by omega
    have hgl := zu (f := St.cells) (d := []) hil
    have ei : ((i + 1 : Nat) : Int) - 1 = i := by omega
    have hat := zxV (exit := exit) (a := a0) hil
    have hl0 := hlk i
    have hci := zjz (k := exit.length) hil
    have hc0 := zkR (k := exit.length) (l := sts) (i := i)
    have hrem := zhB sts[i] (keepM exit (sts.drop (i + 1)) a0).2
    have hbk := zgZ (keepM exit (sts.drop (i + 1)) a0).2 sts[i] exit k1 (hsz _ (List.getElem_mem hil)) (by omega) (by omega)
    generalize keepM exit (sts.drop (i + 1)) a0 = R at *
    obtain ⟨kp, a⟩ := R
    simp only at hrem hbk hli k1 k2 k3 hat
    (repeat first | simp (disch := try exact dis1) only [evD, Nat.reduceBEq, Nat.reduceAdd, Nat.reduceLeDiff, ei, dT, zeB, List.cons_append, List.nil_append, hgl, St.len, St.eight] | with_reducible intro _ | ((with_reducible apply And.intro); omega))
    refine zT [(0, 5, 0)] 1 _ (hrem) rfl rfl fin8 fin8 ?_
    rintro _ _ _ ⟨rfl, rfl, rfl⟩
    cases hx : remS sts[i] a.keys with
    | true =>
      rw [hx, if_pos rfl] at hat
      have hbt : (m0 || decide (kp.length < sts.length - i)) = true := by rw [decide_eq_true (by omega)]; simp
      (repeat first | simp (disch := try exact dis1) only [evD, Nat.reduceBEq, Nat.reduceAdd, Nat.reduceLeDiff, renM] | with_reducible intro _ | ((with_reducible apply And.intro); omega))
      refine ⟨i, by omega, by omega, ?_⟩
      exact (Ent.tab [(0, 0, 0), (1, 1, 0), (2, 2, 0), (3, 3, 0), (4, 4, 0), (5, 5, 0), (6, 6, 0)] [] rfl (by (try simp only [evWB, Nat.reduceBEq, Nat.reduceAdd, Nat.reduceSub, Nat.reduceLeDiff, Nat.reduceLT, implies_true, zeB, famS, hat, hbt, List.cons_append, List.nil_append]) <;> exact fin8) (by (try simp only [evWB, Nat.reduceBEq, Nat.reduceAdd, Nat.reduceSub, Nat.reduceLeDiff, Nat.reduceLT, implies_true, zeB, famS, hat, hbt, List.cons_append, List.nil_append]) <;> exact fin8))
    | false =>
      rw [hx, if_neg (by simp)] at hat
      (repeat first | simp (disch := try exact dis1) only [evD, Nat.reduceBEq, Nat.reduceAdd, Nat.reduceLeDiff, renM, hgl, St.len, St.eight] | with_reducible intro _ | ((with_reducible apply And.intro); omega))
      refine zT [(0, 5, 0)] 1 _ (hbk) rfl rfl fin8 fin8 ?_
      rintro _ _ _ ⟨rfl, rfl, rfl⟩
      have hkl : kp.reverse.length = kp.length := List.length_reverse
      have htk : (kp.reverse.map St.cells).take kp.length = kp.reverse.map St.cells := List.take_of_length_le (by rw [List.length_map, hkl]; omega)
      have hbt : decide (kp.length + 1 < sts.length - i) = decide (kp.length < sts.length - (i + 1)) := decide_eq_decide.2 (by omega)
      (repeat first | simp (disch := try exact dis1) only [evD, Nat.reduceBEq, Nat.reduceAdd, Nat.reduceLeDiff, renM, hgl, St.len, St.eight, hkl, htk] | with_reducible intro _ | ((with_reducible apply And.intro); omega))
      refine ⟨i, by omega, by omega, ?_⟩
      exact (Ent.tab [(0, 0, 0), (1, 1, 0), (2, 2, 0), (3, 3, 0), (4, 4, 0), (5, 5, 0), (6, 6, 1)] [] rfl (by (try simp only [evWB, Nat.reduceBEq, Nat.reduceAdd, Nat.reduceSub, Nat.reduceLeDiff, Nat.reduceLT, implies_true, zeB, famS, hat, hbt, List.cons_append, List.nil_append, List.length_cons, List.reverse_cons, List.map_append, List.map_cons, List.map_nil]) <;> exact fin8) (by (try simp only [evWB, Nat.reduceBEq, Nat.reduceAdd, Nat.reduceSub, Nat.reduceLeDiff, Nat.reduceLT, implies_true, zeB, famS, hat, hbt, List.cons_append, List.nil_append, List.length_cons, List.reverse_cons, List.map_append, List.map_cons, List.map_nil]) <;> exact fin8))
def insN (d : List Int) (a : List Int) (x : Int) : List Int := if x ∈ d then a else insU x a
def zma (exit : List Int) (s : St) : List Int := if zfO s = true then zah (zc6 s) exit else zc6 s
def eqnS (exit : List Int) (p : List Int × List Int) (s : St) : List Int × List Int := ((zma exit s).foldl (insN p.2) p.1, zah p.2 (zfP s))
def eqnB (exit : List Int) (l : List St) (out : List Int) : List Int := out.foldl (insN (l.foldl (eqnS exit) ([], [])).2) (l.foldl (eqnS exit) ([], [])).1
theorem znQ {d : List Int} {y : Int} : ∀ {l a : List Int}, y ∈ l.foldl (insN d) a ↔ y ∈ a ∨ (y ∈ l ∧ y ∉ d)
  | [], a => by simp
  | x :: l, a => by
    rw [List.foldl_cons, znQ]
    unfold insN
    split
    · rename_i h
      constructor
      · rintro (h1 | ⟨h1, h2⟩)
        · exact .inl h1
        · exact .inr ⟨List.mem_cons_of_mem _ h1, h2⟩
      · rintro (h1 | ⟨h1, h2⟩)
        · exact .inl h1
        · rcases List.mem_cons.1 h1 with rfl | h1
          · exact absurd h h2
          · exact .inr ⟨h1, h2⟩
    · rename_i h
      rw [zkO, List.mem_cons]
      constructor
      · rintro ((rfl | h1) | ⟨h1, h2⟩)
        · exact .inr ⟨.inl rfl, h⟩
        · exact .inl h1
        · exact .inr ⟨.inr h1, h2⟩
      · rintro (h1 | ⟨h1 | h1, h2⟩)
        · exact .inl (.inr h1)
        · exact .inl (.inl h1)
        · exact .inr ⟨h1, h2⟩
theorem znF {d : List Int} : ∀ {l a : List Int}, Asc a → Asc (l.foldl (insN d) a)
  | [], _, h => h
  | x :: l, a, h => by
    rw [List.foldl_cons]
    refine znF ?_
    unfold insN
    split
    · exact h
    · exact znq h
theorem zv2 {exit : List Int} {s : St} {y : Int} : y ∈ zma exit s ↔ y ∈ zc6 s ∨ (zfO s = true ∧ y ∈ exit) := by
  unfold zma
  split
  · rename_i h
    rw [zbN]
    simp [h]
  · rename_i h
    simp [h]
theorem zr7 {exit : List Int} : ∀ {l : List St} {p : List Int × List Int}, Asc p.1 → Asc ((l.foldl (eqnS exit) p).1)
  | [], _, h => h
  | s :: l, p, h => by
    rw [List.foldl_cons]
    exact zr7 (znF h)
theorem zrN {exit out : List Int} {y : Int} : ∀ {l : List St} {p : List Int × List Int}, (y ∈ (l.foldl (eqnS exit) p).1 ∨ (y ∈ out ∧ y ∉ (l.foldl (eqnS exit) p).2)) ↔ (y ∈ p.1 ∨ (y ∉ p.2 ∧ y ∈ zfa exit l out))
  | [], p => by
    show (_ ∨ (y ∈ out ∧ y ∉ p.2)) ↔ (_ ∨ (y ∉ p.2 ∧ y ∈ out))
    rw [and_comm]
    exact Iff.rfl
  | s :: l, p => by
    rw [List.foldl_cons, zrN, zqc, zeJ]
    unfold eqnS
    simp only
    rw [znQ, zbN, zv2]
    constructor
    · rintro ((h | ⟨h1, h2⟩) | ⟨h1, h2⟩)
      · exact .inl h
      · exact .inr ⟨h2, .inr h1⟩
      · exact .inr ⟨fun h => h1 (.inl h), .inl ⟨h2, fun h => h1 (.inr h)⟩⟩
    · rintro (h | ⟨h1, ⟨h2, h3⟩ | h2⟩)
      · exact .inl (.inl h)
      · exact .inr ⟨fun h => h.elim h1 h3, h2⟩
      · exact .inl (.inr ⟨h2, h1⟩)
theorem zsA {exit out : List Int} {l : List St} (h : Asc out) : eqnB exit l out = zfa exit l out := by
  unfold eqnB
  refine zlV (znF (zr7 (by simp [Asc]))) (zjB h) fun y => ?_
  rw [znQ, zrN (p := ([], []))]
  simp
def zyN (ins : List (List Int)) (l : List St) : List Int := (zz l).foldl (fun a t => zah a (ins.getD t.toNat [])) []
theorem zvZ {ins : List (List Int)} {l : List St} (h : ∀ t ∈ zz l, 0 ≤ t ∧ t < ins.length) : zyN ins l = endB ins l := by
  unfold zyN endB
  generalize zz l = ts at h
  have : ∀ a : List Int, ts.foldl (fun a t => zah a (ins.getD t.toNat [])) a = ts.foldl (endT ins) a := by
    induction ts with
    | nil => intro a; rfl
    | cons t ts ih =>
      intro a
      rw [List.foldl_cons, List.foldl_cons, ih (fun u hu => h u (List.mem_cons_of_mem _ hu))]
      congr 1
      unfold endT
      rw [if_pos (h t (by simp))]
  exact this []
def zby (exit : List Int) (bl : List Bl) (i : Nat) : List Bl := bl.mapIdx fun j b => if j < i then blkD exit bl j b else b
theorem zdw {exit : List Int} {bl : List Bl} {i : Nat} : (zby exit bl i).length = bl.length := by simp [zby]
theorem zqs {exit : List Int} {bl : List Bl} : zby exit bl 0 = bl := by
  apply List.ext_getElem
  · exact zdw
  · intro k h1 h2; simp [zby]
theorem zp2 {exit : List Int} {bl : List Bl} : zby exit bl bl.length = zcp exit bl := by
  apply List.ext_getElem
  · rw [zdw, zhT]
  · intro k h1 h2
    rw [zdw] at h1
    simp [zby, zcp, h1]
theorem ztl {exit : List Int} {bl : List Bl} {i : Nat} (h : i < bl.length) : (zby exit bl i)[i]'(by rw [zdw]; exact h) = bl[i] := by simp [zby]
theorem ztt {exit : List Int} {bl : List Bl} {i : Nat} (h : i < bl.length) : (zby exit bl i).set i ⟨bl[i].addr, (ziP exit bl[i].stmts (zaj exit bl i)).1⟩ = zby exit bl (i + 1) := by
  apply List.ext_getElem
  · simp [zby]
  · intro k h1 h2
    rw [zdw] at h2
    rw [List.getElem_set]
    by_cases hk : i = k
    · subst hk
      simp [zby, blkD]
    · rw [if_neg hk]
      simp only [zby, List.getElem_mapIdx]
      by_cases hl : k < i
      · rw [if_pos hl, if_pos (by omega)]
      · rw [if_neg hl, if_neg (by omega)]
theorem zm2 {exit : List Int} {bl : List Bl} {i : Nat} : SubB (zby exit bl i) bl := by
  refine ⟨zdw, fun k h1 h2 => ?_⟩
  simp only [zby, List.getElem_mapIdx]
  split
  · exact ⟨rfl, zhp _⟩
  · exact ⟨rfl, List.Sublist.refl _⟩
theorem zmG {b : Bl} : ∀ {l : List Bl} {i : Nat} (h : i < l.length), zD (l.set i b) + l[i].stmts.length = zD l + b.stmts.length
  | x :: l, 0, h => by simp only [zD, List.set_cons_zero, List.map_cons, List.sum_cons, List.getElem_cons_zero]; omega
  | x :: l, i + 1, h => by
    have := zmG (b := b) (l := l) (i := i) (by simpa using h)
    simp only [zD, List.set_cons_succ, List.map_cons, List.sum_cons, List.getElem_cons_succ] at *
    omega
theorem zs7 {exit : List Int} {x : List Bl} : zmA exit x = if zD (zcp exit x) = zD x then x else zmA exit (zcp exit x) := by
  unfold zmA
  rw [zox]
  split
  · rfl
  · have := (zc5 (exit := exit) (bl := x)).count
    exact zmY _ _ _ (by omega) (by omega)
theorem zyY {Q : QT} (ad : Int) (bl : List Bl) (exit U : List Int) (hU : GoodB U exit bl) (S T : Nat → MS) (hE : EndB U exit bl S T) (r0 : Nat) (hr0 : r0 + zD bl ≤ 1000000)
    (hfin : ∀ K H nx, Ent 0 K H nx [(1, za exit), (4, .ptr 0 0 0 0 0), (8, .ptr 1 0 0 0 0), (9, .int .i64 ((r0 + (zD bl - zD (zcp exit bl)) : Nat) : Int)), (10, .bool (decide (zD (zcp exit bl) < zD bl)))]
      [(0, .row 2 [[.int .u32 0, .nilsl]] 0), (1, .row 2 [[.int .u32 ad, .own 2 0 0 0 bl.length]] 0), (2, .row 2 ((zcp exit bl).map Bl.cells) 0)] 3 → Q .normal K H nx)
    {K : Kn} {H : AH} {nx : Nat} (hent : Ent 0 K H nx [(1, za exit), (4, .ptr 0 0 0 0 0), (8, .ptr 1 0 0 0 0), (9, .int .i64 r0), (10, .bool false), (12, .own 3 0 0 0 bl.length), (35, .int .i64 bl.length), (36, .int .i64 0)] (zeB ad bl.length bl T) 5) :
    zg2 Tryz.prog 0 zcV (zaX 2 Q) K H nx := by
  have hB := hBig
  have hlen := hU.len
  refine zl (fun i : Nat => ([(1, za exit), (4, .ptr 0 0 0 0 0), (8, .ptr 1 0 0 0 0), (9, .int .i64 ((r0 + (zD bl - zD (zby exit bl i)) : Nat) : Int)), (10, .bool (decide (zD (zby exit bl i) < zD bl))), (12, .own 3 0 0 0 bl.length), (35, .int .i64 bl.length), (36, .int .i64 i)], zeB ad bl.length (zby exit bl i) T)) 5
    (fun i => i ≤ bl.length) (fun i => bl.length - i) 0 (Nat.zero_le _) ?_ ?_
  · rw [zqs]
    simp only [Nat.sub_self, Nat.lt_irrefl, decide_false, Nat.add_zero]
    exact hent
  rintro i hi wf
  unfold zcV
  by_cases hil : i < bl.length
  · have hm := List.getElem_mem hil
    have hDl := zdw (exit := exit) (bl := bl) (i := i)
    have hDi := ztl (exit := exit) hil
    have hDs := ztt (exit := exit) hil
    have hDc := (zm2 (exit := exit) (bl := bl) (i := i)).count
    have hcs := zmG (b := ⟨bl[i].addr, (ziP exit bl[i].stmts (zaj exit bl i)).1⟩) (l := zby exit bl i) (i := i) (by omega)
    rw [hDs, hDi] at hcs
    simp only at hcs
    have hDc1 := (zm2 (exit := exit) (bl := bl) (i := i + 1)).count
    have hT := hE.t i
    have hTl := hT.len
    have hks : zcf ((T i).2.map (·.1)) = zaj exit bl i := hE.keyT hil
    have hkl : (zaj exit bl i).length = (T i).2.length := by rw [← hks, (zS _).length_eq, List.length_map]
    have hcost := hU.cost _ hm
    have hok : (addL (0, []) (zaj exit bl i)).ok := ziy zkY (by simp only; omega) (by simp only [List.length_nil]; omega)
    have hbd := zc2 (l := zaj exit bl i) (s := (0, []))
    simp only [List.length_nil] at hbd
    have hkeys : ∀ x, x ∈ (addL (0, []) (zaj exit bl i)).keys ↔ x ∈ zaj exit bl i := fun x => by rw [zdG]; simp [MS.keys]
    obtain ⟨hkp, _⟩ := zn7 (exit := exit) hkeys bl[i].stmts
    have hll := (zhp (exit := exit) (e := zaj exit bl i) bl[i].stmts).length_le
    have hstl := zjt hm
    have hl0 := fun (Q : QT) => zyg (Q := Q) ad bl.length i hil hlen (zby exit bl i) hDl T exit bl[i].stmts (addL (0, []) (zaj exit bl i)) (r0 + (zD bl - zD (zby exit bl i))) (decide (zD (zby exit bl i) < zD bl)) (fun s hs => (hU.hsz _ hm s hs).1) hok (by omega) (by omega) (by omega) (by omega)
    simp only [hDi] at hl0
    rw [hkp, hDs] at hl0
    have hg : ((zby exit bl i).map Bl.cells).getD i [] = [.int .u32 bl[i].addr, encL 8 St.cells bl[i].stmts] := by
      have := zu (f := Bl.cells) (d := []) (l := zby exit bl i) (i := i) (by omega)
      rw [hDi] at this
      exact this
    have hDml : ((zby exit bl i).map Bl.cells).length = bl.length := by rw [List.length_map, hDl]
    have hsa := zf1 (0, []) (zaj exit bl i) zkY (by simp only; omega) (by simp only [List.length_nil]; omega)
    generalize addL (0, []) (zaj exit bl i) = a0 at *
    generalize zaj exit bl i = lo at *
    clear hDi hDs hDl
    generalize hD : zby exit bl i = D at *
    (repeat first | simp (disch := try exact dis1) only [evD, Nat.reduceBEq, Nat.reduceAdd, Nat.reduceLeDiff, dT, zeB, za, zfL, zdY hil] | with_reducible intro _ | ((with_reducible apply And.intro); omega))
    refine zT [(0, 4, 0)] 1 _ (zb5 bl.length i hil T hT.ok) rfl rfl (by (try simp only [evWB, Nat.reduceBEq, Nat.reduceAdd, Nat.reduceSub, Nat.reduceLeDiff, Nat.reduceLT, implies_true, famS]) <;> exact fin8) (by (try simp only [evWB, Nat.reduceBEq, Nat.reduceAdd, Nat.reduceSub, Nat.reduceLeDiff, Nat.reduceLT, implies_true, famS]) <;> exact fin8) ?_
    rintro _ _ _ ⟨rfl, rfl, rfl⟩
    (repeat first | simp (disch := try exact dis1) only [evD, Nat.reduceBEq, Nat.reduceAdd, Nat.reduceLeDiff, renE, renF, hks, za, zfL, zdY hil] | with_reducible intro _ | ((with_reducible apply And.intro); omega))
    refine zT [(0, 5, 0)] 1 _ (hsa) rfl rfl (by (try simp only [evWB, Nat.reduceBEq, Nat.reduceAdd, Nat.reduceSub, Nat.reduceLeDiff, Nat.reduceLT, implies_true, zr]) <;> exact fin8) (by (try simp only [evWB, Nat.reduceBEq, Nat.reduceAdd, Nat.reduceSub, Nat.reduceLeDiff, Nat.reduceLT, implies_true, zr]) <;> exact fin8) ?_
    rintro _ _ _ ⟨rfl, rfl, rfl⟩
    (repeat first | simp (disch := try exact dis1) only [evD, Nat.reduceBEq, Nat.reduceAdd, Nat.reduceLeDiff, renM, za, hg, hDml] | with_reducible intro _ | ((with_reducible apply And.intro); omega))
    refine hl0 _ ?_ ?_
    · intro K2 H2 nx2 he
      refine ⟨i + 1, by omega, by show bl.length - (i + 1) < bl.length - i; omega, ?_⟩
      have e1 : r0 + (zD bl - zD D) + (bl[i].stmts.length - (ziP exit bl[i].stmts lo).1.length) = r0 + (zD bl - zD (zby exit bl (i + 1))) := by omega
      have e2 : (decide (zD D < zD bl) || decide ((ziP exit bl[i].stmts lo).1.length < bl[i].stmts.length)) = decide (zD (zby exit bl (i + 1)) < zD bl) := by
        rw [← Bool.decide_or]
        exact decide_eq_decide.2 (by omega)
      rw [e1, e2] at he
      exact he
    · exact (Ent.tab [(0, 0, 0), (1, 1, 0), (2, 2, 0), (3, 3, 0), (4, 4, 0), (5, 5, 0), (6, 8, 0)] [] rfl (by (try simp only [evWB, Nat.reduceBEq, Nat.reduceAdd, Nat.reduceSub, Nat.reduceLeDiff, Nat.reduceLT, implies_true, zeB, famS, List.cons_append, List.nil_append]) <;> exact fin8) (by (try simp only [evWB, Nat.reduceBEq, Nat.reduceAdd, Nat.reduceSub, Nat.reduceLeDiff, Nat.reduceLT, implies_true, zeB, famS, List.cons_append, List.nil_append]) <;> exact fin8))
  · obtain rfl : i = bl.length := by omega
    rw [zp2]
    (repeat first | simp (disch := try exact dis1) only [evD, Nat.reduceBEq, Nat.reduceAdd, Nat.reduceLeDiff, dF] | with_reducible intro _ | ((with_reducible apply And.intro); omega))
    refine hfin _ _ _ ?_
    exact (Ent.tab [(0, 0, 0), (1, 1, 0), (2, 2, 0)] [] rfl (by (try simp only [evWB, Nat.reduceBEq, Nat.reduceAdd, Nat.reduceSub, Nat.reduceLeDiff, Nat.reduceLT, implies_true, zeB, famS, za]) <;> exact fin8) (by (try simp only [evWB, Nat.reduceBEq, Nat.reduceAdd, Nat.reduceSub, Nat.reduceLeDiff, Nat.reduceLT, implies_true, zeB, famS, za]) <;> exact fin8))
theorem zrv {F n g : Nat} : AObj.refs (.row 1 (mps F n) g) := by
  intro c hc
  obtain ⟨i, _, rfl⟩ := List.mem_map.1 hc
  rfl
theorem zyA (a : MC) : (cm a).all AV.ref0 = true := by
  unfold cm
  split <;> rfl
theorem zoS {n : Nat} {S : Nat → MS} : AObj.refs (famS n S) := by
  intro p hp
  unfold fi at hp
  obtain ⟨i, _, rfl⟩ := List.mem_map.1 hp
  exact zw0 zyA
theorem zwK {n : Nat} {S T : Nat → MS} : AH.refs (bdH n S T) := ⟨zrv, zrv, zoS, zoS, trivial⟩
structure RunD (U exit : List Int) (bl0 R x : List Bl) (m : Bool) : Prop where
  good : GoodB U exit x
  len : x.length = bl0.length
  cnt : zD x ≤ zD bl0
  go : zmA exit x = R
  done : m = false → x = R
theorem RunD.next {U exit : List Int} {bl0 R x : List Bl} (h : RunD U exit bl0 R x true) :
    RunD U exit bl0 R (zcp exit x) (decide (zD (zcp exit x) < zD x)) ∧ 2 * zD (zcp exit x) + (bif decide (zD (zcp exit x) < zD x) then 1 else 0) < 2 * zD x + (bif true then 1 else 0) := by
  have hc := (zc5 (exit := exit) (bl := x)).count
  have hg := h.go
  have hn := h.cnt
  rw [zs7] at hg
  refine ⟨⟨h.good.sub zc5, by rw [zhT]; exact h.len, by omega, ?_, fun hm => ?_⟩, ?_⟩
  · split at hg
    · rename_i he
      rw [zc5.same he]
      exact h.go
    · exact hg
  · have hm := of_decide_eq_false hm
    rw [if_pos (by omega)] at hg
    rw [zc5.same (by omega)]
    exact hg
  · by_cases hlt : zD (zcp exit x) < zD x
    · rw [decide_eq_true hlt]
      simp only [cond_true]
      omega
    · rw [decide_eq_false hlt]
      simp only [cond_true, cond_false]
      omega
theorem zyZ {Q : QT} (ad : Int) (bl0 R : List Bl) (exit U : List Int)
    (hcnt : zD bl0 ≤ 1000000)
    (hfin : wpX Tryz.prog 0 zbJ Q [(4, .ptr 0 0 0 0 0), (8, .ptr 1 0 0 0 0), (9, .int .i64 ((zD bl0 - zD R : Nat) : Int)), (26, .bool false)]
      [(0, .row 2 [[.int .u32 0, .nilsl]] 0), (1, .row 2 [[.int .u32 ad, .own 2 0 0 0 bl0.length]] 0), (2, .row 2 (R.map Bl.cells) 0)] 3)
    {K : Kn} {H : AH} {nx : Nat} (hrun : RunD U exit bl0 R bl0 true) (hent : Ent 0 K H nx [(1, za exit), (4, .ptr 0 0 0 0 0), (8, .ptr 1 0 0 0 0), (9, .int .i64 0), (10, .bool true)]
      [(0, .row 2 [[.int .u32 0, .nilsl]] 0), (1, .row 2 [[.int .u32 ad, .own 2 0 0 0 bl0.length]] 0), (2, .row 2 (bl0.map Bl.cells) 0)] 3) :
    zg2 Tryz.prog 0 zcN (zaX 0 (seqQ Tryz.prog 0 zbJ Q)) K H nx := by
  have hB := hBig
  refine zl (fun a : List Bl × Bool => ([(1, za exit), (4, .ptr 0 0 0 0 0), (8, .ptr 1 0 0 0 0), (9, .int .i64 ((zD bl0 - zD a.1 : Nat) : Int)), (10, .bool a.2)],
      [(0, .row 2 [[.int .u32 0, .nilsl]] 0), (1, .row 2 [[.int .u32 ad, .own 2 0 0 0 bl0.length]] 0), (2, .row 2 (a.1.map Bl.cells) 0)])) 3
    (fun a => RunD U exit bl0 R a.1 a.2) (fun a => 2 * zD a.1 + (bif a.2 then 1 else 0)) (bl0, true) hrun ?_ ?_
  · simp only [Nat.sub_self]
    exact hent
  rintro ⟨x, m⟩ hrn wf
  simp only at hrn
  unfold zcN
  cases m with
  | false =>
    obtain rfl := hrn.done rfl
    (repeat first | simp (disch := try exact dis1) only [evD, Nat.reduceBEq, Nat.reduceAdd, Nat.reduceLeDiff] | with_reducible intro _ | ((with_reducible apply And.intro); omega))
    exact hfin
  | true =>
    obtain ⟨n1, n2⟩ := hrn.next
    have hxl := hrn.len
    have hxc := hrn.cnt
    have hbd := ziX ⟨ad, x⟩ exit U hrn.good.univ
    have hxb := hrn.good.len
    have hml : (x.map Bl.cells).length = x.length := List.length_map _
    (repeat first | simp (disch := try exact dis1) only [evD, Nat.reduceBEq, Nat.reduceAdd, Nat.reduceLeDiff] | with_reducible intro _ | ((with_reducible apply And.intro); omega))
    refine zsj (D := inD [2]) hbd (.cons (.agg _ _ _ rfl (fun j a c h1 h2 => ?_)) (.cons (zW rfl) .nil)) ?_ ?_
    · match j with
      | 0 => cases h1; cases h2; exact .int _ _ _
      | 1 => cases h1; cases h2; rw [← hxl]; exact zvx rfl rfl (by omega)
      | j + 2 => cases h1
    · rintro _ _ _ ⟨S, T, rfl, rfl, rfl, _⟩
      exact ⟨rfl, zwK⟩
    rintro _ _ _ ⟨S, T, rfl, rfl, rfl, hend⟩
    simp only at hend
    (repeat first | simp (disch := try exact dis1) only [evD, Nat.reduceBEq, Nat.reduceAdd, Nat.reduceLeDiff, bdH, renP, renF] | with_reducible intro _ | ((with_reducible apply And.intro); omega))
    refine zyY ad x exit U hrn.good S T hend (zD bl0 - zD x) (by omega) ?_ ?_
    · intro K2 H2 nx2 he
      refine ⟨(zcp exit x, _), n1, n2, ?_⟩
      have hc := (zc5 (exit := exit) (bl := x)).count
      have e1 : zD bl0 - zD x + (zD x - zD (zcp exit x)) = zD bl0 - zD (zcp exit x) := by omega
      rw [e1, hxl] at he
      exact he
    · rw [hxl]
      exact (Ent.tab [(0, 0, 0), (1, 1, 0), (2, 2, 0), (3, 4, 0), (4, 6, 0)] [] rfl (by (try simp only [evWB, Nat.reduceBEq, Nat.reduceAdd, Nat.reduceSub, Nat.reduceLeDiff, Nat.reduceLT, implies_true, zeB, famS]) <;> exact fin8) (by (try simp only [evWB, Nat.reduceBEq, Nat.reduceAdd, Nat.reduceSub, Nat.reduceLeDiff, Nat.reduceLT, implies_true, zeB, famS]) <;> exact fin8))
def zwz (g : G) (exit : List Int) : AV := if zhx g = 0 then .tup [.agg (G.cells ⟨g.addr, zmA exit g.blocks⟩), .int .i64 ((zD g.blocks - zD (zmA exit g.blocks) : Nat) : Int), .int .i64 0] else .tup [.agg (G.cells ⟨0, []⟩), .int .i64 0, .int .i64 (zhx g)]
theorem ztJ {exit : List Int} {bl : List Bl} : (zmA exit bl).length = bl.length := (zpi _ _).1
theorem zgO (g : G) (exit U : List Int) (hU : GoodB U exit g.blocks) (hf : fewB g) : zB Tryz.prog zc8 [.agg g.cells, za exit] (· = zwz g exit) := by
  refine fn_x zkw rfl ?_
  unfold zg0 zwz
  have hB := hBig
  have hcg := zkA g hf (fun b hb s hs => by have := (hU.hsz b hb s hs).2; omega)
  have hcp := zup g hU.len (fun b hb => Nat.le_trans (zjt hb) hU.cnt) (fun b hb s hs => ⟨(hU.hsz b hb s hs).1, by have := (hU.hsz b hb s hs).2; omega⟩)
  have hpl := ztJ (exit := exit) (bl := g.blocks)
  have hlen := hU.len
  have hcnt := hU.cnt
  obtain ⟨ad, bl⟩ := g
  simp only [G.cells] at hcg hcp hpl hU hlen hcnt ⊢
  (repeat first | simp (disch := try exact dis1) only [evD, Nat.reduceBEq, Nat.reduceAdd, Nat.reduceLeDiff, fldP, za, zkD, tab, List.getD_cons_zero, List.getD_cons_succ] | with_reducible intro _ | ((with_reducible apply And.intro); omega))
  refine zh (zn hcg rfl) ?_
  by_cases hc : zhx ⟨ad, bl⟩ = 0
  · rw [if_pos hc, hc]
    (repeat first | simp (disch := try exact dis1) only [evD, Nat.reduceBEq, Nat.reduceAdd, Nat.reduceLeDiff, dF, fldP, za, zkD, tab, List.getD_cons_zero, List.getD_cons_succ] | with_reducible intro _ | ((with_reducible apply And.intro); omega))
    refine zT [] 0 _ (hcp) rfl rfl fin9 fin9 ?_
    rintro _ _ _ ⟨rfl, rfl, rfl⟩
    have hrb : ∀ {ρ : Nat → Nat} {l : List Bl} {g : Nat}, AObj.ren ρ (.row 2 (l.map Bl.cells) g) = .row 2 (l.map Bl.cells) g := fun {ρ l g} => by
      simp only [AObj.ren]
      rw [zgp (zg fun s => rfl)]
    (repeat first | simp (disch := try exact dis1) only [evD, Nat.reduceBEq, Nat.reduceAdd, Nat.reduceLeDiff, hrb] | with_reducible intro _ | ((with_reducible apply And.intro); omega))
    refine zyZ ad bl (zmA exit bl) exit U hcnt ?_ ⟨hU, rfl, Nat.le_refl _, rfl, fun h => by cases h⟩ ?_
    · unfold zbJ
      (repeat first | simp (disch := try exact dis1) only [evD, Nat.reduceBEq, Nat.reduceAdd, Nat.reduceLeDiff, zd6] | with_reducible intro _ | ((with_reducible apply And.intro); omega))
      refine ⟨.tup [.agg [.int .u32 ad, encL 2 Bl.cells (zmA exit bl)], .int .i64 ((zD bl - zD (zmA exit bl) : Nat) : Int), .int .i64 0], .tup _ _ _ rfl (fun j a c h1 h2 => ?_), rfl⟩
      match j with
      | 0 =>
        cases h1; cases h2
        refine .agg _ _ _ rfl (fun j a c h1 h2 => ?_)
        match j with
        | 0 => cases h1; cases h2; exact .int _ _ _
        | 1 => cases h1; cases h2; rw [← hpl]; exact zvx trivial rfl (by omega)
        | j + 2 => cases h1
      | 1 => cases h1; cases h2; exact .int _ _ _
      | 2 => cases h1; cases h2; exact .int _ _ _
      | j + 3 => cases h1
    · exact (Ent.tab [(0, 0, 0), (1, 2, 0), (2, 1, 0)] [] rfl (by (try simp only [evWB, Nat.reduceBEq, Nat.reduceAdd, Nat.reduceSub, Nat.reduceLeDiff, Nat.reduceLT, implies_true, za]) <;> exact fin2) (by (try simp only [evWB, Nat.reduceBEq, Nat.reduceAdd, Nat.reduceSub, Nat.reduceLeDiff, Nat.reduceLT, implies_true, za]) <;> exact fin2))
  · rw [if_neg hc]
    (repeat first | simp (disch := try exact dis1) only [evD, Nat.reduceBEq, Nat.reduceAdd, Nat.reduceLeDiff, fldP, dT, za, zd6] | with_reducible intro _ | ((with_reducible apply And.intro); omega))
    refine ⟨.tup [.agg [.int .u32 0, encL 2 Bl.cells []], .int .i64 0, .int .i64 (zhx ⟨ad, bl⟩)], .tup _ _ _ rfl (fun j a c h1 h2 => ?_), rfl⟩
    match j with
    | 0 =>
      cases h1; cases h2
      refine .agg _ _ _ rfl (fun j a c h1 h2 => ?_)
      match j with
      | 0 => cases h1; cases h2; exact .int _ _ _
      | 1 => cases h1; cases h2; exact .nil0 _ _ _
      | j + 2 => cases h1
    | 1 => cases h1; cases h2; exact .int _ _ _
    | 2 => cases h1; cases h2; exact .int _ _ _
    | j + 3 => cases h1
end Go.Ab
