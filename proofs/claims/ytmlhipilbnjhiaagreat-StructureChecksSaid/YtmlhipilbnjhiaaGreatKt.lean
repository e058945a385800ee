/-
  Part 20 of the proof: how the calls of this program run, over values instead of memory, and what each function computes.
-/
import Derived.Test.YtmlhipilbnjhiaaGreatKs
set_option maxRecDepth 100000
set_option linter.unusedVariables false
set_option linter.unusedSimpArgs false
set_option linter.unnecessarySimpa false
set_option linter.unusedSectionVars false

namespace Go.Ab.Dm
open Go.RowKit Go.Proofs
structure TI (A : Adj) (r : Nat) (l : List Nat) (f : Nat → Nat) (T : Nat → Option Nat) : Prop where
  wt : WT r l T
  sd : Sd A r l T
  gd : T = (fun _ => none) ∨ ∃ T0, Gd A r l f T0 T
structure Bst (U : Nat → Option Nat) (r : Nat) (l qs : List Nat) (best : Option Nat) : Prop where
  no : best = none → ∀ p ∈ qs, p ∈ l → ¬ Hd r U p
  yes : ∀ c, best = some c → c ∈ l ∧ Hd r U c ∧ ∀ x, Ch U c x ↔ ∀ p ∈ qs, p ∈ l → Hd r U p → Ch U p x
theorem dF {p : Prop} (h : ¬ p) {inst : Decidable p} : @decide p inst = false := decide_eq_false h
theorem dT {p : Prop} (h : p) {inst : Decidable p} : @decide p inst = true := decide_eq_true h
end Go.Ab.Dm
namespace Go.Ab.Dm
structure SL (A : Adj) (r : Nat) (l : List Nat) (inc : Bool) (S : Adj) (n : Nat) : Prop where
  nd : ∀ b, b < n → (suc S b).Nodup
  mem : ∀ a b, b < n → (a ∈ suc S b ↔ (b ∈ l ∧ a ∈ l ∧ a ≠ b ∧ (a ≠ r ∨ inc = true) ∧ Dm A r a b))
theorem zyg {A : Adj} (hok : A.ok) {r : Nat} (hr : r < A.length) {x : Nat} : x ∈ ordL A r ↔ RA A (fun _ => False) r x := (rpo hok hr).mem x
end Go.Ab.Dm
namespace Go.Ab.Dm
open Go.RowKit Go.Proofs
theorem inB_order {E : Adj} (hE : E.ok) : inB E.length (orderL E) = reachL E := by
  unfold inB reachL mapR
  refine List.map_congr_left fun b hb => ?_
  have hb' := List.mem_range.1 hb
  have hn : 0 < E.length := by omega
  have h1 : orderL E = ordL E 0 := by unfold orderL ordL; rw [if_neg (by omega)]
  have h2 : b ∈ zuV E 0 (-1) ↔ RA E (fun _ => False) 0 b := zwL hE hn
  rw [h1]
  exact decide_eq_decide.2 ((zyg hE hn).trans h2.symm)
theorem orderL_nd {E : Adj} (hE : E.ok) : NdL E.length (orderL E) := by
  by_cases hn : 0 < E.length
  · have h1 : orderL E = ordL E 0 := by unfold orderL ordL; rw [if_neg (by omega)]
    rw [h1]
    exact ⟨(rpo hE hn).nd, (rpo hE hn).lt⟩
  · have h1 : orderL E = [] := by unfold orderL; rw [if_pos (by omega)]
    rw [h1]
    exact ⟨by simp, by simp⟩
theorem dominator_Reachable_ok (g : Gr) (hg : g.small) : zk Tryz.prog zbv [.agg g.cells] (· = z8 (reachL g.E)) := by
  refine fn_x zhY rfl ?_
  unfold zdS
  have hB := hBig
  have hlen := g.E_len
  have hn := hg.1
  rw [← inB_order g.E_ok]
  have hnd := orderL_nd g.E_ok
  (repeat first | simp (disch := try exact dis1) only [evD, Nat.reduceBEq, Nat.reduceAdd, Nat.reduceLeDiff, Gr.cells, Gr.two] | with_reducible intro _ | ((with_reducible apply And.intro); omega))
  refine ze (zh (zkF g hg) rfl) ?_
  generalize orderL g.E = l at hnd ⊢
  generalize g.E.length = n at hlen hnd ⊢
  subst hlen
  have hln := hnd.len
  (repeat first | simp (disch := try exact dis1) only [evD, Nat.reduceBEq, Nat.reduceAdd, Nat.reduceLeDiff, zat] | with_reducible intro _ | ((with_reducible apply And.intro); omega))
  refine zm (fun i : Nat => ([(3, .own 0 0 0 0 g.blocks.length), (11, zat l), (12, .int .i64 l.length), (13, .int .i64 i)], [(0, .row 1 ((inB g.blocks.length (l.take i)).map cB) 0)])) 1 (fun i => i ≤ l.length) (fun i => l.length - i) 0 (Nat.zero_le _) (Ent.tab [(0, 1, 0)] [] rfl (by (try simp only [evWB, Nat.reduceBEq, Nat.reduceAdd, Nat.reduceSub, Nat.reduceLeDiff, Nat.reduceLT, implies_true, zo0]) <;> exact fin4) (by (try simp only [evWB, Nat.reduceBEq, Nat.reduceAdd, Nat.reduceSub, Nat.reduceLeDiff, Nat.reduceLT, implies_true, zo0]) <;> exact fin4)) ?_
  intro i hi wf
  unfold zcW
  (repeat first | simp (disch := try exact dis1) only [evD, Nat.reduceBEq, Nat.reduceAdd, Nat.reduceLeDiff, zat] | with_reducible intro _ | ((with_reducible apply And.intro); omega))
  (refine zp (fun h => ?_) (fun h => ?_)) <;> (try simp only [dcd] at h)
  · have hi' : i < l.length := by omega
    have hk := hnd.lt _ (List.getElem_mem hi')
    have htk : l.take (i + 1) = l.take i ++ [l[i]] := by rw [List.take_add_one, List.getElem?_eq_getElem hi']; rfl
    (repeat first | simp (disch := try exact dis1) only [evD, Nat.reduceBEq, Nat.reduceAdd, Nat.reduceLeDiff, zo hi', zpl, zuQ] | with_reducible intro _ | ((with_reducible apply And.intro); omega))
    exact ⟨i + 1, by omega, by omega, (Ent.tab [(0, 0, 0)] [] rfl (by (try simp only [evWB, Nat.reduceBEq, Nat.reduceAdd, Nat.reduceSub, Nat.reduceLeDiff, Nat.reduceLT, implies_true, htk]) <;> exact fin4) (by (try simp only [evWB, Nat.reduceBEq, Nat.reduceAdd, Nat.reduceSub, Nat.reduceLeDiff, Nat.reduceLT, implies_true, htk]) <;> exact fin4))⟩
  · unfold zcO
    (repeat first | simp (disch := try exact dis1) only [evD, Nat.reduceBEq, Nat.reduceAdd, Nat.reduceLeDiff, zdW] | with_reducible intro _ | ((with_reducible apply And.intro); omega))
    refine ⟨_, ?_, rfl⟩
    rw [List.take_of_length_le (by omega)]
    have e := zpl (n := g.blocks.length) (l := l)
    have := zmt (H := [(0, .row 1 ((inB g.blocks.length l).map cB) 0)]) (H2 := []) (σ := nos) (D := allR) (t := false) (r := 0) (q := 0) (g := 0) (l := inB g.blocks.length l) trivial rfl (by omega)
    rwa [e] at this
end Go.Ab.Dm
namespace Go.Ab
open Go.RowKit Go.Proofs
def St.toS (s : St) : Stm := ⟨s.op, s.var, s.width, s.next, s.els, s.tgt, encL 5 encX s.e, s.cases⟩
def Bl.toB (b : Bl) : Blk := ⟨b.addr, b.stmts.map St.toS⟩
def G.toG (g : G) : Gr := ⟨g.addr, g.blocks.map Bl.toB⟩
theorem zsE {α β : Type} {n : Nat} {f : β → List AV} {h : α → β} {l : List α} : encL n f (l.map h) = encL n (fun x => f (h x)) l := by
  unfold encL
  rw [List.length_map, List.map_map]
  rfl
theorem St.toS_cells (s : St) : s.toS.cells = s.cells := rfl
theorem Bl.toB_cells (b : Bl) : b.toB.cells = b.cells := by
  unfold Bl.toB Blk.cells Bl.cells
  simp only [zsE, St.toS_cells]
theorem G.toG_cells (g : G) : g.toG.cells = g.cells := by
  unfold G.toG Gr.cells G.cells
  simp only [zsE, Bl.toB_cells]
theorem Bl.toB_targets (b : Bl) : b.toB.targets = zbm b.stmts := by
  unfold Blk.targets zbm Bl.toB
  simp only [List.getLast?_map]
  cases b.stmts.getLast? <;> rfl
theorem zd8 {g : G} (h : fewG g = true) : g.blocks.length ≤ 12 ∧ ∀ b ∈ g.blocks, b.stmts.length ≤ 8 ∧ ∀ s ∈ b.stmts, s.cases.length ≤ 8 ∧ s.e.length ≤ 3 ∧ zd4 s.e = true := by
  unfold fewG at h
  rw [Bool.and_eq_true, decide_eq_true_eq] at h
  refine ⟨h.2, fun b hb => ?_⟩
  have h1 := h.1
  rw [List.take_of_length_le (by omega), List.all_eq_true] at h1
  have h2 := h1 b hb
  unfold blOk at h2
  rw [Bool.and_eq_true, decide_eq_true_eq, List.all_eq_true] at h2
  refine ⟨h2.1, fun s hs => ?_⟩
  have h3 := h2.2 s hs
  unfold stOk at h3
  rw [Bool.and_eq_true, Bool.and_eq_true, decide_eq_true_eq, decide_eq_true_eq] at h3
  exact ⟨h3.1, h3.2.1, h3.2.2⟩
theorem zqk {g : G} (h : fewG g = true) : fewB g := ⟨(zd8 h).1, fun b hb => ((zd8 h).2 b hb).1⟩
theorem zt6 {g : G} (h : fewG g = true) : ∀ b ∈ g.blocks, ∀ s ∈ b.stmts, s.cases.length ≤ 100000000 := fun b hb s hs => by have := (((zd8 h).2 b hb).2 s hs).1; omega
theorem zmv {l : List St} {n : Nat} (hn : 2 ≤ n) (h : ∀ s ∈ l, s.cases.length ≤ n) : (zbm l).length ≤ n := by
  unfold zbm
  cases hl : l.getLast? with
  | none => simp
  | some s =>
    have := h s (List.mem_of_getLast? hl)
    simp only [zgU]
    split
    · simp only [List.length_singleton]; omega
    · split
      · simp only [List.length_cons, List.length_nil]; omega
      · split
        · exact this
        · simp
theorem zom {g : G} (h : fewG g = true) : g.toG.small := by
  obtain ⟨h1, h2⟩ := zd8 h
  refine ⟨by simp only [G.toG, List.length_map]; omega, fun b hb => ?_⟩
  simp only [G.toG, List.mem_map] at hb
  obtain ⟨b, hb, rfl⟩ := hb
  rw [Bl.toB_targets]
  have := zmv (l := b.stmts) (n := 8) (by omega) (fun s hs => ((h2 b hb).2 s hs).1)
  omega
def zk7 : Nd → Bool
  | .mk f c l => z7 f.kind f.block f.label c l.length
mutual
def zex : Nd → Bool
  | .mk f c l => zdy l && z7 f.kind f.block f.label c l.length
def zdy : List Nd → Bool
  | [] => true
  | x :: l => zex x && zdy l
end
mutual
theorem znz : ∀ n : Nd, (allN n).all zk7 = zex n
  | .mk f c l => by
    rw [allN, List.all_cons, zlG l, zex, Bool.and_comm]
    rfl
theorem zlG : ∀ l : List Nd, (zdM l).all zk7 = zdy l
  | [] => by rw [zdM, zdy]; rfl
  | x :: l => by rw [zdM, List.all_append, znz x, zlG l, zdy]
end
theorem zkK (e : Nd) : zk Tryz.prog zC [.agg (encN e)] (· = .bool (zk7 e)) := by
  obtain ⟨⟨kd, bl, lb⟩, c, l⟩ := e
  rw [zbs]
  exact zjH kd bl lb c l
theorem zqd (e : Nd) : zk Tryz.prog zP [.agg (encN e)] (· = .bool (zk7 e)) := by
  obtain ⟨⟨kd, bl, lb⟩, c, l⟩ := e
  rw [zbs]
  exact zpj kd bl lb c l
theorem zlq (l : List Nd) : PredN (.fn (.func zbV) []) l (fun x => !zk7 x) := by
  refine ⟨_, _, rfl, by kernel_rfl, rfl, fun s hs => ?_⟩
  refine fn_x zja rfl ?_
  unfold zeM
  (repeat first | simp (disch := try exact dis1) only [evD, Nat.reduceBEq, Nat.reduceAdd, Nat.reduceLeDiff, zam, zaq, zK, encP] | with_reducible intro _ | ((with_reducible apply And.intro); omega))
  refine ze (zh (zkK s) (flN rfl)) ?_
  (repeat first | simp (disch := try exact dis1) only [evD, Nat.reduceBEq, Nat.reduceAdd, Nat.reduceLeDiff, zeX] | with_reducible intro _ | ((with_reducible apply And.intro); omega))
  exact ⟨_, .bool _ _, rfl⟩
theorem zoI : ∀ (k : Nat) (e : Nd), za7 e ≤ k → zk Tryz.prog zei [.agg (encN e)] (· = .bool (zex e)) := by
  intro k
  induction k with
  | zero => intro e h; obtain ⟨_, _, l⟩ := e; rw [za7] at h; omega
  | succ k ih =>
  intro e hk
  have hE2 := zam (e := e)
  have hF := zqd e
  have hN5 := zK (e := e)
  obtain ⟨⟨kd, bl, lb⟩, c, l⟩ := e
  refine fn_x zoC rfl ?_
  unfold zkw
  have hB := hBig
  rw [za7] at hk
  have hE := zbs ⟨kd, bl, lb⟩ c l
  simp only at hE
  rw [hE] at hF hN5 ⊢
  rw [zex]
  simp only
  generalize hR : zdy l = R
  (repeat first | simp (disch := try exact dis1) only [evD, Nat.reduceBEq, Nat.reduceAdd, Nat.reduceLeDiff, fldP] | with_reducible intro _ | ((with_reducible apply And.intro); omega))
  refine zm (fun i : Nat => ([(1, encP 5 [.int .i64 kd, .int .i64 bl, .int .i64 lb, encL 5 encX c, encL 5 encN l]), (3, .int .i64 i)], [])) 0 (fun i => i ≤ l.length ∧ zdy (l.drop i) = R) (fun i => l.length - i) 0 ⟨Nat.zero_le _, hR⟩ (Ent.keep rfl fin5) ?_
  rintro i ⟨hi, hgo⟩ wf
  unfold zhT
  by_cases hl : i < l.length
  case neg =>
    rw [List.drop_of_length_le (by omega), zdy] at hgo
    subst hgo
    (repeat first | simp (disch := try exact dis1) only [evD, Nat.reduceBEq, Nat.reduceAdd, Nat.reduceLeDiff, fldP, dF] | with_reducible intro _ | ((with_reducible apply And.intro); omega))
    unfold zhH
    (repeat first | simp (disch := try exact dis1) only [evD, Nat.reduceBEq, Nat.reduceAdd, Nat.reduceLeDiff, zfT, tab, List.getD_cons_zero, List.getD_cons_succ] | with_reducible intro _ | ((with_reducible apply And.intro); omega))
    refine ze (zh hF rfl) ?_
    (repeat first | simp (disch := try exact dis1) only [evD, Nat.reduceBEq, Nat.reduceAdd, Nat.reduceLeDiff, zhs] | with_reducible intro _ | ((with_reducible apply And.intro); omega))
    exact ⟨_, .bool _ _, rfl⟩
  have hm := zdh (List.getElem_mem hl)
  rw [List.drop_eq_getElem_cons hl, zdy] at hgo
  (repeat first | simp (disch := try exact dis1) only [evD, Nat.reduceBEq, Nat.reduceAdd, Nat.reduceLeDiff, fldP, dT, zo hl, zam, zK] | with_reducible intro _ | ((with_reducible apply And.intro); omega))
  refine ze (zh (ih l[i] (by omega)) (flN rfl)) ?_
  cases hq : zex l[i] with
  | true => rw [hq, Bool.true_and] at hgo; (repeat first | simp (disch := try exact dis1) only [evD, Nat.reduceBEq, Nat.reduceAdd, Nat.reduceLeDiff] | with_reducible intro _ | ((with_reducible apply And.intro); omega)); exact ⟨i + 1, ⟨by omega, hgo⟩, by omega, Ent.keep rfl fin5⟩
  | false => rw [hq, Bool.false_and] at hgo; subst hgo; (repeat first | simp (disch := try exact dis1) only [evD, Nat.reduceBEq, Nat.reduceAdd, Nat.reduceLeDiff, zhs] | with_reducible intro _ | ((with_reducible apply And.intro); omega)); exact ⟨_, .bool _ _, rfl⟩
theorem zjb (e : Nd) (hs : za7 e ≤ 1000) : zaf Tryz.prog zb3 [.agg (encN e)] [] 0 (fun v H nx => v = .own 0 0 0 0 (coll labP e).length ∧ H = [(0, .row 1 ((coll labP e).map cI) 0)] ∧ nx = 1) := by
  refine ze4 (fn_x zjO rfl ?_)
  unfold zfG
  have hB := hBig
  rw [← zp5]
  have hl := zge zmp e
  rw [← zp5] at hl
  (repeat first | simp (disch := try exact dis1) only [evD, Nat.reduceBEq, Nat.reduceAdd, Nat.reduceLeDiff, zam, zaq, zK] | with_reducible intro _ | ((with_reducible apply And.intro); omega))
  refine ze (zh (zhE e hs) (flN rfl)) ?_
  have hlen : (allN e).length ≤ 1000 := by rw [zms]; exact hs
  generalize allN e = l at *
  generalize hR : fm labP l = R at hl ⊢
  (repeat first | simp (disch := try exact dis1) only [evD, Nat.reduceBEq, Nat.reduceAdd, Nat.reduceLeDiff] | with_reducible intro _ | ((with_reducible apply And.intro); omega))
  refine zm (fun s : Nat × List Int => ([(3, .own 0 0 0 0 s.2.length), (7, encL 5 encN l), (8, .int .i64 l.length), (9, .int .i64 s.1)], [(0, .row 1 (s.2.map cI) 0)])) 1 (fun s => s.1 ≤ l.length ∧ s.2 ++ fm labP (l.drop s.1) = R) (fun s => l.length - s.1) (0, []) ⟨Nat.zero_le _, by simp only [List.drop_zero, List.nil_append]; exact hR⟩ (Ent.tab [(0, 1, 0)] [] rfl (by (try simp only [evWB, Nat.reduceBEq, Nat.reduceAdd, Nat.reduceSub, Nat.reduceLeDiff, Nat.reduceLT, implies_true]) <;> exact fin2) (by (try simp only [evWB, Nat.reduceBEq, Nat.reduceAdd, Nat.reduceSub, Nat.reduceLeDiff, Nat.reduceLT, implies_true]) <;> exact fin2)) ?_
  rintro ⟨i, x⟩ ⟨hi, hgo⟩ wf
  simp only at hi hgo
  unfold zdR
  by_cases hil : i < l.length
  · rw [zzQ hil] at hgo
    have hgd := zo (f := encN) (d := []) hil
    generalize hli : l[i] = y at hgd hgo
    obtain ⟨⟨kd, bl, lb⟩, c, m⟩ := y
    simp only [Nd.f] at hgo
    have hg : labP ⟨kd, bl, lb⟩ = if kd = 10 then [lb] else [] := rfl
    rw [zbs] at hgd
    simp only at hgd
    have hxl := congrArg List.length hgo
    simp only [List.length_append] at hxl
    (repeat first | simp (disch := try exact dis1) only [evD, Nat.reduceBEq, Nat.reduceAdd, Nat.reduceLeDiff, dT, hgd, List.length_cons, List.length_nil] | with_reducible intro _ | ((with_reducible apply And.intro); omega))
    (refine zp (fun h9 => ?_) (fun h9 => ?_)) <;> (try simp only [dcd] at h9)
    · rw [if_pos h9] at hg
      rw [hg, ← List.append_assoc] at hgo
      (repeat first | simp (disch := try exact dis1) only [evD, Nat.reduceBEq, Nat.reduceAdd, Nat.reduceLeDiff] | with_reducible intro _ | ((with_reducible apply And.intro); omega))
      exact ⟨(i + 1, x ++ [lb]), ⟨by simp only; omega, hgo⟩, by simp only; omega, (Ent.tab [(0, 0, 1)] [] rfl (by (try simp only [evWB, Nat.reduceBEq, Nat.reduceAdd, Nat.reduceSub, Nat.reduceLeDiff, Nat.reduceLT, implies_true, List.length_append, List.map_append, List.length_cons, List.length_nil, List.map_cons, List.map_nil]) <;> exact fin2) (by (try simp only [evWB, Nat.reduceBEq, Nat.reduceAdd, Nat.reduceSub, Nat.reduceLeDiff, Nat.reduceLT, implies_true, List.length_append, List.map_append, List.length_cons, List.length_nil, List.map_cons, List.map_nil]) <;> exact fin2))⟩
    · rw [if_neg h9] at hg
      rw [hg, List.nil_append] at hgo
      (repeat first | simp (disch := try exact dis1) only [evD, Nat.reduceBEq, Nat.reduceAdd, Nat.reduceLeDiff] | with_reducible intro _ | ((with_reducible apply And.intro); omega))
      exact ⟨(i + 1, x), ⟨by simp only; omega, hgo⟩, by simp only; omega, (Ent.tab [(0, 0, 0)] [] rfl (by (try simp only [evWB, Nat.reduceBEq, Nat.reduceAdd, Nat.reduceSub, Nat.reduceLeDiff, Nat.reduceLT, implies_true]) <;> exact fin2) (by (try simp only [evWB, Nat.reduceBEq, Nat.reduceAdd, Nat.reduceSub, Nat.reduceLeDiff, Nat.reduceLT, implies_true]) <;> exact fin2))⟩
  · rw [List.drop_of_length_le (by omega), zwl, List.append_nil] at hgo
    subst hgo
    (repeat first | simp (disch := try exact dis1) only [evD, Nat.reduceBEq, Nat.reduceAdd, Nat.reduceLeDiff, dF] | with_reducible intro _ | ((with_reducible apply And.intro); omega))
    unfold zdZ
    (repeat first | simp (disch := try exact dis1) only [evD, Nat.reduceBEq, Nat.reduceAdd, Nat.reduceLeDiff, zfA] | with_reducible intro _ | ((with_reducible apply And.intro); omega))
    exact ⟨.own 0 0 0 0 x.length, [(0, .row 1 (x.map cI) 0)], 1, (Ent.tab [(0, 0, 0)] [] rfl (by (try simp only [evWB, Nat.reduceBEq, Nat.reduceAdd, Nat.reduceSub, Nat.reduceLeDiff, Nat.reduceLT, implies_true]) <;> exact fin2) (by (try simp only [evWB, Nat.reduceBEq, Nat.reduceAdd, Nat.reduceSub, Nat.reduceLeDiff, Nat.reduceLT, implies_true]) <;> exact fin2)), rfl, rfl, rfl⟩
def ctF (rs : List Bool) (gl : List Bl) (kd bl : Int) : Bool :=
  if kd = 2 ∨ kd = 5 then decide (0 ≤ bl ∧ bl < rs.length) && (rs.getD bl.toNat false && !(decide (kd = 5) && decide (1 < ((gl.map (·.stmts)).getD bl.toNat []).length))) else true
def ctP (rs : List Bool) (gl : List Bl) : Nd → Bool
  | .mk f _ _ => ctF rs gl f.kind f.block
def covA (rs : List Bool) (gl : List Bl) (L : List Nd) : Bool :=
  L.all (ctP rs gl) && (List.range rs.length).all fun k => !(rs.getD k false) || decide (((fm blkP L).count (k : Int) : Int) = 1)
def cnt (n : Nat) (l : List Int) : List Int := (List.range n).map fun (k : Nat) => ((l.count (k : Int) : Nat) : Int)
theorem zjQ {n : Nat} {l : List Int} : (cnt n l).length = n := by simp [cnt]
theorem zs9 {n : Nat} : (cnt n []).map cI = List.replicate n [AV.int .i64 0] := by
  unfold cnt
  rw [List.map_map]
  apply List.ext_getElem
  · simp
  · intro i h1 h2
    simp
theorem zuT {n k : Nat} {l : List Int} (h : k < n) : ((cnt n l).map cI).getD k [] = [.int .i64 ((l.count (k : Int) : Nat) : Int)] := by
  rw [zo (by rw [zjQ]; exact h)]
  simp [cnt]
theorem zAf {n k : Nat} {l : List Int} (h : k < n) : ((cnt n l).map cI).set k [.int .i64 (((l.count (k : Int) : Nat) : Int) + 1)] = (cnt n (l ++ [(k : Int)])).map cI := by
  apply List.ext_getElem
  · simp [zjQ]
  · intro i h1 h2
    simp only [List.length_map, zjQ] at h2
    rw [List.getElem_set]
    simp only [cnt, List.map_map, List.getElem_map, List.getElem_range, Function.comp]
    rw [List.count_append, List.count_singleton]
    by_cases hik : k = i
    · subst hik
      simp
    · have hne : ((k : Int) == (i : Int)) = false := by simp; omega
      rw [if_neg hik, hne]
      simp
theorem zAy {p : NdF → List Int} {l : List Nd} {i : Nat} (h : i < l.length) : fm p (l.take (i + 1)) = fm p (l.take i) ++ p l[i].f := by
  rw [List.take_add_one, List.getElem?_eq_getElem h]
  unfold fm
  rw [List.flatMap_append]
  simp only [Option.toList, List.flatMap_cons, List.flatMap_nil, List.append_nil]
theorem zyD {p : Nd → Bool} {l : List Nd} {i : Nat} (h : i < l.length) : (l.take (i + 1)).all p = ((l.take i).all p && p l[i]) := by
  rw [List.take_add_one, List.getElem?_eq_getElem h, List.all_append]
  simp only [Option.toList, List.all_cons, List.all_nil, Bool.and_true]
theorem zjI (g : G) (hf : fewG g = true) (L : List Nd) (hL : L.length ≤ 1000) (hc : (fm blkP L).length ≤ 1000) :
    zk Tryz.prog zb6 [encL 5 encN L, .agg g.cells] (· = .bool (covA (Dm.reachL g.toG.E) g.blocks L)) := by
  refine fn_x zjP rfl ?_
  unfold zfF
  have hB := hBig
  have hR := Dm.dominator_Reachable_ok g.toG (zom hf)
  have hrl : (Dm.reachL g.toG.E).length = g.blocks.length := by
    unfold Dm.reachL
    rw [List.length_map, List.length_range, Gr.E_len]
    simp [G.toG]
  have hgb := (zd8 hf).1
  have hgs := (zd8 hf).2
  rw [G.toG_cells] at hR
  generalize Dm.reachL g.toG.E = rs at hR hrl
  obtain ⟨ad, gl⟩ := g
  simp only [G.cells] at hR hrl hgb hgs ⊢
  generalize hn : gl.length = n at *
  (repeat first | simp (disch := try exact dis1) only [evD, Nat.reduceBEq, Nat.reduceAdd, Nat.reduceLeDiff, fldP, zfT, tab, List.getD_cons_zero, List.getD_cons_succ] | with_reducible intro _ | ((with_reducible apply And.intro); omega))
  refine ze (zh hR rfl) ?_
  (repeat first | simp (disch := try exact dis1) only [evD, Nat.reduceBEq, Nat.reduceAdd, Nat.reduceLeDiff, z8, hrl] | with_reducible intro _ | ((with_reducible apply And.intro); omega))
  refine zm (fun i : Nat => ([(3, encP 2 [.int .u32 ad, encL 2 Bl.cells gl]), (5, z8 rs), (6, .own 0 0 0 0 n), (16, encL 5 encN L), (17, .int .i64 L.length), (18, .int .i64 i)], [(0, .row 1 ((cnt n (fm blkP (L.take i))).map cI) 0)])) 1
    (fun i => i ≤ L.length ∧ (L.take i).all (ctP rs gl) = true) (fun i => L.length - i) 0 ⟨Nat.zero_le _, rfl⟩ (Ent.tab [(0, 0, 0)] [] rfl (by (try simp only [evWB, Nat.reduceBEq, Nat.reduceAdd, Nat.reduceSub, Nat.reduceLeDiff, Nat.reduceLT, implies_true, List.take_zero, zwl, zs9, hrl, z8]) <;> exact fin2) (by (try simp only [evWB, Nat.reduceBEq, Nat.reduceAdd, Nat.reduceSub, Nat.reduceLeDiff, Nat.reduceLT, implies_true, List.take_zero, zwl, zs9, hrl, z8]) <;> exact fin2)) ?_
  rintro i ⟨hi, hall⟩ wf
  unfold zdO
  by_cases hl : i < L.length
  case pos =>
    have hgd := zo (f := encN) (d := []) hl
    have hft := zAy (p := blkP) hl
    have hat := zyD (p := ctP rs gl) hl
    have hcl : (fm blkP (L.take i)).length ≤ 1000 := by
      have : (fm blkP L).length = (fm blkP (L.take i)).length + (fm blkP (L.drop i)).length := by
        conv => lhs; rw [← List.take_append_drop i L]
        unfold fm
        rw [List.flatMap_append, List.length_append]
      omega
    have hbad : ctP rs gl L[i] = false → covA rs gl L = false := fun h => by
      unfold covA
      rw [List.all_eq_false.2 ⟨L[i], List.getElem_mem hl, by rw [h]; simp⟩, Bool.false_and]
    rw [hall, Bool.true_and] at hat
    generalize L[i] = y at hgd hft hat hbad
    generalize fm blkP (L.take i) = K at hft hcl
    obtain ⟨⟨kd, bl, lb⟩, c, m⟩ := y
    rw [zbs] at hgd
    simp only at hgd
    have hbk : blkP (Nd.mk ⟨kd, bl, lb⟩ c m).f = if kd = 2 ∨ kd = 5 then [bl] else [] := rfl
    have hct : ctP rs gl (Nd.mk ⟨kd, bl, lb⟩ c m) = if kd = 2 ∨ kd = 5 then decide (0 ≤ bl ∧ bl < rs.length) && (rs.getD bl.toNat false && !(decide (kd = 5) && decide (1 < ((gl.map (·.stmts)).getD bl.toNat []).length))) else true := rfl
    rw [hbk] at hft
    rw [hct] at hat hbad
    have skip : ¬ (kd = 2 ∨ kd = 5) → cnt n (fm blkP (L.take (i + 1))) = cnt n K ∧ (L.take (i + 1)).all (ctP rs gl) = true := fun h => by
      rw [if_neg h] at hft hat
      rw [List.append_nil] at hft
      exact ⟨by rw [hft], hat⟩
    by_cases h25 : kd = 2 ∨ kd = 5
    case neg =>
      obtain ⟨s1, s2⟩ := skip h25
      (repeat first | simp (disch := try exact dis1) only [evD, Nat.reduceBEq, Nat.reduceAdd, Nat.reduceLeDiff, dT, dF, hgd] | with_reducible intro _ | ((with_reducible apply And.intro); omega))
      exact ⟨i + 1, ⟨by omega, s2⟩, by omega, (Ent.tab [(0, 0, 0)] [] rfl (by (try simp only [evWB, Nat.reduceBEq, Nat.reduceAdd, Nat.reduceSub, Nat.reduceLeDiff, Nat.reduceLT, implies_true, s1]) <;> exact fin2) (by (try simp only [evWB, Nat.reduceBEq, Nat.reduceAdd, Nat.reduceSub, Nat.reduceLeDiff, Nat.reduceLT, implies_true, s1]) <;> exact fin2))⟩
    rw [if_pos h25] at hft hat hbad
    have tail : ∀ (b1 : 0 ≤ bl) (b2 : bl < n) (hr : rs.getD bl.toNat false = true), True := fun _ _ _ => trivial
    have hcount : K.count bl ≤ 1000 := Nat.le_trans List.count_le_length hcl
    by_cases b1 : 0 ≤ bl
    case neg =>
      have hb := hbad (by rw [dF (fun h => b1 h.1), Bool.false_and])
      rw [hb]
      rcases h25 with rfl | rfl
      · (repeat first | simp (disch := try exact dis1) only [evD, Nat.reduceBEq, Nat.reduceAdd, Nat.reduceLeDiff, dT, dF, hgd, zQ] | with_reducible intro _ | ((with_reducible apply And.intro); omega))
        exact ⟨_, .bool _ _, rfl⟩
      · (repeat first | simp (disch := try exact dis1) only [evD, Nat.reduceBEq, Nat.reduceAdd, Nat.reduceLeDiff, dT, dF, hgd, zQ] | with_reducible intro _ | ((with_reducible apply And.intro); omega))
        exact ⟨_, .bool _ _, rfl⟩
    by_cases b2 : bl < n
    case neg =>
      have hb := hbad (by rw [dF (fun h => by have := h.2; omega), Bool.false_and])
      rw [hb]
      rcases h25 with rfl | rfl
      · (repeat first | simp (disch := try exact dis1) only [evD, Nat.reduceBEq, Nat.reduceAdd, Nat.reduceLeDiff, dT, dF, hgd, z8, hrl, zQ] | with_reducible intro _ | ((with_reducible apply And.intro); omega))
        exact ⟨_, .bool _ _, rfl⟩
      · (repeat first | simp (disch := try exact dis1) only [evD, Nat.reduceBEq, Nat.reduceAdd, Nat.reduceLeDiff, dT, dF, hgd, z8, hrl, zQ] | with_reducible intro _ | ((with_reducible apply And.intro); omega))
        exact ⟨_, .bool _ _, rfl⟩
    have hbl : bl.toNat < rs.length := by omega
    have hbl2 : bl.toNat < gl.length := by omega
    have hrg : (rs.map fun b => [AV.bool b]).getD bl.toNat [] = [.bool (rs.getD bl.toNat false)] := by
      rw [zo hbl]
      simp [List.getD, hbl]
    have hgg : (gl.map Bl.cells).getD bl.toNat [] = [.int .u32 gl[bl.toNat].addr, encL 8 St.cells gl[bl.toNat].stmts] := zo hbl2
    have hgst : (gl.map (·.stmts)).getD bl.toNat [] = gl[bl.toNat].stmts := zo hbl2
    rw [hgst] at hat hbad
    rw [dT ⟨b1, by omega⟩, Bool.true_and] at hat hbad
    have hst8 := (hgs _ (List.getElem_mem hbl2)).1
    generalize gl[bl.toNat].stmts = sm at hat hbad hgg hst8
    have hcg : ((cnt n K).map cI).getD bl.toNat [] = [.int .i64 ((K.count bl : Nat) : Int)] := by
      rw [zuT (by omega), show ((bl.toNat : Nat) : Int) = bl by omega]
    have hcs : ((cnt n K).map cI).set bl.toNat [.int .i64 (((K.count bl : Nat) : Int) + 1)] = (cnt n (fm blkP (L.take (i + 1)))).map cI := by
      have := zAf (n := n) (k := bl.toNat) (l := K) (by omega)
      rw [show ((bl.toNat : Nat) : Int) = bl by omega] at this
      rw [this, hft]
    cases hr : rs.getD bl.toNat false with
    | false =>
      rw [hr] at hbad hrg
      have hb := hbad (by rw [Bool.false_and])
      rw [hb]
      rcases h25 with rfl | rfl
      · (repeat first | simp (disch := try exact dis1) only [evD, Nat.reduceBEq, Nat.reduceAdd, Nat.reduceLeDiff, dT, dF, hgd, z8, hrl, hrg, zQ] | with_reducible intro _ | ((with_reducible apply And.intro); omega))
        exact ⟨_, .bool _ _, rfl⟩
      · (repeat first | simp (disch := try exact dis1) only [evD, Nat.reduceBEq, Nat.reduceAdd, Nat.reduceLeDiff, dT, dF, hgd, z8, hrl, hrg, zQ] | with_reducible intro _ | ((with_reducible apply And.intro); omega))
        exact ⟨_, .bool _ _, rfl⟩
    | true =>
      rw [hr, Bool.true_and] at hbad hat
      rw [hr] at hrg
      rcases h25 with rfl | rfl
      · rw [dF (by omega), Bool.false_and] at hat
        (repeat first | simp (disch := try exact dis1) only [evD, Nat.reduceBEq, Nat.reduceAdd, Nat.reduceLeDiff, dT, dF, hgd, z8, hrl, hrg, hcg, hcs, zjQ, List.length_map] | with_reducible intro _ | ((with_reducible apply And.intro); omega))
        exact ⟨i + 1, ⟨by omega, hat⟩, by omega, (Ent.tab [(0, 0, 0)] [] rfl (by (try simp only [evWB, Nat.reduceBEq, Nat.reduceAdd, Nat.reduceSub, Nat.reduceLeDiff, Nat.reduceLT, implies_true, z8, hrl]) <;> exact fin2) (by (try simp only [evWB, Nat.reduceBEq, Nat.reduceAdd, Nat.reduceSub, Nat.reduceLeDiff, Nat.reduceLT, implies_true, z8, hrl]) <;> exact fin2))⟩
      · by_cases h1 : 1 < sm.length
        · have hb := hbad (by rw [dT h1]; rfl)
          rw [hb]
          (repeat first | simp (disch := try exact dis1) only [evD, Nat.reduceBEq, Nat.reduceAdd, Nat.reduceLeDiff, dT, dF, hgd, z8, hrl, hrg, fldP, hgg, hn, zQ] | with_reducible intro _ | ((with_reducible apply And.intro); omega))
          exact ⟨_, .bool _ _, rfl⟩
        · rw [dF h1, Bool.and_false] at hat
          (repeat first | simp (disch := try exact dis1) only [evD, Nat.reduceBEq, Nat.reduceAdd, Nat.reduceLeDiff, dT, dF, hgd, z8, hrl, hrg, fldP, hgg, hn, hcg, hcs, zjQ, List.length_map] | with_reducible intro _ | ((with_reducible apply And.intro); omega))
          exact ⟨i + 1, ⟨by omega, hat⟩, by omega, (Ent.tab [(0, 0, 0)] [] rfl (by (try simp only [evWB, Nat.reduceBEq, Nat.reduceAdd, Nat.reduceSub, Nat.reduceLeDiff, Nat.reduceLT, implies_true, z8, hrl]) <;> exact fin2) (by (try simp only [evWB, Nat.reduceBEq, Nat.reduceAdd, Nat.reduceSub, Nat.reduceLeDiff, Nat.reduceLT, implies_true, z8, hrl]) <;> exact fin2))⟩
  rw [List.take_of_length_le (by omega)] at hall ⊢
  unfold covA
  rw [hall, Bool.true_and]
  generalize fm blkP L = K at hc ⊢
  (repeat first | simp (disch := try exact dis1) only [evD, Nat.reduceBEq, Nat.reduceAdd, Nat.reduceLeDiff, dF] | with_reducible intro _ | ((with_reducible apply And.intro); omega))
  unfold zdQ
  (repeat first | simp (disch := try exact dis1) only [evD, Nat.reduceBEq, Nat.reduceAdd, Nat.reduceLeDiff, z8, hrl] | with_reducible intro _ | ((with_reducible apply And.intro); omega))
  generalize hR2 : ((List.range n).all fun k => !(rs.getD k false) || decide (((K.count (k : Int) : Nat) : Int) = 1)) = R
  refine zm (fun k : Nat => ([(6, .own 0 0 0 0 n), (70, z8 rs), (71, .int .i64 n), (72, .int .i64 k)], [(0, .row 1 ((cnt n K).map cI) 0)])) 1
    (fun k => k ≤ n ∧ ∀ j, j < k → (!(rs.getD j false) || decide (((K.count (j : Int) : Nat) : Int) = 1)) = true) (fun k => n - k) 0 ⟨Nat.zero_le _, fun j hj => by omega⟩ (Ent.tab [(0, 0, 0)] [] rfl (by (try simp only [evWB, Nat.reduceBEq, Nat.reduceAdd, Nat.reduceSub, Nat.reduceLeDiff, Nat.reduceLT, implies_true, z8, hrl]) <;> exact fin2) (by (try simp only [evWB, Nat.reduceBEq, Nat.reduceAdd, Nat.reduceSub, Nat.reduceLeDiff, Nat.reduceLT, implies_true, z8, hrl]) <;> exact fin2)) ?_
  rintro k ⟨hk, hgo⟩ wf2
  unfold zd1
  by_cases hkn : k < n
  case neg =>
    have : R = true := by
      rw [← hR2, List.all_eq_true]
      intro j hj
      have := List.mem_range.1 hj
      exact hgo j (by omega)
    subst this
    (repeat first | simp (disch := try exact dis1) only [evD, Nat.reduceBEq, Nat.reduceAdd, Nat.reduceLeDiff, dF] | with_reducible intro _ | ((with_reducible apply And.intro); omega))
    unfold zdV
    (repeat first | simp (disch := try exact dis1) only [evD, Nat.reduceBEq, Nat.reduceAdd, Nat.reduceLeDiff, zQ] | with_reducible intro _ | ((with_reducible apply And.intro); omega))
    exact ⟨_, .bool _ _, rfl⟩
  have hrg : (rs.map fun b => [AV.bool b]).getD k [] = [.bool (rs.getD k false)] := by
    rw [zo (by omega)]
    simp [List.getD, show k < rs.length by omega]
  have hcg := zuT (n := n) (l := K) hkn
  have hstep : (!(rs.getD k false) || decide (((K.count (k : Int) : Nat) : Int) = 1)) = true → ∀ j, j < k + 1 → (!(rs.getD j false) || decide (((K.count (j : Int) : Nat) : Int) = 1)) = true := fun h j hj => by
    by_cases hjk : j = k
    · subst hjk; exact h
    · exact hgo j (by omega)
  have hstop : (!(rs.getD k false) || decide (((K.count (k : Int) : Nat) : Int) = 1)) = false → R = false := fun h => by
    rw [← hR2, List.all_eq_false]
    exact ⟨k, List.mem_range.2 (by omega), by rw [h]; simp⟩
  cases hr : rs.getD k false with
  | false =>
    rw [hr] at hrg hstep
    (repeat first | simp (disch := try exact dis1) only [evD, Nat.reduceBEq, Nat.reduceAdd, Nat.reduceLeDiff, dT, z8, hrl, hrg] | with_reducible intro _ | ((with_reducible apply And.intro); omega))
    exact ⟨k + 1, ⟨by omega, hstep (by simp)⟩, by omega, (Ent.tab [(0, 0, 0)] [] rfl (by (try simp only [evWB, Nat.reduceBEq, Nat.reduceAdd, Nat.reduceSub, Nat.reduceLeDiff, Nat.reduceLT, implies_true, z8, hrl]) <;> exact fin2) (by (try simp only [evWB, Nat.reduceBEq, Nat.reduceAdd, Nat.reduceSub, Nat.reduceLeDiff, Nat.reduceLT, implies_true, z8, hrl]) <;> exact fin2))⟩
  | true =>
    rw [hr] at hrg hstep hstop
    by_cases h1 : ((K.count (k : Int) : Nat) : Int) = 1
    · (repeat first | simp (disch := try exact dis1) only [evD, Nat.reduceBEq, Nat.reduceAdd, Nat.reduceLeDiff, dT, dF, z8, hrl, hrg, hcg, zjQ, List.length_map] | with_reducible intro _ | ((with_reducible apply And.intro); omega))
      exact ⟨k + 1, ⟨by omega, hstep (by rw [dT h1]; rfl)⟩, by omega, (Ent.tab [(0, 0, 0)] [] rfl (by (try simp only [evWB, Nat.reduceBEq, Nat.reduceAdd, Nat.reduceSub, Nat.reduceLeDiff, Nat.reduceLT, implies_true, z8, hrl]) <;> exact fin2) (by (try simp only [evWB, Nat.reduceBEq, Nat.reduceAdd, Nat.reduceSub, Nat.reduceLeDiff, Nat.reduceLT, implies_true, z8, hrl]) <;> exact fin2))⟩
    · have := hstop (by rw [dF h1]; rfl)
      subst this
      (repeat first | simp (disch := try exact dis1) only [evD, Nat.reduceBEq, Nat.reduceAdd, Nat.reduceLeDiff, dT, dF, z8, hrl, hrg, hcg, zjQ, List.length_map, zQ] | with_reducible intro _ | ((with_reducible apply And.intro); omega))
      exact ⟨_, .bool _ _, rfl⟩
def ordI (g : G) : List Int := (Dm.orderL g.toG.E).map fun (n : Nat) => (n : Int)
def covB (g : G) (e : Nd) : Bool := (decide (∀ k, (h : k < (coll blkP e).length) → (coll blkP e)[k] ∈ ordI g ∧ (coll blkP e)[k] ∉ (coll blkP e).take k) && decide ((coll blkP e).length = (ordI g).length)) && zjK g.blocks e
theorem zpe {l : List Int} {t : Int} : hasI l t = decide (t ∈ l) := by
  unfold hasI
  rw [Bool.eq_iff_iff, List.any_eq_true, decide_eq_true_eq]
  constructor
  · rintro ⟨x, hx, h⟩
    rw [decide_eq_true_eq] at h
    rw [← h]; exact hx
  · exact fun h => ⟨t, h, by simp⟩
theorem zvU {H H2 : AH} {σ : Nat → Nat → Option (Nat × Nat × Nat)} {D : Nat → Nat → Prop} {t : Bool} {l : List Int} {i : Nat} (h : i ≤ l.length) :
    Vw H H2 σ D t (.sl 1 ((i : Int) - 0).toNat fun a j => ((l.map fun n => [AV.int .i64 n]).getD (Int.toNat 0 + a) []).getD j .undef) (za (l.take i)) := by
  have e : (l.take i).length = ((i : Int) - 0).toNat := by rw [List.length_take]; omega
  unfold za encL
  rw [e]
  refine .slf _ _ _ _ _ fun a j ha hj => ?_
  obtain rfl : j = 0 := by omega
  have ha2 : a < l.length := by omega
  have ha3 : a < (l.take i).length := by omega
  rw [show Int.toNat 0 + a = a by simp, zo ha2, zo ha3, List.getElem_take]
  exact .int _ _ _
theorem zpc (g : G) (hf : fewG g = true) (e : Nd) (hs : za7 e ≤ 1000) :
    zk Tryz.prog zgj [.agg (encN e), .agg g.cells] (· = .bool (covB g e)) := by
  refine fn_x zoU rfl ?_
  unfold zkQ
  have hB := hBig
  have hO := Dm.R24_Order_ok g.toG (zom hf)
  rw [G.toG_cells, ← Dm.encInts_nats] at hO
  have hW := zoZ g.addr g.blocks (za7 e) e (Nat.le_refl _)
  have hBl := zph 1000 e hs (by omega)
  have hlen := zge zoD e
  have holen : (ordI g).length ≤ g.blocks.length := by
    unfold ordI
    rw [List.length_map]
    have := (Dm.orderL_nd (E := g.toG.E) (g.toG.E_ok)).len
    rw [Gr.E_len] at this
    simpa [G.toG] using this
  have hgb := (zd8 hf).1
  unfold covB
  obtain ⟨ad, gl⟩ := g
  simp only [G.cells] at hO hW ⊢
  unfold ordI at holen ⊢
  generalize (Dm.orderL (G.toG ⟨ad, gl⟩).E).map (fun (n : Nat) => (n : Int)) = o at hO holen ⊢
  generalize coll blkP e = l at hBl hlen ⊢
  (repeat first | simp (disch := try exact dis1) only [evD, Nat.reduceBEq, Nat.reduceAdd, Nat.reduceLeDiff, zam, zaq, zK] | with_reducible intro _ | ((with_reducible apply And.intro); omega))
  refine zag (zh hBl (flN rfl)) ?_
  (repeat first | simp (disch := try exact dis1) only [evD, Nat.reduceBEq, Nat.reduceAdd, Nat.reduceLeDiff] | with_reducible intro _ | ((with_reducible apply And.intro); omega))
  refine zag (zh hO rfl) ?_
  (repeat first | simp (disch := try exact dis1) only [evD, Nat.reduceBEq, Nat.reduceAdd, Nat.reduceLeDiff] | with_reducible intro _ | ((with_reducible apply And.intro); omega))
  refine zm (fun i : Nat => ([(2, encP 5 (encN e)), (3, encP 2 [.int .u32 ad, encL 2 Bl.cells gl]), (5, za l), (6, za o), (7, .int .i64 i)], [])) 0
    (fun i => i ≤ l.length ∧ ∀ k, (h : k < l.length) → k < i → l[k] ∈ o ∧ l[k] ∉ l.take k) (fun i => l.length - i) 0 ⟨Nat.zero_le _, fun k _ h => by omega⟩ (Ent.keep rfl fin5) ?_
  rintro i ⟨hi, hgo⟩ wf
  unfold zhC
  by_cases hl : i < l.length
  case neg =>
    rw [dT (show ∀ k, (h : k < l.length) → l[k] ∈ o ∧ l[k] ∉ l.take k from fun k h => hgo k h (by omega)), Bool.true_and]
    (repeat first | simp (disch := try exact dis1) only [evD, Nat.reduceBEq, Nat.reduceAdd, Nat.reduceLeDiff, dF, za] | with_reducible intro _ | ((with_reducible apply And.intro); omega))
    unfold zhR
    (repeat first | simp (disch := try exact dis1) only [evD, Nat.reduceBEq, Nat.reduceAdd, Nat.reduceLeDiff, za] | with_reducible intro _ | ((with_reducible apply And.intro); omega))
    by_cases hlo : l.length = o.length
    · (repeat first | simp (disch := try exact dis1) only [evD, Nat.reduceBEq, Nat.reduceAdd, Nat.reduceLeDiff, dT, za, zfT, tab, zam, zaq, zK, List.getD_cons_zero, List.getD_cons_succ] | with_reducible intro _ | ((with_reducible apply And.intro); omega))
      refine ze (zh hW (flN rfl)) ?_
      (repeat first | simp (disch := try exact dis1) only [evD, Nat.reduceBEq, Nat.reduceAdd, Nat.reduceLeDiff, dT, zdE] | with_reducible intro _ | ((with_reducible apply And.intro); omega))
      exact ⟨_, .bool _ _, rfl⟩
    · (repeat first | simp (disch := try exact dis1) only [evD, Nat.reduceBEq, Nat.reduceAdd, Nat.reduceLeDiff, dF, zdE] | with_reducible intro _ | ((with_reducible apply And.intro); omega))
      exact ⟨_, .bool _ _, rfl⟩
  have hstop : ¬ (l[i] ∈ o ∧ l[i] ∉ l.take i) → decide (∀ k, (h : k < l.length) → l[k] ∈ o ∧ l[k] ∉ l.take k) = false := fun h => dF fun h2 => h (h2 i hl)
  have hgl := zo (f := cI) (d := []) hl
  (repeat first | simp (disch := try exact dis1) only [evD, Nat.reduceBEq, Nat.reduceAdd, Nat.reduceLeDiff, dT, za, hgl] | with_reducible intro _ | ((with_reducible apply And.intro); omega))
  refine zag (zh (zff o l[i]) rfl) ?_
  rw [zpe]
  by_cases h1 : l[i] ∈ o
  case neg =>
    rw [hstop (fun h => h1 h.1), Bool.false_and, Bool.false_and, dF h1]
    (repeat first | simp (disch := try exact dis1) only [evD, Nat.reduceBEq, Nat.reduceAdd, Nat.reduceLeDiff, zdE] | with_reducible intro _ | ((with_reducible apply And.intro); omega))
    exact ⟨_, .bool _ _, rfl⟩
  rw [dT h1]
  (repeat first | simp (disch := try exact dis1) only [evD, Nat.reduceBEq, Nat.reduceAdd, Nat.reduceLeDiff, za, zmy, hgl] | with_reducible intro _ | ((with_reducible apply And.intro); omega))
  refine zag (z6 (D := noR) (zff (l.take i) l[i]) (.cons (zvU hi) (.cons (zay rfl) .nil)) (.inl rfl)) ?_
  rw [zpe]
  by_cases h2 : l[i] ∈ l.take i
  · rw [hstop (fun h => h.2 h2), Bool.false_and, Bool.false_and, dT h2]
    (repeat first | simp (disch := try exact dis1) only [evD, Nat.reduceBEq, Nat.reduceAdd, Nat.reduceLeDiff, zdE] | with_reducible intro _ | ((with_reducible apply And.intro); omega))
    exact ⟨_, .bool _ _, rfl⟩
  rw [dF h2]
  (repeat first | simp (disch := try exact dis1) only [evD, Nat.reduceBEq, Nat.reduceAdd, Nat.reduceLeDiff] | with_reducible intro _ | ((with_reducible apply And.intro); omega))
  refine ⟨i + 1, ⟨by omega, fun k hk hki => ?_⟩, by omega, Ent.keep rfl fin5⟩
  by_cases hke : k = i
  · subst hke; exact ⟨h1, h2⟩
  · exact hgo k hk (by omega)
def whP (gl : List Bl) : Nd → Bool
  | .mk f _ _ => !(decide (f.kind = 5) && !wOk gl f.block)
mutual
theorem zm3 (gl : List Bl) : ∀ n : Nd, (allN n).all (whP gl) = zjK gl n
  | .mk f c l => by
    rw [allN, List.all_cons, zlM gl l, zjK]
    show (!(decide (f.kind = 5) && !wOk gl f.block) && zdD gl l) = _
    by_cases h : f.kind = 5
    · cases hw : wOk gl f.block with
      | true => rw [if_neg (by simp)]; simp [h]
      | false => rw [if_pos ⟨h, rfl⟩]; simp [h]
    · rw [if_neg (fun hc => h hc.1)]; simp [h]
theorem zlM (gl : List Bl) : ∀ l : List Nd, (zdM l).all (whP gl) = zdD gl l
  | [] => by rw [zdM, zdD]; rfl
  | x :: l => by rw [zdM, List.all_append, zm3 gl x, zlM gl l, zdD]
end
theorem zrQ {g : G} (h : zie g = 0) : ∀ b ∈ g.blocks, 1 ≤ b.stmts.length := by
  intro b hb
  unfold zie at h
  split at h
  · rename_i h1
    rw [Bool.and_eq_true, List.all_eq_true] at h1
    have h2 := h1.2 b hb
    unfold zdm at h2
    cases hs : b.stmts with
    | nil => rw [hs] at h2; simp at h2
    | cons a l => simp
  · omega
theorem zn5 : ∀ (l m : List Int), l.Nodup → (∀ a ∈ l, a ∈ m) → m.length ≤ l.length → ∀ a ∈ m, a ∈ l
  | [], m, _, _, h, a, ha => by
    have : m = [] := List.eq_nil_of_length_eq_zero (by simpa using h)
    rw [this] at ha; cases ha
  | x :: l, m, hn, hs, h, a, ha => by
    rw [List.nodup_cons] at hn
    have hx := hs x (by simp)
    by_cases hax : a = x
    · rw [hax]; simp
    · refine List.mem_cons_of_mem _ (zn5 l (m.erase x) hn.2 (fun b hb => ?_) ?_ a ((List.mem_erase_of_ne hax).2 ha))
      · have hbx : b ≠ x := fun e => hn.1 (e ▸ hb)
        exact (List.mem_erase_of_ne hbx).2 (hs b (List.mem_cons_of_mem _ hb))
      · rw [List.length_erase_of_mem hx]
        simp only [List.length_cons] at h
        omega
theorem zrI {l : List Int} (h : ∀ a, l.count a ≤ 1) : l.Nodup := by
  induction l with
  | nil => exact List.nodup_nil
  | cons x l ih =>
    rw [List.nodup_cons]
    refine ⟨fun hx => ?_, ih fun a => ?_⟩
    · have := h x
      rw [List.count_cons_self] at this
      have := List.count_pos_iff.2 hx
      omega
    · have := h a
      rw [List.count_cons] at this
      omega
theorem zmE {l : List Int} (h : l.Nodup) {a : Int} (ha : a ∈ l) : l.count a = 1 := by
  induction l with
  | nil => cases ha
  | cons x l ih =>
    rw [List.nodup_cons] at h
    rw [List.count_cons]
    by_cases hx : x = a
    · subst hx
      rw [List.count_eq_zero.2 h.1]
      simp
    · have h2 : a ∈ l := by
        rcases List.mem_cons.1 ha with rfl | h2
        · exact absurd rfl hx
        · exact h2
      rw [ih h.2 h2]
      simp [hx]
theorem ziS {l : List Int} : (∀ k, (h : k < l.length) → l[k] ∉ l.take k) ↔ l.Nodup := by
  rw [List.nodup_iff_pairwise_ne, List.pairwise_iff_getElem]
  constructor
  · intro h i j hi hj hij e
    refine h j hj ?_
    rw [← e, List.mem_iff_getElem]
    exact ⟨i, by rw [List.length_take]; omega, by rw [List.getElem_take]⟩
  · intro h k hk hm
    obtain ⟨i, hi, he⟩ := List.mem_iff_getElem.1 hm
    rw [List.length_take] at hi
    rw [List.getElem_take] at he
    exact h i k (by omega) hk (by omega) he
theorem zua (g : G) (e : Nd) (h0 : zie g = 0) : covA (Dm.reachL g.toG.E) g.blocks (allN e) = covB g e := by
  have hE := g.toG.E_ok
  have hlen : g.toG.E.length = g.blocks.length := by rw [Gr.E_len]; simp [G.toG]
  have hin := Dm.inB_order hE
  have hnd := Dm.orderL_nd hE
  have hond : (ordI g).Nodup := by
    unfold ordI
    refine List.Pairwise.map _ (fun a b hab => ?_) hnd.nd
    intro e
    exact hab (by exact_mod_cast e)
  have hrs : ∀ k : Nat, k < g.blocks.length → (Dm.reachL g.toG.E).getD k false = decide ((k : Int) ∈ ordI g) := by
    intro k hk
    rw [← hin, hlen]
    unfold Dm.inB Dm.mapR
    rw [zo (by simpa using hk), List.getElem_range]
    unfold ordI
    refine decide_eq_decide.2 ⟨fun h => List.mem_map.2 ⟨k, h, rfl⟩, fun h => ?_⟩
    obtain ⟨k2, h2, h3⟩ := List.mem_map.1 h
    have : k2 = k := by exact_mod_cast h3
    rw [← this]; exact h2
  have hrl : (Dm.reachL g.toG.E).length = g.blocks.length := by
    unfold Dm.reachL
    rw [List.length_map, List.length_range, hlen]
  have holt : ∀ a ∈ ordI g, 0 ≤ a ∧ a < g.blocks.length := by
    intro a ha
    unfold ordI at ha
    obtain ⟨k, hk, rfl⟩ := List.mem_map.1 ha
    have := hnd.lt k hk
    omega
  generalize Dm.reachL g.toG.E = rs at hrs hrl
  have hfull := zrQ h0
  unfold covA covB
  rw [zp5, ← zm3]
  have hmem : ∀ b, b ∈ coll blkP e ↔ ∃ x ∈ allN e, b ∈ blkP x.f := by
    intro b
    rw [← zp5]
    unfold fm
    rw [List.mem_flatMap]
  have hpt : ∀ x : Nd, ctP rs g.blocks x = true ↔ (∀ b ∈ blkP x.f, b ∈ ordI g) ∧ whP g.blocks x = true := by
    intro x
    obtain ⟨⟨kd, bl, lb⟩, c, m⟩ := x
    show ctF rs g.blocks kd bl = true ↔ (∀ b ∈ (if kd = 2 ∨ kd = 5 then [bl] else []), b ∈ ordI g) ∧ (!(decide (kd = 5) && !wOk g.blocks bl)) = true
    unfold ctF
    by_cases h25 : kd = 2 ∨ kd = 5
    case neg =>
      rw [if_neg h25, if_neg h25, dF (fun h => h25 (.inr h))]
      simp
    rw [if_pos h25, if_pos h25]
    by_cases hr : 0 ≤ bl ∧ bl < g.blocks.length
    case neg =>
      rw [dF (show ¬ (0 ≤ bl ∧ bl < rs.length) by rw [hrl]; exact hr), Bool.false_and]
      constructor
      · intro h; cases h
      · rintro ⟨h, _⟩
        exact absurd (holt bl (h bl (by simp))) hr
    have hbt : bl.toNat < g.blocks.length := by omega
    rw [dT (show 0 ≤ bl ∧ bl < rs.length by rw [hrl]; exact hr), Bool.true_and, hrs _ hbt, show ((bl.toNat : Nat) : Int) = bl by omega]
    have hw : wOk g.blocks bl = decide (g.blocks[bl.toNat].stmts.length = 1) := by
      unfold wOk
      rw [if_neg (by omega), List.getElem?_eq_getElem hbt]
    rw [hw, zo hbt]
    have h1 := hfull _ (List.getElem_mem hbt)
    by_cases h5 : kd = 5
    · simp only [h5, decide_true, Bool.true_and, Bool.and_eq_true, decide_eq_true_eq, List.mem_singleton, forall_eq, Bool.not_not, Bool.not_eq_true', decide_eq_false_iff_not]
      constructor
      · rintro ⟨h2, h3⟩; exact ⟨h2, by omega⟩
      · rintro ⟨h2, h3⟩; exact ⟨h2, by omega⟩
    · simp [h5]
  rw [Bool.eq_iff_iff]
  simp only [Bool.and_eq_true, List.all_eq_true, decide_eq_true_eq, List.mem_range, Bool.or_eq_true, Bool.not_eq_true']
  rw [hrl]
  constructor
  · rintro ⟨h1, h2⟩
    have hsub : ∀ b ∈ coll blkP e, b ∈ ordI g := by
      intro b hb
      obtain ⟨x, hx, hxb⟩ := (hmem b).1 hb
      exact ((hpt x).1 (h1 x hx)).1 b hxb
    have hcnt : ∀ a ∈ ordI g, (coll blkP e).count a = 1 := by
      intro a ha
      have hr := holt a ha
      rcases h2 a.toNat (by omega) with h3 | h3
      · rw [hrs _ (by omega), show ((a.toNat : Nat) : Int) = a by omega] at h3
        exact absurd ha (of_decide_eq_false h3)
      · rw [show ((a.toNat : Nat) : Int) = a by omega] at h3
        omega
    have hnod : (coll blkP e).Nodup := by
      refine zrI fun a => ?_
      by_cases ha : a ∈ ordI g
      · rw [hcnt a ha]; omega
      · rw [List.count_eq_zero.2 (fun h => ha (hsub a h))]; omega
    refine ⟨⟨fun k hk => ⟨hsub _ (List.getElem_mem hk), ziS.2 hnod k hk⟩, ?_⟩, fun x hx => ((hpt x).1 (h1 x hx)).2⟩
    refine List.Perm.length_eq (List.perm_iff_count.2 fun a => ?_)
    by_cases ha : a ∈ ordI g
    · rw [hcnt a ha, zmE hond ha]
    · rw [List.count_eq_zero.2 (fun h => ha (hsub a h)), List.count_eq_zero.2 ha]
  · rintro ⟨⟨h1, h2⟩, h3⟩
    have hnod := ziS.1 fun k hk => (h1 k hk).2
    have hsub : ∀ b ∈ coll blkP e, b ∈ ordI g := by
      intro b hb
      obtain ⟨k, hk, rfl⟩ := List.mem_iff_getElem.1 hb
      exact (h1 k hk).1
    have hback := zn5 _ _ hnod hsub (by omega)
    refine ⟨fun x hx => (hpt x).2 ⟨fun b hb => hsub b ((hmem b).2 ⟨x, hx, hb⟩), h3 x hx⟩, fun k hk => ?_⟩
    rw [hrs k hk]
    by_cases hk2 : (k : Int) ∈ ordI g
    · right
      rw [zmE hnod (hback _ hk2)]
      rfl
    · left
      exact dF hk2
end Go.Ab
namespace Go.Ab
open Go.RowKit Go.Proofs Go.Sort Go.Shelf
theorem zwt {α : Type} [Inhabited α] {w : World} {b blk off : Nat} {enc : α → Value} {d : Array α} (h : FzOk w b) : FzOk (putRow enc w blk off d) b := by
  intro c e lo hi hh
  unfold putRow mapBlock at hh
  simp only [Array.getElem?_modify] at hh
  by_cases hb : blk = b
  · subst hb
    rw [if_pos rfl] at hh
    cases ho : w.heap[blk]? with
    | none => rw [ho] at hh; cases hh
    | some o =>
      rw [ho] at hh
      cases o with
      | cells c0 e0 f0 =>
        obtain ⟨lo0, hi0⟩ := f0
        simp only [Option.map_some, onCells, Option.some.injEq, Obj.cells.injEq, Prod.mk.injEq] at hh
        obtain ⟨rfl, rfl, rfl, rfl⟩ := hh
        rcases h c0 e0 _ _ ho with h1 | h1
        · exact .inl h1
        · exact .inr (by unfold putCells; simpa using h1)
      | _ => simp [onCells] at hh
  · rw [if_neg hb] at hh
    exact h c e lo hi hh
section
variable {w : World} {L : Nat → Prop} {ι : Inj} {H : AH} {nx : Nat}
theorem zu4 {r q g : Nat} {zs : List Int} (hr : H.get r q = some (.row 1 (zs.map fun n => [.int .i64 n]) g)) (hlen : zs.length ≤ 1000000) :
    zaf Tryz.prog zch [.own r q g 0 zs.length] H nx (fun v H' nx' => (v, H', nx') = (.tup [], H.set r q (.row 1 ((zho zs).map fun n => [.int .i64 n]) g), nx)) := by
  intro w L ι vs rel hv
  obtain ⟨mv, hvs, hmv⟩ : ∃ mv, vs = #[mv] ∧ VR w (Lt L ι H) ι mv (.own r q g 0 zs.length) := by
    rcases vs with ⟨l⟩
    cases hv with
    | cons h1 h2 => cases h2; exact ⟨_, rfl, h1⟩
  subst hvs
  have hsl : (zho zs).length = zs.length := (zda zs).length_eq
  cases hmv with
  | own _ _ _ _ _ _ a c l hl hmx hn hc ha =>
    obtain ⟨l', hl', ok⟩ := rel.row _ _ _ _ _ hr
    rw [hl] at hl'
    cases hl'
    have hsame : ∀ l0, ι r q g = some l0 → l0 = l := fun l0 h0 => by rw [hl] at h0; cases h0; rfl
    have hsz : l.sz = 1 := ok.hsz
    have nil : ∀ {M : Nat → Prop} {ι' : Inj} {w' : World}, VR w' M ι' (.tuple #[]) (.tup []) := .tup _ _ _ rfl (fun i v a h => by simp at h)
    rcases Nat.eq_zero_or_pos zs.length with h0 | hpos
    · obtain rfl : zs = [] := List.eq_nil_of_length_eq_zero h0
      refine (AnyM.slices_Sort_int_none zpv a c w).mono fun e w' ⟨he, hw⟩ => ?_
      subst hw
      have c1 : Chg w' ι H r q g l w' := ⟨rfl, rfl, rfl, Nat.le_refl _, fun _ _ _ => rfl, fun hpos => .inl ⟨1, _, g, l, hr, hl, hpos, rfl⟩, hsame, fun g2 l2 h2 => rel.gen r q _ _ _ hr g2 l2 h2⟩
      refine ⟨_, _, _, _, _, he, c1.step (.inl ⟨_, _, hr⟩) rel (rel.idx _ _ _ _ hl) (Nat.le_refl _) (.mk' ok.hsz (ok.plain hmx).len hmx (ok.plain hmx).there (ok.plain hmx).fz (fun i c h => by simp [zho] at h) (fun i c' j a h1 h2 => by simp [zho] at h1)), Nat.le_refl _, nil, rfl⟩
    · obtain rfl := ha (by omega)
      have hoff : l.off + 0 * l.sz = l.off := by omega
      rw [hoff]
      have hcap : 0 < l.cap * l.sz := by rw [hsz]; omega
      have hblk := ok.blk_lt hcap
      have hget : ∀ {ys : List Int} {j : Nat}, j < ys.length → (ys.toArray)[j]! = ys.getD j 0 := fun {ys j} h => by simp [h, List.getD]
      have hin : ∀ j, j < zs.length → w.cell? ⟨l.block, l.off + j, none⟩ = some (.int .i64 (zs.getD j 0)) ∧ InR .i64 (zs.getD j 0) := by
        intro j hj
        have e : zs.getD j 0 = zs[j] := by simp [List.getD, hj]
        obtain ⟨v, h1, _, h2⟩ := ok.holds hmx j [.int .i64 zs[j]] 0 (.int .i64 zs[j]) (by rw [List.getElem?_map, List.getElem?_eq_getElem hj]; rfl) rfl
        cases h2 with
        | int _ _ _ h3 =>
          rw [e]
          simp only [Nat.mul_one, Nat.add_zero] at h1
          exact ⟨h1, h3⟩
      have hH : Holds (Value.int .i64) w l.block l.off zs.toArray := fun j hj => by
        have hj' : j < zs.length := by simpa using hj
        rw [hget hj']
        exact ⟨(hin j hj').1, ((ok.plain hmx).there j (by have := (ok.plain hmx).len; simp only [List.length_map] at this; omega)).2⟩
      refine (AnyM.slices_Sort_int zpv l.block l.off c zs w hH hblk (by omega)).mono fun e w' ⟨he, n, os, hw⟩ => ?_
      rw [ziQ (List.Perm.refl zs)] at hw
      have hcell : ∀ j, j < zs.length → w'.cell? ⟨l.block, l.off + j, none⟩ = some (.int .i64 ((zho zs).getD j 0)) := fun j hj => by
        rw [hw, cell?_grow _ _ _ (by simpa using hblk), putRow_ahead, cell?_ahead, cell?_putRow _ _ _ _ zs.toArray _ hH (by simpa using hsl) j (by simpa [hsl] using hj), hget (by omega)]
      have hcell2 : ∀ a : Addr, a.block < w.heap.size → (a.block ≠ l.block ∨ a.off < l.off ∨ l.off + zs.length ≤ a.off) → w'.cell? a = w.cell? a := fun a ha hx => by
        rw [hw, cell?_grow _ _ _ (by simpa using ha), putRow_ahead, cell?_ahead, cell?_putRow_other _ _ _ _ _ _ (by simpa [hsl] using hx)]
      have hfrz : ∀ a : Addr, a.block < w.heap.size → w'.frozen? a = w.frozen? a := fun a ha => by
        rw [hw, frozen?_grow _ _ _ (by simpa using ha), putRow_ahead, frozen?_ahead, frozen?_putRow]
      have hheap : ∀ b, b < w.heap.size → b ≠ l.block → w'.heap[b]? = w.heap[b]? := fun b hb hne => by
        rw [hw, heap_grow_old _ _ (by simpa using hb)]
        simp only [putRow, mapBlock, heap_ahead, Array.getElem?_modify]
        rw [if_neg (Ne.symm hne)]
      have c1 : Chg w ι H r q g l w' := ⟨by rw [hw]; rfl, by rw [hw]; rfl, by rw [hw]; rfl, by rw [hw]; simp, fun b hb hn => hheap b hb (fun hbe => hn ⟨1, _, g, l, hr, hl, hcap, hbe.symm⟩), fun hpos => .inl ⟨1, _, g, l, hr, hl, hpos, rfl⟩, hsame, fun g2 l2 h2 => rel.gen r q _ _ _ hr g2 l2 h2⟩
      have hfz : FzOk w' l.block := by
        have h1 : FzOk (putRow (Value.int .i64) (Sort.ahead w n) l.block l.off (zho zs).toArray) l.block := zwt (((ok.plain hmx).fz (by rw [← hsz]; exact hcap)).of_heap rfl)
        rw [hw]
        exact h1.of_heap (heap_grow_old _ _ (by simpa using hblk))
      refine ⟨_, _, _, _, _, he, c1.step (.inl ⟨_, _, hr⟩) rel (rel.idx _ _ _ _ hl) (Nat.le_refl _) (.mk' ok.hsz (by have := (ok.plain hmx).len; simp only [List.length_map] at this ⊢; omega) hmx (fun k hk => ?_) (fun _ => hfz) (fun i c h => ?_) (fun i c' j a h1 h2 => ?_)), Nat.le_refl _, nil, rfl⟩
      · rw [hfrz _ hblk]
        refine ⟨?_, ((ok.plain hmx).there k hk).2⟩
        by_cases hk2 : k < zs.length
        · rw [hcell k hk2]; rfl
        · rw [hcell2 _ hblk (.inr (.inr (by simp only; omega)))]
          exact ((ok.plain hmx).there k hk).1
      · rw [List.getElem?_map] at h
        obtain ⟨z, _, rfl⟩ := Option.map_eq_some_iff.1 h
        rfl
      · rw [List.getElem?_map] at h1
        obtain ⟨z, hz, rfl⟩ := Option.map_eq_some_iff.1 h1
        match j with
        | 0 =>
          cases h2
          have hi : i < zs.length := by rw [← hsl]; exact (List.getElem?_eq_some_iff.1 hz).1
          refine ⟨.int .i64 z, ?_, rfl, .int _ _ _ ?_⟩
          · simp only [Nat.mul_one, Nat.add_zero]
            rw [hcell i hi, List.getD_eq_getElem?_getD, hz]
            rfl
          · obtain ⟨k, hk, hke⟩ := List.mem_iff_getElem.1 ((zda zs).mem_iff.1 (List.mem_of_getElem? hz))
            have := (hin k hk).2
            simp only [List.getD, List.getElem?_eq_getElem hk, Option.getD_some] at this
            rw [hke] at this
            exact this
        | j + 1 => cases h2
end
end Go.Ab
namespace Go.Ab
open Go.RowKit Go.Proofs Go.Ab.Dm
def zeS (l : List Int) (j : Nat) : Bool := j == 0 || (l.getD j 0 != l.getD (j - 1) 0)
def zaP (l : List Int) (n : Nat) : List Int := (filR (zeS l) n).map (fun j => l.getD j 0)
def zbu (l : List Int) : List Int := zaP l l.length
theorem ztY {l : List Int} {n : Nat} : (zaP l n).length ≤ n := by
  unfold zaP
  rw [List.length_map]
  exact zuE
theorem zof {l : List Int} {j : Nat} (hj : j < l.length) (h : zeS l j = true) : zaP l (j + 1) = zaP l j ++ [l[j]] := by
  unfold zaP
  rw [zs6 h, List.map_append]
  simp [List.getD_eq_getElem?_getD, hj]
theorem zq1 {l : List Int} {j : Nat} (h : zeS l j = false) : zaP l (j + 1) = zaP l j := by
  unfold zaP
  rw [zoR h]
theorem zld {l : List Int} {n : Nat} (hn : n ≤ l.length) (h : ∀ j, j < n → zeS l j = true) : zaP l n = l.take n := by
  induction n with
  | zero => rfl
  | succ n ih =>
    rw [zof (by omega) (h n (by omega)), ih (by omega) (fun j hj => h j (by omega)), List.take_add_one, List.getElem?_eq_getElem (by omega)]
    rfl
theorem zgG {l : List Int} {j : Nat} (h1 : 1 ≤ j) (hj : j < l.length) : zeS l j = (l[j] != l[j - 1]) := by
  unfold zeS
  rw [List.getD_eq_getElem?_getD, List.getD_eq_getElem?_getD, List.getElem?_eq_getElem hj, List.getElem?_eq_getElem (show j - 1 < l.length by omega)]
  simp
  omega
def curI (K l : List Int) : List Int := K ++ l.drop K.length
theorem zs4 {K l : List Int} (h : K.length ≤ l.length) : (curI K l).length = l.length := by simp [curI]; omega
theorem zxI {K l : List Int} {j : Nat} (h : K.length ≤ j) (hj : j < l.length) : (curI K l)[j]? = some l[j] := by
  unfold curI
  rw [List.getElem?_append_right h, List.getElem?_drop, show K.length + (j - K.length) = j by omega, List.getElem?_eq_getElem hj]
theorem zqo {K l : List Int} {j : Nat} (h : K.length ≤ j) (hj : j < l.length) : ((curI K l).map cI).getD j [] = [.int .i64 l[j]] := by
  simp [List.getD_eq_getElem?_getD, zxI h hj]
theorem zxX {K l : List Int} {v : Int} (h : K.length < l.length) : (curI K l).set K.length v = curI (K ++ [v]) l := by
  unfold curI
  rw [List.set_append_right _ _ (Nat.le_refl _), Nat.sub_self, List.drop_eq_getElem_cons h, List.set_cons_zero]
  simp
theorem zwI {K l : List Int} {v : Int} (h : K.length < l.length) : ((curI K l).map cI).set K.length [.int .i64 v] = (curI (K ++ [v]) l).map cI := by
  rw [← zxX h, List.map_set]
theorem zvF {l : List Int} {n : Nat} (h : n ≤ l.length) : curI (l.take n) l = l := by
  unfold curI
  rw [List.length_take, Nat.min_eq_left h, List.take_append_drop]
theorem zko (l : List Int) (g : Nat) (hl : l.length ≤ 100000000000) :
    zaf Tryz.prog zS [.own 0 0 g 0 l.length] [(0, .row 1 (l.map cI) g)] 1
      (fun v H nx => ∃ m, v = .own 0 0 g 0 (zbu l).length ∧ H = [(0, .row 1 ((zbu l ++ m).map cI) g)] ∧ nx = 1) := by
  refine ze4 (fn_x zgp rfl ?_)
  unfold zcX
  have hB := hBig
  have fin : ∀ K m, (∀ j, j < l.length → zeS l j = true) → K = (4, AV.undef) → m = 0 → zbu l = l := fun K m h _ _ => by unfold zbu; rw [zld (Nat.le_refl _) h, List.take_length]
  (repeat first | simp (disch := try exact dis1) only [evD, Nat.reduceBEq, Nat.reduceAdd, Nat.reduceLeDiff] | with_reducible intro _ | ((with_reducible apply And.intro); omega))
  (refine zp (fun h => ?_) (fun h => ?_)) <;> (try simp only [dcd] at h)
  · (repeat first | simp (disch := try exact dis1) only [evD, Nat.reduceBEq, Nat.reduceAdd, Nat.reduceLeDiff, zaR] | with_reducible intro _ | ((with_reducible apply And.intro); omega))
    have hall : ∀ j, j < l.length → zeS l j = true := fun j hj => by
      have : j = 0 := by omega
      subst this
      rfl
    have e := fin (4, .undef) 0 hall rfl rfl
    refine ⟨.own 0 0 g 0 l.length, [(0, .row 1 ((l ++ []).map cI) g)], 1, ?_, [], by rw [e], by rw [e], rfl⟩
    rw [List.append_nil]
    exact (Ent.tabB [(0, 0, 0)] [] rfl rfl rfl (by (try simp only [evWB, Nat.reduceBEq, Nat.reduceAdd, Nat.reduceSub, Nat.reduceLeDiff, Nat.reduceLT, implies_true]) <;> exact fin2) (by (try simp only [evWB, Nat.reduceBEq, Nat.reduceAdd, Nat.reduceSub, Nat.reduceLeDiff, Nat.reduceLT, implies_true]) <;> exact fin2))
  (repeat first | simp (disch := try exact dis1) only [evD, Nat.reduceBEq, Nat.reduceAdd, Nat.reduceLeDiff] | with_reducible intro _ | ((with_reducible apply And.intro); omega))
  refine zm (fun i : Nat => ([(0, .own 0 0 g 0 l.length), (3, .int .i64 i)], [(0, .row 1 (l.map cI) g)])) 1 (fun i => 1 ≤ i ∧ i ≤ l.length ∧ ∀ j, j < i → zeS l j = true) (fun i => l.length - i) 1 ⟨by omega, by omega, fun j hj => (by rw [show j = 0 by omega]; rfl)⟩ (Ent.tabB [(0, 0, 0)] [] rfl rfl rfl (by (try simp only [evWB, Nat.reduceBEq, Nat.reduceAdd, Nat.reduceSub, Nat.reduceLeDiff, Nat.reduceLT, implies_true]) <;> exact fin2) (by (try simp only [evWB, Nat.reduceBEq, Nat.reduceAdd, Nat.reduceSub, Nat.reduceLeDiff, Nat.reduceLT, implies_true]) <;> exact fin2)) ?_
  intro i ⟨hi1, hi2, hall⟩ wf
  unfold zb5
  (repeat first | simp (disch := try exact dis1) only [evD, Nat.reduceBEq, Nat.reduceAdd, Nat.reduceLeDiff] | with_reducible intro _ | ((with_reducible apply And.intro); omega))
  (refine zp (fun h2 => ?_) (fun h2 => ?_)) <;> (try simp only [dcd] at h2)
  · have hi' : i < l.length := by omega
    have hi1' : i - 1 < l.length := by omega
    have ei : ((i : Int) - 1).toNat = i - 1 := by omega
    (repeat first | simp (disch := try exact dis1) only [evD, Nat.reduceBEq, Nat.reduceAdd, Nat.reduceLeDiff, zo hi', ei, zo hi1'] | with_reducible intro _ | ((with_reducible apply And.intro); omega))
    (refine zp (fun h3 => ?_) (fun h3 => ?_)) <;> (try simp only [dcd] at h3)
    · have hne : zeS l i = false := by rw [zgG hi1 hi']; simp; omega
      have hk0 : zaP l i = l.take i := zld (by omega) hall
      have hk1 : zaP l (i + 1) = l.take i := by rw [zq1 hne, hk0]
      have hk1l : (zaP l (i + 1)).length = i := by rw [hk1, List.length_take]; omega
      have hstart : curI (zaP l (i + 1)) l = l := by rw [hk1, zvF (by omega)]
      have esl : ((l.length : Int) - i).toNat = l.length - i := by omega
      (repeat first | simp (disch := try exact dis1) only [evD, Nat.reduceBEq, Nat.reduceAdd, Nat.reduceLeDiff, esl] | with_reducible intro _ | ((with_reducible apply And.intro); omega))
      refine zm (fun a : Nat => ([(0, .own 0 0 g 0 l.length), (3, .int .i64 (zaP l (i + a)).length), (4, .own 0 0 g i (l.length - i)), (5, .int .i64 a)], [(0, .row 1 ((curI (zaP l (i + a)) l).map cI) g)])) 1
        (fun a => 1 ≤ a ∧ i + a ≤ l.length ∧ (zaP l (i + a)).length < i + a) (fun a => l.length - (i + a)) 1 ⟨by omega, by omega, by omega⟩ (Ent.tabB [(0, 0, 0)] [] rfl rfl rfl (by (try simp only [evWB, Nat.reduceBEq, Nat.reduceAdd, Nat.reduceSub, Nat.reduceLeDiff, Nat.reduceLT, implies_true, hstart, hk1l]) <;> exact fin2) (by (try simp only [evWB, Nat.reduceBEq, Nat.reduceAdd, Nat.reduceSub, Nat.reduceLeDiff, Nat.reduceLT, implies_true, hstart, hk1l]) <;> exact fin2)) ?_
      intro a ⟨ha1, ha2, ha3⟩ wf
      unfold zb7
      (repeat first | simp (disch := try exact dis1) only [evD, Nat.reduceBEq, Nat.reduceAdd, Nat.reduceLeDiff] | with_reducible intro _ | ((with_reducible apply And.intro); omega))
      (refine zp (fun h4 => ?_) (fun h4 => ?_)) <;> (try simp only [dcd] at h4)
      · have ha' : i + a < l.length := by omega
        have ha1' : i + a - 1 < l.length := by omega
        have e1 : i + ((a : Int) - 1).toNat = i + a - 1 := by omega
        have g1 := zqo (K := zaP l (i + a)) (l := l) (by omega) ha'
        have g2 := zqo (K := zaP l (i + a)) (l := l) (by omega) ha1'
        have hcl := zs4 (K := zaP l (i + a)) (l := l) (by omega)
        (repeat first | simp (disch := try exact dis1) only [evD, Nat.reduceBEq, Nat.reduceAdd, Nat.reduceLeDiff, e1, g1, g2] | with_reducible intro _ | ((with_reducible apply And.intro); omega))
        (refine zp (fun h5 => ?_) (fun h5 => ?_)) <;> (try simp only [dcd] at h5)
        · have hp : zeS l (i + a) = true := by rw [zgG (by omega) ha']; simp; omega
          have hy := zof ha' hp
          have hst := zwI (K := zaP l (i + a)) (l := l) (v := l[i + a]) (by omega)
          rw [← hy] at hst
          have hyl : (zaP l (i + a + 1)).length = (zaP l (i + a)).length + 1 := by rw [hy]; simp
          (repeat first | simp (disch := try exact dis1) only [evD, Nat.reduceBEq, Nat.reduceAdd, Nat.reduceLeDiff, e1, g1, g2, hst] | with_reducible intro _ | ((with_reducible apply And.intro); omega))
          exact ⟨a + 1, ⟨by omega, by omega, by rw [show i + (a + 1) = i + a + 1 by omega, hyl]; omega⟩, by omega, (Ent.tabB [(0, 0, 0)] [] rfl rfl rfl (by (try simp only [evWB, Nat.reduceBEq, Nat.reduceAdd, Nat.reduceSub, Nat.reduceLeDiff, Nat.reduceLT, implies_true, show i + (a + 1) = i + a + 1 by omega, hyl]) <;> exact fin2) (by (try simp only [evWB, Nat.reduceBEq, Nat.reduceAdd, Nat.reduceSub, Nat.reduceLeDiff, Nat.reduceLT, implies_true, show i + (a + 1) = i + a + 1 by omega, hyl]) <;> exact fin2))⟩
        · have hp : zeS l (i + a) = false := by rw [zgG (by omega) ha']; simp; omega
          have hy := zq1 hp
          (repeat first | simp (disch := try exact dis1) only [evD, Nat.reduceBEq, Nat.reduceAdd, Nat.reduceLeDiff] | with_reducible intro _ | ((with_reducible apply And.intro); omega))
          exact ⟨a + 1, ⟨by omega, by omega, by rw [show i + (a + 1) = i + a + 1 by omega, hy]; omega⟩, by omega, (Ent.tabB [(0, 0, 0)] [] rfl rfl rfl (by (try simp only [evWB, Nat.reduceBEq, Nat.reduceAdd, Nat.reduceSub, Nat.reduceLeDiff, Nat.reduceLT, implies_true, show i + (a + 1) = i + a + 1 by omega, hy]) <;> exact fin2) (by (try simp only [evWB, Nat.reduceBEq, Nat.reduceAdd, Nat.reduceSub, Nat.reduceLeDiff, Nat.reduceLT, implies_true, show i + (a + 1) = i + a + 1 by omega, hy]) <;> exact fin2))⟩
      · have hia : i + a = l.length := by omega
        rw [hia] at ha3 ⊢
        have hz : ((l.length : Int) - (zaP l l.length).length).toNat = l.length - (zaP l l.length).length := by omega
        have hcl := zs4 (K := zaP l l.length) (l := l) (by omega)
        have hclr : ((curI (zaP l l.length) l).map cI).take (zaP l l.length).length ++ List.replicate (l.length - (zaP l l.length).length) [AV.int .i64 0] ++ ((curI (zaP l l.length) l).map cI).drop ((zaP l l.length).length + (l.length - (zaP l l.length).length)) = (zaP l l.length ++ List.replicate (l.length - (zaP l l.length).length) 0).map cI := by
          rw [List.drop_of_length_le (by rw [List.length_map, hcl]; omega), List.append_nil, ← List.map_take, List.map_append, List.map_replicate]
          congr 2
          unfold curI
          rw [List.take_append_of_le_length (Nat.le_refl _), List.take_length]
        unfold zca
        (repeat first | simp (disch := try exact dis1) only [evD, Nat.reduceBEq, Nat.reduceAdd, Nat.reduceLeDiff, zaR, hz, hclr] | with_reducible intro _ | ((with_reducible apply And.intro); omega))
        refine ⟨.own 0 0 g 0 (zbu l).length, [(0, .row 1 ((zbu l ++ List.replicate (l.length - (zaP l l.length).length) 0).map cI) g)], 1, ?_, _, rfl, rfl, rfl⟩
        exact (Ent.tabB [(0, 0, 0)] [] rfl rfl rfl (by (try simp only [evWB, Nat.reduceBEq, Nat.reduceAdd, Nat.reduceSub, Nat.reduceLeDiff, Nat.reduceLT, implies_true, zbu]) <;> exact fin2) (by (try simp only [evWB, Nat.reduceBEq, Nat.reduceAdd, Nat.reduceSub, Nat.reduceLeDiff, Nat.reduceLT, implies_true, zbu]) <;> exact fin2))
    · have hne : zeS l i = true := by rw [zgG hi1 hi']; simp; omega
      unfold zb9
      (repeat first | simp (disch := try exact dis1) only [evD, Nat.reduceBEq, Nat.reduceAdd, Nat.reduceLeDiff] | with_reducible intro _ | ((with_reducible apply And.intro); omega))
      refine ⟨i + 1, ⟨by omega, by omega, fun j hj => ?_⟩, by omega, (Ent.tabB [(0, 0, 0)] [] rfl rfl rfl (by (try simp only [evWB, Nat.reduceBEq, Nat.reduceAdd, Nat.reduceSub, Nat.reduceLeDiff, Nat.reduceLT, implies_true]) <;> exact fin2) (by (try simp only [evWB, Nat.reduceBEq, Nat.reduceAdd, Nat.reduceSub, Nat.reduceLeDiff, Nat.reduceLT, implies_true]) <;> exact fin2))⟩
      by_cases hji : j = i
      · subst hji; exact hne
      · exact hall j (by omega)
  · obtain rfl : i = l.length := by omega
    unfold zb4
    have e := fin (4, .undef) 0 hall rfl rfl
    (repeat first | simp (disch := try exact dis1) only [evD, Nat.reduceBEq, Nat.reduceAdd, Nat.reduceLeDiff, zaR] | with_reducible intro _ | ((with_reducible apply And.intro); omega))
    refine ⟨.own 0 0 g 0 l.length, [(0, .row 1 ((l ++ []).map cI) g)], 1, ?_, [], by rw [e], by rw [e], rfl⟩
    rw [List.append_nil]
    exact (Ent.tabB [(0, 0, 0)] [] rfl rfl rfl (by (try simp only [evWB, Nat.reduceBEq, Nat.reduceAdd, Nat.reduceSub, Nat.reduceLeDiff, Nat.reduceLT, implies_true]) <;> exact fin2) (by (try simp only [evWB, Nat.reduceBEq, Nat.reduceAdd, Nat.reduceSub, Nat.reduceLeDiff, Nat.reduceLT, implies_true]) <;> exact fin2))
theorem zws {p : Nat → Bool} : ∀ {n j : Nat}, j < n → p j = false → (filR p n).length < n
  | n + 1, j, hj, hp => by
    by_cases h : j = n
    · subst h
      rw [zoR hp]
      have := zuE (p := p) (n := j)
      omega
    · have ih := zws (n := n) (by omega) hp
      cases hn : p n with
      | true => rw [zs6 hn, List.length_append, List.length_singleton]; omega
      | false => rw [zoR hn]; omega
theorem znM {l : List Int} (hs : l.Pairwise (· ≤ ·)) : (zbu l).length < l.length ↔ ¬ l.Nodup := by
  constructor
  · intro h hn
    have : zbu l = l := by
      unfold zbu
      rw [zld (Nat.le_refl _) (fun j hj => ?_), List.take_length]
      by_cases h0 : j = 0
      · subst h0; rfl
      · rw [zgG (by omega) hj]
        have := List.nodup_iff_pairwise_ne.1 hn
        rw [List.pairwise_iff_getElem] at this
        have := this (j - 1) j (by omega) hj (by omega)
        simp only [bne_iff_ne, ne_eq]
        exact fun e => this e.symm
    rw [this] at h
    omega
  · intro hn
    unfold zbu zaP
    rw [List.length_map]
    have : ∃ j, j < l.length ∧ zeS l j = false := by
      refine Classical.byContradiction fun hc => hn ?_
      have hall : ∀ j, j < l.length → zeS l j = true := fun j hj => by
        cases hk : zeS l j with
        | true => rfl
        | false => exact absurd ⟨j, hj, hk⟩ hc
      rw [List.nodup_iff_pairwise_ne, List.pairwise_iff_getElem]
      intro i j hi hj hij e
      have h1 := hall (i + 1) (by omega)
      rw [zgG (by omega) (by omega)] at h1
      simp only [Nat.add_sub_cancel, bne_iff_ne, ne_eq] at h1
      rw [List.pairwise_iff_getElem] at hs
      have h2 := hs i (i + 1) hi (by omega) (by omega)
      rcases Nat.lt_or_ge (i + 1) j with h3 | h3
      · have := hs (i + 1) j (by omega) hj h3
        omega
      · obtain rfl : j = i + 1 := by omega
        exact h1 e.symm
    obtain ⟨j, hj, hp⟩ := this
    exact zws hj hp
theorem zni (l : List Int) : decide ((zbu (zho l)).length < (zho l).length) = !decide l.Nodup := by
  have h := znM (ziM l)
  have hp := (zda l).nodup_iff
  by_cases hn : l.Nodup
  · rw [decide_eq_true hn, decide_eq_false (fun hc => h.1 hc (hp.2 hn))]; rfl
  · rw [decide_eq_false hn, decide_eq_true (h.2 (fun hc => hn (hp.1 hc)))]; rfl
end Go.Ab
namespace Go.Ab
open Go.RowKit Go.Proofs
theorem zoa (l : List Int) (g : Nat) (hl : l.length ≤ 100000000) : zaf Tryz.prog zB [.own 0 0 g 0 l.length] [(0, .row 1 (l.map cI) g)] 1
    (fun v H nx => v = .own 1 0 0 0 l.length ∧ H = [(0, .row 1 (l.map cI) g), (1, .row 1 (l.map cI) 0)] ∧ nx = 2) := by
  refine ze4 (fn_x zbP rfl ?_)
  unfold za9
  have hB := hBig
  by_cases h0 : l.length = 0
  · obtain rfl : l = [] := List.eq_nil_of_length_eq_zero h0
    have e1 : nilB false (.own 0 0 g 0 0) = some none := rfl
    (repeat first | simp (disch := try exact dis1) only [evD, Nat.reduceBEq, Nat.reduceAdd, Nat.reduceLeDiff, e1] | with_reducible intro _ | ((with_reducible apply And.intro); omega))
    rename_i b
    cases b
    · (repeat first | simp (disch := try exact dis1) only [evD, Nat.reduceBEq, Nat.reduceAdd, Nat.reduceLeDiff, zE] | with_reducible intro _ | ((with_reducible apply And.intro); omega))
      exact ⟨.own 1 0 0 0 0, [(0, .row 1 [] g), (1, .row 1 [] 0)], 2, (Ent.tabB [(0, 0, 0), (1, 2, 1)] [] rfl rfl rfl (by (try simp only [evWB, Nat.reduceBEq, Nat.reduceAdd, Nat.reduceSub, Nat.reduceLeDiff, Nat.reduceLT, implies_true]) <;> exact fin2) (by (try simp only [evWB, Nat.reduceBEq, Nat.reduceAdd, Nat.reduceSub, Nat.reduceLeDiff, Nat.reduceLT, implies_true]) <;> exact fin2)), rfl, rfl, rfl⟩
    · (repeat first | simp (disch := try exact dis1) only [evD, Nat.reduceBEq, Nat.reduceAdd, Nat.reduceLeDiff, zE] | with_reducible intro _ | ((with_reducible apply And.intro); omega))
      exact ⟨.own 1 0 0 0 0, [(0, .row 1 [] g), (1, .row 1 [] 0)], 2, (Ent.tabB [(0, 0, 0), (1, 2, 0)] [] rfl rfl rfl (by (try simp only [evWB, Nat.reduceBEq, Nat.reduceAdd, Nat.reduceSub, Nat.reduceLeDiff, Nat.reduceLT, implies_true]) <;> exact fin2) (by (try simp only [evWB, Nat.reduceBEq, Nat.reduceAdd, Nat.reduceSub, Nat.reduceLeDiff, Nat.reduceLT, implies_true]) <;> exact fin2)), rfl, rfl, rfl⟩
  · have e1 : nilB false (.own 0 0 g 0 l.length) = some (some false) := by unfold nilB; simp only [zdU h0]; rfl
    (repeat first | simp (disch := try exact dis1) only [evD, Nat.reduceBEq, Nat.reduceAdd, Nat.reduceLeDiff, e1, zE] | with_reducible intro _ | ((with_reducible apply And.intro); omega))
    exact ⟨.own 1 0 0 0 l.length, [(0, .row 1 (l.map cI) g), (1, .row 1 (l.map cI) 0)], 2, (Ent.tabB [(0, 0, 0), (1, 2, 1)] [] rfl rfl rfl (by (try simp only [evWB, Nat.reduceBEq, Nat.reduceAdd, Nat.reduceSub, Nat.reduceLeDiff, Nat.reduceLT, implies_true]) <;> exact fin2) (by (try simp only [evWB, Nat.reduceBEq, Nat.reduceAdd, Nat.reduceSub, Nat.reduceLeDiff, Nat.reduceLT, implies_true]) <;> exact fin2)), rfl, rfl, rfl⟩
theorem zwA {H : AH} {f rb r g gb n : Nat} {l : List Int} (hb : H.get rb 0 = some (.row 1 [[.own r 0 g 0 n]] gb)) (hr : H.get r 0 = some (.row 1 (l.map cI) g)) (hn : n = l.length) (hl : l.length ≤ big) :
    Vw H [] nos allR false (.fn (.func f) [.ptr rb 0 gb 0 0]) (.fn (.func f) [encP 1 [za l]]) := by
  subst hn
  refine .fn _ _ _ _ rfl fun i a b h1 h2 => ?_
  match i with
  | 0 =>
    cases h1; cases h2
    refine .frzp _ rb 0 gb 0 0 1 1 [[.own r 0 g 0 l.length]] _ trivial hb (by simp) (by omega) fun j hj => ?_
    obtain rfl : j = 0 := by omega
    exact zbj (l := l) trivial hr hl
  | i + 1 => cases h1
def zxn (labs : List Int) : Nd → Bool
  | .mk f _ _ => decide (f.kind = 9) && !hasI labs f.label
theorem zqD (l : List Nd) (labs : List Int) : PredN (.fn (.func zbN) [encP 1 [za labs]]) l (zxn labs) := by
  refine ⟨_, _, rfl, by kernel_rfl, rfl, fun s hs => ?_⟩
  refine fn_x zi8 rfl ?_
  unfold zeT
  obtain ⟨⟨kd, bl, lb⟩, c, m⟩ := s
  have hg : zxn labs (.mk ⟨kd, bl, lb⟩ c m) = (decide (kd = 9) && !hasI labs lb) := rfl
  rw [hg, zbs]
  simp only
  by_cases h9 : kd = 9
  · rw [dT h9, Bool.true_and]
    (repeat first | simp (disch := try exact dis1) only [evD, Nat.reduceBEq, Nat.reduceAdd, Nat.reduceLeDiff, dT, fldP, encP] | with_reducible intro _ | ((with_reducible apply And.intro); omega))
    refine ze (zh (zh2 labs lb) rfl) ?_
    (repeat first | simp (disch := try exact dis1) only [evD, Nat.reduceBEq, Nat.reduceAdd, Nat.reduceLeDiff, zcI] | with_reducible intro _ | ((with_reducible apply And.intro); omega))
    exact ⟨_, .bool _ _, rfl⟩
  · rw [dF h9, Bool.false_and]
    (repeat first | simp (disch := try exact dis1) only [evD, Nat.reduceBEq, Nat.reduceAdd, Nat.reduceLeDiff, dF, fldP, encP, zcI] | with_reducible intro _ | ((with_reducible apply And.intro); omega))
    exact ⟨_, .bool _ _, rfl⟩
def zsZ (g : G) (e : Nd) : Int :=
  if zie g ≠ 0 then zie g else if zex e = false then 2 else if covB g e = false then 18 else if zgc e false = true then 21 else if (zdu e).any (fun t => !hasI (coll labP e) t) = true then 9 else if (coll labP e).Nodup then 0 else 8
mutual
theorem zj1 (labs : List Int) : ∀ e : Nd, zex e = true → (allN e).any (zxn labs) = (zdu e).any (fun t => !hasI labs t)
  | .mk f c l, h => by
    rw [zex, Bool.and_eq_true] at h
    have ih := zjx labs l h.1
    rw [allN, List.any_cons, ih, zdu]
    show (decide (f.kind = 9) && !hasI labs f.label || _) = _
    by_cases h9 : f.kind = 9
    · have h2 := h.2
      unfold z7 at h2
      rw [Bool.and_eq_true, decide_eq_true_eq] at h2
      have h3 := h2.1
      unfold zi at h3
      have hl : l = [] := List.eq_nil_of_length_eq_zero (by omega)
      subst hl
      rw [if_pos h9, dT h9, zbE]
      simp
    · rw [if_neg h9, dF h9]
      simp
theorem zjx (labs : List Int) : ∀ l : List Nd, zdy l = true → (zdM l).any (zxn labs) = (zbE l).any (fun t => !hasI labs t)
  | [], _ => by rw [zdM, zbE]; rfl
  | x :: l, h => by
    rw [zdy, Bool.and_eq_true] at h
    rw [zdM, List.any_append, zj1 labs x h.1, zjx labs l h.2, zbE, List.any_append]
end
theorem zkD (g : G) (hf : fewG g = true) (e : Nd) (hs : za7 e ≤ 1000) : zk Tryz.prog zbc [.agg (encN e), .agg g.cells] (· = .int .i64 (zsZ g e)) := by
  refine fn_x zj2 rfl ?_
  unfold zf5
  have hB := hBig
  have hG := zl6 g (zqk hf) (zt6 hf)
  have hA := zhE e hs
  have hal : (allN e).length ≤ 1000 := by rw [zms]; exact hs
  have hF := zbM (allN e) _ _ (zlq (allN e))
  have hC := zjI g hf (allN e) hal (by rw [zp5]; exact Nat.le_trans (zge zoD e) hs)
  have hLp := zjg (za7 e) e false (Nat.le_refl _)
  have hLb := zjb e hs
  have hlaw := zua g e
  have hgl := fun labs => zj1 labs e
  have hany : ((allN e).any fun x => !zk7 x) = !zex e := by
    rw [← znz, Bool.eq_iff_iff]
    simp
  rw [hany] at hF
  unfold zsZ
  have hll : (coll labP e).length ≤ 1000 := Nat.le_trans (zge zmp e) hs
  obtain ⟨ad, gl⟩ := g
  simp only [G.cells] at hG hC ⊢
  (repeat first | simp (disch := try exact dis1) only [evD, Nat.reduceBEq, Nat.reduceAdd, Nat.reduceLeDiff, fldP, zfT, tab, zam, zaq, List.getD_cons_zero, List.getD_cons_succ] | with_reducible intro _ | ((with_reducible apply And.intro); omega))
  refine ze (zh hG rfl) ?_
  by_cases h0 : zie ⟨ad, gl⟩ = 0
  case neg =>
    rw [if_pos h0]
    (repeat first | simp (disch := try exact dis1) only [evD, Nat.reduceBEq, Nat.reduceAdd, Nat.reduceLeDiff, dT, zan] | with_reducible intro _ | ((with_reducible apply And.intro); omega))
    exact ⟨_, .int _ _ _, rfl⟩
  have hlaw2 := hlaw h0
  simp only at hlaw2
  rw [hlaw2] at hC
  rw [if_neg (fun h => h h0), h0]
  (repeat first | simp (disch := try exact dis1) only [evD, Nat.reduceBEq, Nat.reduceAdd, Nat.reduceLeDiff, dF, zam, zaq, zK, zfT, tab, List.getD_cons_zero, List.getD_cons_succ] | with_reducible intro _ | ((with_reducible apply And.intro); omega))
  refine ze (zh hA (flN rfl)) ?_
  (repeat first | simp (disch := try exact dis1) only [evD, Nat.reduceBEq, Nat.reduceAdd, Nat.reduceLeDiff] | with_reducible intro _ | ((with_reducible apply And.intro); omega))
  refine ze (z6 (D := noR) hF (.cons (zay rfl) (.cons (zsU (zlq (allN e))) .nil)) (.inl rfl)) ?_
  cases hfm : zex e with
  | false =>
    (repeat first | simp (disch := try exact dis1) only [evD, Nat.reduceBEq, Nat.reduceAdd, Nat.reduceLeDiff, zan] | with_reducible intro _ | ((with_reducible apply And.intro); omega))
    exact ⟨_, .int _ _ _, rfl⟩
  | true =>
  rw [if_neg (by simp)]
  (repeat first | simp (disch := try exact dis1) only [evD, Nat.reduceBEq, Nat.reduceAdd, Nat.reduceLeDiff, zfT, tab, List.getD_cons_zero, List.getD_cons_succ] | with_reducible intro _ | ((with_reducible apply And.intro); omega))
  refine ze (zh hC rfl) ?_
  cases hcv : covB ⟨ad, gl⟩ e with
  | false =>
    (repeat first | simp (disch := try exact dis1) only [evD, Nat.reduceBEq, Nat.reduceAdd, Nat.reduceLeDiff, zan] | with_reducible intro _ | ((with_reducible apply And.intro); omega))
    exact ⟨_, .int _ _ _, rfl⟩
  | true =>
  rw [if_neg (by simp)]
  (repeat first | simp (disch := try exact dis1) only [evD, Nat.reduceBEq, Nat.reduceAdd, Nat.reduceLeDiff, zfT, tab, List.getD_cons_zero, List.getD_cons_succ, zK] | with_reducible intro _ | ((with_reducible apply And.intro); omega))
  refine ze (zh hLp flNB) ?_
  cases hst : zgc e false with
  | true =>
    (repeat first | simp (disch := try exact dis1) only [evD, Nat.reduceBEq, Nat.reduceAdd, Nat.reduceLeDiff, zan] | with_reducible intro _ | ((with_reducible apply And.intro); omega))
    exact ⟨_, .int _ _ _, rfl⟩
  | false =>
  rw [if_neg (by simp)]
  (repeat first | simp (disch := try exact dis1) only [evD, Nat.reduceBEq, Nat.reduceAdd, Nat.reduceLeDiff, zfT, tab, List.getD_cons_zero, List.getD_cons_succ, zK] | with_reducible intro _ | ((with_reducible apply And.intro); omega))
  refine zcz [] 0 _ hLb rfl rfl (by simp only [evWB, Nat.reduceBEq, Nat.reduceAdd, Nat.reduceSub, Nat.reduceLeDiff, Nat.reduceLT, implies_true]) ⟨zay (by have := flN (r := []) rfl (e := e); simpa using this), trivial⟩ ?_
  rintro _ _ _ ⟨rfl, rfl, rfl⟩
  generalize hlb : coll labP e = labs at hll ⊢
  (repeat first | simp (disch := try exact dis1) only [evD, Nat.reduceBEq, Nat.reduceAdd, Nat.reduceLeDiff, renI] | with_reducible intro _ | ((with_reducible apply And.intro); omega))
  have hG2 := zbM (allN e) _ _ (zqD (allN e) labs)
  rw [hgl labs hfm] at hG2
  refine ze (z6 (D := allR) hG2 (.cons (zay rfl) (.cons (zwA (l := labs) rfl rfl rfl (by omega)) .nil)) (.inl rfl)) ?_
  cases hgt : (zdu e).any fun t => !hasI labs t with
  | true =>
    (repeat first | simp (disch := try exact dis1) only [evD, Nat.reduceBEq, Nat.reduceAdd, Nat.reduceLeDiff, zan] | with_reducible intro _ | ((with_reducible apply And.intro); omega))
    exact ⟨_, .int _ _ _, rfl⟩
  | false =>
  rw [if_neg (by simp)]
  (repeat first | simp (disch := try exact dis1) only [evD, Nat.reduceBEq, Nat.reduceAdd, Nat.reduceLeDiff] | with_reducible intro _ | ((with_reducible apply And.intro); omega))
  refine ztZ (zu4 (zs := labs) rfl (by omega)) ?_
  rintro _ _ _ hres
  simp only [Prod.mk.injEq] at hres
  obtain ⟨rfl, rfl, rfl⟩ := hres
  have hsl : (zho labs).length = labs.length := (zda labs).length_eq
  have hdup := zni labs
  rw [hsl] at hdup
  rw [← hsl] at hdup ⊢
  have hcl : (zbu (zho labs)).length ≤ (zho labs).length := by unfold zbu; exact ztY
  generalize zho labs = ss at hsl hdup hcl ⊢
  by_cases hnd : labs.Nodup
  · rw [if_pos hnd]
    rw [dT hnd] at hdup
    have hc : ¬ (zbu ss).length < ss.length := of_decide_eq_false hdup
    (repeat first | simp (disch := try exact dis1) only [evD, Nat.reduceBEq, Nat.reduceAdd, Nat.reduceLeDiff] | with_reducible intro _ | ((with_reducible apply And.intro); omega))
    (repeat' with_reducible apply And.intro) <;> (refine zcz [(0, 0, 0)] 1 _ (zoa ss 0 (by omega)) rfl rfl (by (try simp only [evWB, Nat.reduceBEq, Nat.reduceAdd, Nat.reduceSub, Nat.reduceLeDiff, Nat.reduceLT, implies_true]) <;> exact fin1) (by (try simp only [evWB, Nat.reduceBEq, Nat.reduceAdd, Nat.reduceSub, Nat.reduceLeDiff, Nat.reduceLT, implies_true]) <;> exact fin1) ?_; rintro _ _ _ ⟨rfl, rfl, rfl⟩; (repeat first | simp (disch := try exact dis1) only [evD, Nat.reduceBEq, Nat.reduceAdd, Nat.reduceLeDiff, renI] | with_reducible intro _ | ((with_reducible apply And.intro); omega)); (repeat' with_reducible apply And.intro) <;> (refine zcz [(0, 3, 0)] 1 _ (zko ss 0 (by omega)) rfl rfl (by (try simp only [evWB, Nat.reduceBEq, Nat.reduceAdd, Nat.reduceSub, Nat.reduceLeDiff, Nat.reduceLT, implies_true]) <;> exact fin1) (by (try simp only [evWB, Nat.reduceBEq, Nat.reduceAdd, Nat.reduceSub, Nat.reduceLeDiff, Nat.reduceLT, implies_true]) <;> exact fin1) ?_; rintro _ _ _ ⟨m, rfl, rfl, rfl⟩; (repeat first | simp (disch := try exact dis1) only [evD, Nat.reduceBEq, Nat.reduceAdd, Nat.reduceLeDiff, renI, dF, zan] | with_reducible intro _ | ((with_reducible apply And.intro); omega)); exact ⟨_, .int _ _ _, rfl⟩))
  · rw [if_neg hnd]
    rw [dF hnd] at hdup
    have hc : (zbu ss).length < ss.length := of_decide_eq_true hdup
    (repeat first | simp (disch := try exact dis1) only [evD, Nat.reduceBEq, Nat.reduceAdd, Nat.reduceLeDiff] | with_reducible intro _ | ((with_reducible apply And.intro); omega))
    (repeat' with_reducible apply And.intro) <;> (refine zcz [(0, 0, 0)] 1 _ (zoa ss 0 (by omega)) rfl rfl (by (try simp only [evWB, Nat.reduceBEq, Nat.reduceAdd, Nat.reduceSub, Nat.reduceLeDiff, Nat.reduceLT, implies_true]) <;> exact fin1) (by (try simp only [evWB, Nat.reduceBEq, Nat.reduceAdd, Nat.reduceSub, Nat.reduceLeDiff, Nat.reduceLT, implies_true]) <;> exact fin1) ?_; rintro _ _ _ ⟨rfl, rfl, rfl⟩; (repeat first | simp (disch := try exact dis1) only [evD, Nat.reduceBEq, Nat.reduceAdd, Nat.reduceLeDiff, renI] | with_reducible intro _ | ((with_reducible apply And.intro); omega)); (repeat' with_reducible apply And.intro) <;> (refine zcz [(0, 3, 0)] 1 _ (zko ss 0 (by omega)) rfl rfl (by (try simp only [evWB, Nat.reduceBEq, Nat.reduceAdd, Nat.reduceSub, Nat.reduceLeDiff, Nat.reduceLT, implies_true]) <;> exact fin1) (by (try simp only [evWB, Nat.reduceBEq, Nat.reduceAdd, Nat.reduceSub, Nat.reduceLeDiff, Nat.reduceLT, implies_true]) <;> exact fin1) ?_; rintro _ _ _ ⟨m, rfl, rfl, rfl⟩; (repeat first | simp (disch := try exact dis1) only [evD, Nat.reduceBEq, Nat.reduceAdd, Nat.reduceLeDiff, renI, dT, zan] | with_reducible intro _ | ((with_reducible apply And.intro); omega)); exact ⟨_, .int _ _ _, rfl⟩))
theorem zql (g : G) (hf : fewG g = true) (e : Nd) (hs : za7 e ≤ 1000) : zk Tryz.prog zhn [.agg (encN e), .agg g.cells] (· = .int .i64 (zsZ g e)) := by
  refine fn_x zqm rfl ?_
  unfold zlE
  have hB := hBig
  have hG := zk2 g (zqk hf)
  have hF := zoI (za7 e) e (Nat.le_refl _)
  have hC := zpc g hf e hs
  have hLp := zqY (za7 e) e false (Nat.le_refl _)
  have hLb := zoX 1000 e hs (by omega)
  have hTg := zn2 1000 e hs (by omega)
  have htl := Nat.le_trans (zlD e) hs
  unfold zsZ
  have hll : (coll labP e).length ≤ 1000 := Nat.le_trans (zge zmp e) hs
  obtain ⟨ad, gl⟩ := g
  simp only [G.cells] at hG hC ⊢
  (repeat first | simp (disch := try exact dis1) only [evD, Nat.reduceBEq, Nat.reduceAdd, Nat.reduceLeDiff, fldP, zfT, tab, zam, zaq, List.getD_cons_zero, List.getD_cons_succ] | with_reducible intro _ | ((with_reducible apply And.intro); omega))
  refine ze (zh hG rfl) ?_
  by_cases h0 : zie ⟨ad, gl⟩ = 0
  case neg =>
    rw [if_pos h0]
    (repeat first | simp (disch := try exact dis1) only [evD, Nat.reduceBEq, Nat.reduceAdd, Nat.reduceLeDiff, dT, zbK] | with_reducible intro _ | ((with_reducible apply And.intro); omega))
    exact ⟨_, .int _ _ _, rfl⟩
  rw [if_neg (fun h => h h0), h0]
  (repeat first | simp (disch := try exact dis1) only [evD, Nat.reduceBEq, Nat.reduceAdd, Nat.reduceLeDiff, dF, zam, zaq, zK, zfT, tab, List.getD_cons_zero, List.getD_cons_succ] | with_reducible intro _ | ((with_reducible apply And.intro); omega))
  refine ze (zh hF (flN rfl)) ?_
  cases hfm : zex e with
  | false =>
    (repeat first | simp (disch := try exact dis1) only [evD, Nat.reduceBEq, Nat.reduceAdd, Nat.reduceLeDiff, zbK] | with_reducible intro _ | ((with_reducible apply And.intro); omega))
    exact ⟨_, .int _ _ _, rfl⟩
  | true =>
  rw [if_neg (by simp)]
  (repeat first | simp (disch := try exact dis1) only [evD, Nat.reduceBEq, Nat.reduceAdd, Nat.reduceLeDiff, zfT, tab, List.getD_cons_zero, List.getD_cons_succ, zK] | with_reducible intro _ | ((with_reducible apply And.intro); omega))
  refine ze (zh hC (flN rfl)) ?_
  cases hcv : covB ⟨ad, gl⟩ e with
  | false =>
    (repeat first | simp (disch := try exact dis1) only [evD, Nat.reduceBEq, Nat.reduceAdd, Nat.reduceLeDiff, zbK] | with_reducible intro _ | ((with_reducible apply And.intro); omega))
    exact ⟨_, .int _ _ _, rfl⟩
  | true =>
  rw [if_neg (by simp)]
  (repeat first | simp (disch := try exact dis1) only [evD, Nat.reduceBEq, Nat.reduceAdd, Nat.reduceLeDiff, zfT, tab, List.getD_cons_zero, List.getD_cons_succ, zK] | with_reducible intro _ | ((with_reducible apply And.intro); omega))
  refine ze (zh hLp flNB) ?_
  cases hst : zgc e false with
  | true =>
    (repeat first | simp (disch := try exact dis1) only [evD, Nat.reduceBEq, Nat.reduceAdd, Nat.reduceLeDiff, zbK] | with_reducible intro _ | ((with_reducible apply And.intro); omega))
    exact ⟨_, .int _ _ _, rfl⟩
  | false =>
  rw [if_neg (by simp)]
  (repeat first | simp (disch := try exact dis1) only [evD, Nat.reduceBEq, Nat.reduceAdd, Nat.reduceLeDiff, zfT, tab, List.getD_cons_zero, List.getD_cons_succ, zK] | with_reducible intro _ | ((with_reducible apply And.intro); omega))
  refine zag (zh hLb (flN rfl)) ?_
  (repeat first | simp (disch := try exact dis1) only [evD, Nat.reduceBEq, Nat.reduceAdd, Nat.reduceLeDiff, zfT, tab, List.getD_cons_zero, List.getD_cons_succ, zK] | with_reducible intro _ | ((with_reducible apply And.intro); omega))
  refine zag (zh hTg (flN rfl)) ?_
  generalize coll labP e = labs at hll ⊢
  generalize zdu e = tg at htl ⊢
  (repeat first | simp (disch := try exact dis1) only [evD, Nat.reduceBEq, Nat.reduceAdd, Nat.reduceLeDiff] | with_reducible intro _ | ((with_reducible apply And.intro); omega))
  generalize hR : (tg.any fun t => !hasI labs t) = R
  refine zm (fun i : Nat => ([(6, za labs), (7, za tg), (8, .int .i64 i)], [])) 0
    (fun i => i ≤ tg.length ∧ ((tg.drop i).any fun t => !hasI labs t) = R) (fun i => tg.length - i) 0 ⟨Nat.zero_le _, hR⟩ (Ent.keep rfl fin5) ?_
  rintro i ⟨hi, hgo⟩ wf
  unfold zin
  by_cases hl : i < tg.length
  · have hgl := zo (f := cI) (d := []) hl
    rw [List.drop_eq_getElem_cons hl, List.any_cons] at hgo
    (repeat first | simp (disch := try exact dis1) only [evD, Nat.reduceBEq, Nat.reduceAdd, Nat.reduceLeDiff, dT, za, hgl] | with_reducible intro _ | ((with_reducible apply And.intro); omega))
    refine ze (zh (zff labs tg[i]) rfl) ?_
    cases hq : hasI labs tg[i] with
    | false =>
      rw [hq, Bool.not_false, Bool.true_or] at hgo
      subst hgo
      (repeat first | simp (disch := try exact dis1) only [evD, Nat.reduceBEq, Nat.reduceAdd, Nat.reduceLeDiff, zbK] | with_reducible intro _ | ((with_reducible apply And.intro); omega))
      exact ⟨_, .int _ _ _, rfl⟩
    | true =>
      rw [hq, Bool.not_true, Bool.false_or] at hgo
      (repeat first | simp (disch := try exact dis1) only [evD, Nat.reduceBEq, Nat.reduceAdd, Nat.reduceLeDiff] | with_reducible intro _ | ((with_reducible apply And.intro); omega))
      exact ⟨i + 1, ⟨by omega, hgo⟩, by omega, Ent.keep rfl fin5⟩
  rw [List.drop_of_length_le (by omega)] at hgo
  replace hgo : R = false := by rw [← hgo]; rfl
  subst hgo
  rw [if_neg (by simp)]
  (repeat first | simp (disch := try exact dis1) only [evD, Nat.reduceBEq, Nat.reduceAdd, Nat.reduceLeDiff, dF, za] | with_reducible intro _ | ((with_reducible apply And.intro); omega))
  unfold ziw
  (repeat first | simp (disch := try exact dis1) only [evD, Nat.reduceBEq, Nat.reduceAdd, Nat.reduceLeDiff] | with_reducible intro _ | ((with_reducible apply And.intro); omega))
  refine zm (fun i : Nat => ([(6, za labs), (9, .int .i64 i)], [])) 0
    (fun i => i ≤ labs.length ∧ ∀ k, (h : k < labs.length) → k < i → labs[k] ∉ labs.take k) (fun i => labs.length - i) 0 ⟨Nat.zero_le _, fun k _ h => by omega⟩ (Ent.keep rfl fin5) ?_
  rintro j ⟨hj, hno⟩ wf2
  unfold zil
  by_cases hjl : j < labs.length
  case neg =>
    rw [if_pos (ziS.1 fun k h => hno k h (by omega))]
    (repeat first | simp (disch := try exact dis1) only [evD, Nat.reduceBEq, Nat.reduceAdd, Nat.reduceLeDiff, dF, za] | with_reducible intro _ | ((with_reducible apply And.intro); omega))
    unfold zic
    (repeat first | simp (disch := try exact dis1) only [evD, Nat.reduceBEq, Nat.reduceAdd, Nat.reduceLeDiff, zbK] | with_reducible intro _ | ((with_reducible apply And.intro); omega))
    exact ⟨_, .int _ _ _, rfl⟩
  have hgl := zo (f := cI) (d := []) hjl
  (repeat first | simp (disch := try exact dis1) only [evD, Nat.reduceBEq, Nat.reduceAdd, Nat.reduceLeDiff, dT, za, zmy, hgl] | with_reducible intro _ | ((with_reducible apply And.intro); omega))
  refine zag (z6 (D := noR) (zff (labs.take j) labs[j]) (.cons (zvU hj) (.cons (zay rfl) .nil)) (.inl rfl)) ?_
  rw [zpe]
  by_cases h2 : labs[j] ∈ labs.take j
  · rw [if_neg (fun h => ziS.2 h j hjl h2), dT h2]
    (repeat first | simp (disch := try exact dis1) only [evD, Nat.reduceBEq, Nat.reduceAdd, Nat.reduceLeDiff, zbK] | with_reducible intro _ | ((with_reducible apply And.intro); omega))
    exact ⟨_, .int _ _ _, rfl⟩
  rw [dF h2]
  (repeat first | simp (disch := try exact dis1) only [evD, Nat.reduceBEq, Nat.reduceAdd, Nat.reduceLeDiff] | with_reducible intro _ | ((with_reducible apply And.intro); omega))
  refine ⟨j + 1, ⟨by omega, fun k hk hki => ?_⟩, by omega, Ent.keep rfl fin5⟩
  by_cases hke : k = j
  · subst hke; exact h2
  · exact hno k hk (by omega)
theorem L36_StructureChecks_ok (e : Nd) (g : G) : zk Tryz.prog zcq [.agg (encN e), .agg g.cells] (· = .bool true) := by
  refine fn_x zh1 rfl ?_
  unfold zd0
  have hB := hBig
  have hFw := zuf g
  have hCa := zkD g
  have hCb := zql g
  obtain ⟨ad, gl⟩ := g
  simp only [G.cells] at hFw hCa hCb ⊢
  (repeat first | simp (disch := try exact dis1) only [evD, Nat.reduceBEq, Nat.reduceAdd, Nat.reduceLeDiff, fldP, zfT, tab, zam, zaq, List.getD_cons_zero, List.getD_cons_succ] | with_reducible intro _ | ((with_reducible apply And.intro); omega))
  refine ze (zh hFw rfl) ?_
  cases hf : fewG ⟨ad, gl⟩ with
  | false =>
    (repeat first | simp (disch := try exact dis1) only [evD, Nat.reduceBEq, Nat.reduceAdd, Nat.reduceLeDiff] | with_reducible intro _ | ((with_reducible apply And.intro); omega))
    refine ze (zh zc9 rfl) ?_
    (repeat first | simp (disch := try exact dis1) only [evD, Nat.reduceBEq, Nat.reduceAdd, Nat.reduceLeDiff, zbp] | with_reducible intro _ | ((with_reducible apply And.intro); omega))
    exact ⟨_, .bool _ _, rfl⟩
  | true =>
  (repeat first | simp (disch := try exact dis1) only [evD, Nat.reduceBEq, Nat.reduceAdd, Nat.reduceLeDiff, zfT, tab, List.getD_cons_zero, List.getD_cons_succ, zK] | with_reducible intro _ | ((with_reducible apply And.intro); omega))
  refine ze (zh (zpJ e) (flN rfl)) ?_
  cases hsm : zsA e with
  | false =>
    (repeat first | simp (disch := try exact dis1) only [evD, Nat.reduceBEq, Nat.reduceAdd, Nat.reduceLeDiff] | with_reducible intro _ | ((with_reducible apply And.intro); omega))
    refine ze (zh zc9 rfl) ?_
    (repeat first | simp (disch := try exact dis1) only [evD, Nat.reduceBEq, Nat.reduceAdd, Nat.reduceLeDiff, zbp] | with_reducible intro _ | ((with_reducible apply And.intro); omega))
    exact ⟨_, .bool _ _, rfl⟩
  | true =>
    have hs := zrh hsm
    (repeat first | simp (disch := try exact dis1) only [evD, Nat.reduceBEq, Nat.reduceAdd, Nat.reduceLeDiff, zfT, tab, List.getD_cons_zero, List.getD_cons_succ, zK] | with_reducible intro _ | ((with_reducible apply And.intro); omega))
    refine zag (zh (hCa hf e hs) (flN rfl)) ?_
    (repeat first | simp (disch := try exact dis1) only [evD, Nat.reduceBEq, Nat.reduceAdd, Nat.reduceLeDiff, zfT, tab, List.getD_cons_zero, List.getD_cons_succ, zK] | with_reducible intro _ | ((with_reducible apply And.intro); omega))
    refine zag (zh (hCb hf e hs) (flN rfl)) ?_
    (repeat first | simp (disch := try exact dis1) only [evD, Nat.reduceBEq, Nat.reduceAdd, Nat.reduceLeDiff, dT] | with_reducible intro _ | ((with_reducible apply And.intro); omega))
    refine zag (zh zc9 rfl) ?_
    (repeat first | simp (disch := try exact dis1) only [evD, Nat.reduceBEq, Nat.reduceAdd, Nat.reduceLeDiff, zbp] | with_reducible intro _ | ((with_reducible apply And.intro); omega))
    exact ⟨_, .bool _ _, rfl⟩
end Go.Ab
