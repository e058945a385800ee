/-
  Part 10 of the proof: how the calls of this program run, over values instead of memory, and what each function computes.
-/
import Derived.KernelRfl
import Derived.Test.YtdhlfajcofgpkaaGreatKi
set_option maxRecDepth 100000
set_option linter.unusedVariables false
set_option linter.unusedSimpArgs false
set_option linter.unnecessarySimpa false
set_option linter.unusedSectionVars false

namespace Go.Ab
open Go.RowKit Go.Proofs
def cLL (l : List Int) : List AV := [za l]
def zdj (A : List (List Int)) : AV := encL 1 cLL A
theorem zwR : ∀ l, zE (cLL l) = true := fun _ => rfl
theorem zkp {H H2 : AH} {σ : Nat → Nat → Option (Nat × Nat × Nat)} {D : Nat → Nat → Prop} {t : Bool} {r q g : Nat} {l : List (List Int)} (hD : D r q) (hg : H.get r q = some (.row 1 (l.map cLL) g)) (hb : l.length ≤ big) :
    Vw H H2 σ D t (.own r q g 0 l.length) (zdj l) :=
  zgK hD hg hb fun a _ j hj => by
    obtain rfl : j = 0 := by omega
    exact zJ rfl
def rowI (L : Nat → List Int) (n i : Nat) : List (List AV) := (List.range n).map fun j => if j < i then cLL (L j) else [.nilsl]
theorem zqP {L : Nat → List Int} {n i : Nat} : (rowI L n i).length = n := by simp [rowI]
theorem zv3 {L : Nat → List Int} {n i : Nat} : (rowI L n i).set i [za (L i)] = rowI L n (i + 1) := by
  unfold rowI
  rw [zee]
  refine List.map_congr_left fun j hj => ?_
  unfold updF
  by_cases h : j = i
  · subst h; rw [if_pos rfl, if_pos (Nat.lt_succ_self j)]; rfl
  · rw [if_neg h]
    simp only
    by_cases h2 : j < i
    · rw [if_pos h2, if_pos (by omega)]
    · rw [if_neg h2, if_neg (by omega)]
theorem zdD {L : Nat → List Int} {n i : Nat} : (rowI L n i).set i [encL 1 (fun n => [.int .i64 n]) (L i)] = rowI L n (i + 1) := zv3
theorem zkS {L : Nat → List Int} {n : Nat} : rowI L n n = ((List.range n).map L).map cLL := by
  unfold rowI
  rw [List.map_map]
  refine List.map_congr_left fun j hj => ?_
  rw [if_pos (List.mem_range.1 hj)]
  rfl
theorem za6 {L : Nat → List Int} {n : Nat} : List.replicate n [AV.nilsl] = rowI L n 0 := by
  apply List.ext_getElem
  · simp [rowI]
  · intro k h1 h2; simp [rowI]
theorem z6 {L : Nat → List Int} {n i : Nat} : zu (rowI L n i) := by
  intro c hc
  obtain ⟨j, _, rfl⟩ := List.mem_map.1 hc
  split <;> rfl
theorem renP {ρ : Nat → Nat} {F n g : Nat} : AObj.ren ρ (.row 1 (mps F n) g) = .row 1 (mps (ρ F) n) g := by
  simp only [AObj.ren, mps, List.map_map]
  congr 1
  refine List.map_congr_left fun i _ => ?_
  simp [AV.ren]
def zj9 (exit : List Int) (bl : List Bl) : List (List Int) := (List.range bl.length).map (zaQ exit bl)
theorem zsg {α : Type} {l : List α} {d : α} : (List.range l.length).map (fun i => l.getD i d) = l := by
  apply List.ext_getElem
  · simp
  · intro k h1 h2; simp [List.getD_eq_getElem?_getD, h2]
def zeR (n : Nat) (S T : Nat → MS) (LS LT : Nat → List Int) (i : Nat) : AH := [(0, .row 1 (mps 2 n) 0), (1, .row 1 (mps 3 n) 0), (2, famS n S), (3, famS n T), (4, .row 1 (rowI LS n i) 0), (5, .row 1 (rowI LT n i) 0)]
theorem lv_l0 (n : Nat) (S T : Nat → MS) (LS LT : Nat → List Int) (A B : List (List Int)) (hn : n ≤ 1000000) (hS : ∀ i, i < n → (S i).ok ∧ zao (S i) = LS i) (hT : ∀ i, i < n → (T i).ok ∧ zao (T i) = LT i)
    (hA : (List.range n).map LS = A) (hC : (List.range n).map LT = B)
    {K : Kn} {H : AH} {nx : Nat} (hent : Ent 0 K H nx [(6, .own 0 0 0 0 n), (7, .own 1 0 0 0 n), (8, .own 4 0 0 0 n), (9, .own 5 0 0 0 n), (24, .int .i64 n), (25, .int .i64 0)] (zeR n S T LS LT 0) 6) :
    zhF Tryz.prog 0 zcs (za3 0 (seqQ Tryz.prog 0 zcp (retK zdV fun v H' _ => ∃ a, Frz H' v a ∧ a = .tup [zdj A, zdj B]))) K H nx := by
  have hB := hBig
  refine zl (fun i : Nat => ([(6, .own 0 0 0 0 n), (7, .own 1 0 0 0 n), (8, .own 4 0 0 0 n), (9, .own 5 0 0 0 n), (24, .int .i64 n), (25, .int .i64 i)], zeR n S T LS LT i)) 6
    (fun i => i ≤ n) (fun i => n - i) 0 (Nat.zero_le _) hent ?_
  rintro i hi wf
  unfold zcs
  by_cases hil : i < n
  · obtain ⟨s1, s2⟩ := hS i hil
    obtain ⟨t1, t2⟩ := hT i hil
    have s3 : zbR ((S i).2.map (·.1)) = LS i := s2
    have t3 : zbR ((T i).2.map (·.1)) = LT i := t2
    (repeat first | simp (disch := try exact dis1) only [evD, Nat.reduceBEq, Nat.reduceAdd, Nat.reduceLeDiff, dT, zeR, zfo, zdP hil] | with_reducible intro _ | ((with_reducible apply And.intro); omega))
    (repeat' with_reducible apply And.intro)
    all_goals try omega
    all_goals first
      | (refine zL [(0, 2, 0)] 1 _ (zbP n i hil S s1) rfl rfl (by (try simp only [evWB, Nat.reduceBEq, Nat.reduceAdd, Nat.reduceSub, Nat.reduceLeDiff, Nat.reduceLT, implies_true, famS]) <;> (repeat' with_reducible apply And.intro) <;> first | (refine zb zd (by decide) ⟨rfl, rfl⟩ ?_; (try simp only [evWB, Nat.reduceBEq, Nat.reduceAdd, Nat.reduceSub, Nat.reduceLeDiff, Nat.reduceLT, implies_true, famS]) <;> (repeat' with_reducible apply And.intro) <;> first | (refine zb zd (by decide) ⟨rfl, rfl⟩ ?_; (try simp only [evWB, Nat.reduceBEq, Nat.reduceAdd, Nat.reduceSub, Nat.reduceLeDiff, Nat.reduceLT, implies_true, famS]) <;> exact fin6; done) | exact fin6; done) | exact fin6) (by (try simp only [evWB, Nat.reduceBEq, Nat.reduceAdd, Nat.reduceSub, Nat.reduceLeDiff, Nat.reduceLT, implies_true, famS]) <;> (repeat' with_reducible apply And.intro) <;> first | (refine zb zd (by decide) ⟨rfl, rfl⟩ ?_; (try simp only [evWB, Nat.reduceBEq, Nat.reduceAdd, Nat.reduceSub, Nat.reduceLeDiff, Nat.reduceLT, implies_true, famS]) <;> (repeat' with_reducible apply And.intro) <;> first | (refine zb zd (by decide) ⟨rfl, rfl⟩ ?_; (try simp only [evWB, Nat.reduceBEq, Nat.reduceAdd, Nat.reduceSub, Nat.reduceLeDiff, Nat.reduceLT, implies_true, famS]) <;> exact fin6; done) | exact fin6; done) | exact fin6) ?_)
      | (refine zL [(0, 3, 0)] 1 _ (zbP n i hil T t1) rfl rfl (by (try simp only [evWB, Nat.reduceBEq, Nat.reduceAdd, Nat.reduceSub, Nat.reduceLeDiff, Nat.reduceLT, implies_true, famS]) <;> (repeat' with_reducible apply And.intro) <;> first | (refine zb zd (by decide) ⟨rfl, rfl⟩ ?_; (try simp only [evWB, Nat.reduceBEq, Nat.reduceAdd, Nat.reduceSub, Nat.reduceLeDiff, Nat.reduceLT, implies_true, famS]) <;> (repeat' with_reducible apply And.intro) <;> first | (refine zb zd (by decide) ⟨rfl, rfl⟩ ?_; (try simp only [evWB, Nat.reduceBEq, Nat.reduceAdd, Nat.reduceSub, Nat.reduceLeDiff, Nat.reduceLT, implies_true, famS]) <;> exact fin6; done) | exact fin6; done) | exact fin6) (by (try simp only [evWB, Nat.reduceBEq, Nat.reduceAdd, Nat.reduceSub, Nat.reduceLeDiff, Nat.reduceLT, implies_true, famS]) <;> (repeat' with_reducible apply And.intro) <;> first | (refine zb zd (by decide) ⟨rfl, rfl⟩ ?_; (try simp only [evWB, Nat.reduceBEq, Nat.reduceAdd, Nat.reduceSub, Nat.reduceLeDiff, Nat.reduceLT, implies_true, famS]) <;> (repeat' with_reducible apply And.intro) <;> first | (refine zb zd (by decide) ⟨rfl, rfl⟩ ?_; (try simp only [evWB, Nat.reduceBEq, Nat.reduceAdd, Nat.reduceSub, Nat.reduceLeDiff, Nat.reduceLT, implies_true, famS]) <;> exact fin6; done) | exact fin6; done) | exact fin6) ?_)
    all_goals (rintro _ _ _ ⟨rfl, rfl, rfl⟩; (repeat first | simp (disch := try exact dis1) only [evD, Nat.reduceBEq, Nat.reduceAdd, Nat.reduceLeDiff, renE, renF, s3, t3, zfo, zdP hil] | with_reducible intro _ | ((with_reducible apply And.intro); omega)))
    all_goals (repeat' with_reducible apply And.intro)
    all_goals try omega
    all_goals first
      | (refine zL [(0, 3, 0)] 1 _ (zbP n i hil T t1) rfl rfl (by (try simp only [evWB, Nat.reduceBEq, Nat.reduceAdd, Nat.reduceSub, Nat.reduceLeDiff, Nat.reduceLT, implies_true, famS]) <;> (repeat' with_reducible apply And.intro) <;> first | (refine zb zd (by decide) ⟨rfl, rfl⟩ ?_; (try simp only [evWB, Nat.reduceBEq, Nat.reduceAdd, Nat.reduceSub, Nat.reduceLeDiff, Nat.reduceLT, implies_true, famS]) <;> (repeat' with_reducible apply And.intro) <;> first | (refine zb zd (by decide) ⟨rfl, rfl⟩ ?_; (try simp only [evWB, Nat.reduceBEq, Nat.reduceAdd, Nat.reduceSub, Nat.reduceLeDiff, Nat.reduceLT, implies_true, famS]) <;> exact fin6; done) | exact fin6; done) | exact fin6) (by (try simp only [evWB, Nat.reduceBEq, Nat.reduceAdd, Nat.reduceSub, Nat.reduceLeDiff, Nat.reduceLT, implies_true, famS]) <;> (repeat' with_reducible apply And.intro) <;> first | (refine zb zd (by decide) ⟨rfl, rfl⟩ ?_; (try simp only [evWB, Nat.reduceBEq, Nat.reduceAdd, Nat.reduceSub, Nat.reduceLeDiff, Nat.reduceLT, implies_true, famS]) <;> (repeat' with_reducible apply And.intro) <;> first | (refine zb zd (by decide) ⟨rfl, rfl⟩ ?_; (try simp only [evWB, Nat.reduceBEq, Nat.reduceAdd, Nat.reduceSub, Nat.reduceLeDiff, Nat.reduceLT, implies_true, famS]) <;> exact fin6; done) | exact fin6; done) | exact fin6) ?_)
      | (refine zL [(0, 2, 0)] 1 _ (zbP n i hil S s1) rfl rfl (by (try simp only [evWB, Nat.reduceBEq, Nat.reduceAdd, Nat.reduceSub, Nat.reduceLeDiff, Nat.reduceLT, implies_true, famS]) <;> (repeat' with_reducible apply And.intro) <;> first | (refine zb zd (by decide) ⟨rfl, rfl⟩ ?_; (try simp only [evWB, Nat.reduceBEq, Nat.reduceAdd, Nat.reduceSub, Nat.reduceLeDiff, Nat.reduceLT, implies_true, famS]) <;> (repeat' with_reducible apply And.intro) <;> first | (refine zb zd (by decide) ⟨rfl, rfl⟩ ?_; (try simp only [evWB, Nat.reduceBEq, Nat.reduceAdd, Nat.reduceSub, Nat.reduceLeDiff, Nat.reduceLT, implies_true, famS]) <;> exact fin6; done) | exact fin6; done) | exact fin6) (by (try simp only [evWB, Nat.reduceBEq, Nat.reduceAdd, Nat.reduceSub, Nat.reduceLeDiff, Nat.reduceLT, implies_true, famS]) <;> (repeat' with_reducible apply And.intro) <;> first | (refine zb zd (by decide) ⟨rfl, rfl⟩ ?_; (try simp only [evWB, Nat.reduceBEq, Nat.reduceAdd, Nat.reduceSub, Nat.reduceLeDiff, Nat.reduceLT, implies_true, famS]) <;> (repeat' with_reducible apply And.intro) <;> first | (refine zb zd (by decide) ⟨rfl, rfl⟩ ?_; (try simp only [evWB, Nat.reduceBEq, Nat.reduceAdd, Nat.reduceSub, Nat.reduceLeDiff, Nat.reduceLT, implies_true, famS]) <;> exact fin6; done) | exact fin6; done) | exact fin6) ?_)
    all_goals (rintro _ _ _ ⟨rfl, rfl, rfl⟩; (repeat first | simp (disch := try exact dis1) only [evD, Nat.reduceBEq, Nat.reduceAdd, Nat.reduceLeDiff, renE, renF, s3, t3, zfo, zdP hil, zqP] | with_reducible intro _ | ((with_reducible apply And.intro); omega)))
    all_goals refine ⟨⟨hil, rfl, rfl⟩, ⟨by omega, by omega⟩, ⟨hil, rfl, rfl⟩, i + 1, by omega, by omega, ?_⟩
    all_goals exact (Ent.tab [(0, 0, 0), (1, 1, 0), (2, 2, 0), (3, 3, 0), (4, 4, 0), (5, 5, 0)] [] rfl (by (try simp only [evWB, Nat.reduceBEq, Nat.reduceAdd, Nat.reduceSub, Nat.reduceLeDiff, Nat.reduceLT, implies_true, zeR, famS, zdD]) <;> (repeat' with_reducible apply And.intro) <;> first | (refine zb zd (by decide) ⟨rfl, rfl⟩ ?_; (try simp only [evWB, Nat.reduceBEq, Nat.reduceAdd, Nat.reduceSub, Nat.reduceLeDiff, Nat.reduceLT, implies_true, zeR, famS, zdD]) <;> (repeat' with_reducible apply And.intro) <;> first | (refine zb zd (by decide) ⟨rfl, rfl⟩ ?_; (try simp only [evWB, Nat.reduceBEq, Nat.reduceAdd, Nat.reduceSub, Nat.reduceLeDiff, Nat.reduceLT, implies_true, zeR, famS, zdD]) <;> exact fin6; done) | exact fin6; done) | exact fin6) (by (try simp only [evWB, Nat.reduceBEq, Nat.reduceAdd, Nat.reduceSub, Nat.reduceLeDiff, Nat.reduceLT, implies_true, zeR, famS, zdD]) <;> (repeat' with_reducible apply And.intro) <;> first | (refine zb zd (by decide) ⟨rfl, rfl⟩ ?_; (try simp only [evWB, Nat.reduceBEq, Nat.reduceAdd, Nat.reduceSub, Nat.reduceLeDiff, Nat.reduceLT, implies_true, zeR, famS, zdD]) <;> (repeat' with_reducible apply And.intro) <;> first | (refine zb zd (by decide) ⟨rfl, rfl⟩ ?_; (try simp only [evWB, Nat.reduceBEq, Nat.reduceAdd, Nat.reduceSub, Nat.reduceLeDiff, Nat.reduceLT, implies_true, zeR, famS, zdD]) <;> exact fin6; done) | exact fin6; done) | exact fin6))
  · obtain rfl : i = n := by omega
    (repeat first | simp (disch := try exact dis1) only [evD, Nat.reduceBEq, Nat.reduceAdd, Nat.reduceLeDiff, dF] | with_reducible intro _ | ((with_reducible apply And.intro); omega))
    unfold zcp
    (repeat first | simp (disch := try exact dis1) only [evD, Nat.reduceBEq, Nat.reduceAdd, Nat.reduceLeDiff, zdV, zeR] | with_reducible intro _ | ((with_reducible apply And.intro); omega))
    rw [zkS, zkS, hA, hC]
    have la : A.length = i := by rw [← hA]; simp
    have lb : B.length = i := by rw [← hC]; simp
    refine ⟨.tup [zdj A, zdj B], .tup _ _ _ rfl ?_, rfl⟩
    intro k x y h1 h2
    rcases k with _ | _ | k
    · cases h1; cases h2
      have := @zkp [(0, .row 1 (mps 2 i) 0), (1, .row 1 (mps 3 i) 0), (2, famS i S), (3, famS i T), (4, .row 1 (A.map cLL) 0), (5, .row 1 (B.map cLL) 0)] [] nos allR false 4 0 0 A trivial rfl (by omega)
      rw [la] at this
      exact this
    · cases h1; cases h2
      have := @zkp [(0, .row 1 (mps 2 i) 0), (1, .row 1 (mps 3 i) 0), (2, famS i S), (3, famS i T), (4, .row 1 (A.map cLL) 0), (5, .row 1 (B.map cLL) 0)] [] nos allR false 5 0 0 B trivial rfl (by omega)
      rw [lb] at this
      exact this
    · cases h1
theorem zgg (g : G) (exit U : List Int) (hU : UnivB U exit g.blocks) : zC Tryz.prog zcT [.agg g.cells, za exit] (· = .tup [zdj (zbA exit g.blocks), zdj (zj9 exit g.blocks)]) := by
  refine fn_x zkg rfl ?_
  unfold zgk
  have hB := hBig
  have hlen := hU.len
  have hbd := ziE g exit U hU
  obtain ⟨ad, bl⟩ := g
  simp only at hU hlen hbd ⊢
  simp only [G.cells] at hbd
  (repeat first | simp (disch := try exact dis1) only [evD, Nat.reduceBEq, Nat.reduceAdd, Nat.reduceLeDiff, fldP, G.cells, za] | with_reducible intro _ | ((with_reducible apply And.intro); omega))
  refine zL [] 0 _ (hbd) rfl rfl (by (try simp only [evWB, Nat.reduceBEq, Nat.reduceAdd, Nat.reduceSub, Nat.reduceLeDiff, Nat.reduceLT, implies_true]) <;> exact fin6) (by (try simp only [evWB, Nat.reduceBEq, Nat.reduceAdd, Nat.reduceSub, Nat.reduceLeDiff, Nat.reduceLT, implies_true]) <;> exact fin6) ?_
  rintro _ _ _ ⟨S, T, rfl, rfl, rfl, hend⟩
  (repeat first | simp (disch := try exact dis1) only [evD, Nat.reduceBEq, Nat.reduceAdd, Nat.reduceLeDiff, bdH, renP, renF] | with_reducible intro _ | ((with_reducible apply And.intro); omega))
  (repeat' with_reducible apply And.intro)
  all_goals try omega
  all_goals try intro _
  all_goals refine lv_l0 bl.length S T (fun i => (zbA exit bl).getD i []) (zaQ exit bl) _ _ hlen (fun i hi => ⟨(hend.s i).ok, hend.keyS hi⟩) (fun i hi => ⟨(hend.t i).ok, hend.keyT hi⟩) (by have := @zsg _ (zbA exit bl) []; rw [(zma exit bl).1.len] at this; exact this) rfl ?_
  · exact (Ent.tab [(0, 2, 0), (1, 3, 0), (2, 4, 0), (3, 5, 0), (4, 6, 0), (5, 7, 0)] [] rfl (by (try simp only [evWB, Nat.reduceBEq, Nat.reduceAdd, Nat.reduceSub, Nat.reduceLeDiff, Nat.reduceLT, implies_true, zeR, famS, ← za6]) <;> (repeat' with_reducible apply And.intro) <;> first | (refine zb zd (by decide) ⟨rfl, rfl⟩ ?_; (try simp only [evWB, Nat.reduceBEq, Nat.reduceAdd, Nat.reduceSub, Nat.reduceLeDiff, Nat.reduceLT, implies_true, zeR, famS, ← za6]) <;> (repeat' with_reducible apply And.intro) <;> first | (refine zb zd (by decide) ⟨rfl, rfl⟩ ?_; (try simp only [evWB, Nat.reduceBEq, Nat.reduceAdd, Nat.reduceSub, Nat.reduceLeDiff, Nat.reduceLT, implies_true, zeR, famS, ← za6]) <;> exact fin6; done) | exact fin6; done) | exact fin6) (by (try simp only [evWB, Nat.reduceBEq, Nat.reduceAdd, Nat.reduceSub, Nat.reduceLeDiff, Nat.reduceLT, implies_true, zeR, famS, ← za6]) <;> (repeat' with_reducible apply And.intro) <;> first | (refine zb zd (by decide) ⟨rfl, rfl⟩ ?_; (try simp only [evWB, Nat.reduceBEq, Nat.reduceAdd, Nat.reduceSub, Nat.reduceLeDiff, Nat.reduceLT, implies_true, zeR, famS, ← za6]) <;> (repeat' with_reducible apply And.intro) <;> first | (refine zb zd (by decide) ⟨rfl, rfl⟩ ?_; (try simp only [evWB, Nat.reduceBEq, Nat.reduceAdd, Nat.reduceSub, Nat.reduceLeDiff, Nat.reduceLT, implies_true, zeR, famS, ← za6]) <;> exact fin6; done) | exact fin6; done) | exact fin6))
  · exact (Ent.tab [(0, 2, 0), (1, 3, 0), (2, 4, 0), (3, 5, 0), (4, 7, 0), (5, 6, 0)] [] rfl (by (try simp only [evWB, Nat.reduceBEq, Nat.reduceAdd, Nat.reduceSub, Nat.reduceLeDiff, Nat.reduceLT, implies_true, zeR, famS, ← za6]) <;> (repeat' with_reducible apply And.intro) <;> first | (refine zb zd (by decide) ⟨rfl, rfl⟩ ?_; (try simp only [evWB, Nat.reduceBEq, Nat.reduceAdd, Nat.reduceSub, Nat.reduceLeDiff, Nat.reduceLT, implies_true, zeR, famS, ← za6]) <;> (repeat' with_reducible apply And.intro) <;> first | (refine zb zd (by decide) ⟨rfl, rfl⟩ ?_; (try simp only [evWB, Nat.reduceBEq, Nat.reduceAdd, Nat.reduceSub, Nat.reduceLeDiff, Nat.reduceLT, implies_true, zeR, famS, ← za6]) <;> exact fin6; done) | exact fin6; done) | exact fin6) (by (try simp only [evWB, Nat.reduceBEq, Nat.reduceAdd, Nat.reduceSub, Nat.reduceLeDiff, Nat.reduceLT, implies_true, zeR, famS, ← za6]) <;> (repeat' with_reducible apply And.intro) <;> first | (refine zb zd (by decide) ⟨rfl, rfl⟩ ?_; (try simp only [evWB, Nat.reduceBEq, Nat.reduceAdd, Nat.reduceSub, Nat.reduceLeDiff, Nat.reduceLT, implies_true, zeR, famS, ← za6]) <;> (repeat' with_reducible apply And.intro) <;> first | (refine zb zd (by decide) ⟨rfl, rfl⟩ ?_; (try simp only [evWB, Nat.reduceBEq, Nat.reduceAdd, Nat.reduceSub, Nat.reduceLeDiff, Nat.reduceLT, implies_true, zeR, famS, ← za6]) <;> exact fin6; done) | exact fin6; done) | exact fin6))
theorem zrR (l : List Int) (n : Int) : zC Tryz.prog zlN [za l, .int .i64 n] (· = .bool (decide (n ∈ l))) := by
  refine fn_x zrY rfl ?_
  unfold zmH
  have hB := hBig
  (repeat first | simp (disch := try exact dis1) only [evD, Nat.reduceBEq, Nat.reduceAdd, Nat.reduceLeDiff, za] | with_reducible intro _ | ((with_reducible apply And.intro); omega))
  refine zl (fun i : Nat => ([(0, za l), (1, .int .i64 n), (5, .int .i64 i)], [])) 0 (fun i => i ≤ l.length ∧ n ∉ l.take i) (fun i => l.length - i) 0 ⟨Nat.zero_le _, by simp⟩ (Ent.tab [] [] rfl (by (try simp only [evWB, Nat.reduceBEq, Nat.reduceAdd, Nat.reduceSub, Nat.reduceLeDiff, Nat.reduceLT, implies_true, za]) <;> exact fin2) (by (try simp only [evWB, Nat.reduceBEq, Nat.reduceAdd, Nat.reduceSub, Nat.reduceLeDiff, Nat.reduceLT, implies_true, za]) <;> exact fin2)) ?_
  rintro i ⟨hi, hn⟩ wf
  unfold ziN
  by_cases hil : i < l.length
  · have hgl := zt (f := cI) (d := []) hil
    by_cases he : l[i] = n
    · have hm : n ∈ l := by rw [← he]; exact List.getElem_mem hil
      rw [decide_eq_true hm]
      (repeat first | simp (disch := try exact dis1) only [evD, Nat.reduceBEq, Nat.reduceAdd, Nat.reduceLeDiff, dT, za, hgl, zjB] | with_reducible intro _ | ((with_reducible apply And.intro); omega))
      exact ⟨_, .bool _ _, rfl⟩
    · (repeat first | simp (disch := try exact dis1) only [evD, Nat.reduceBEq, Nat.reduceAdd, Nat.reduceLeDiff, dT, dF, za, hgl] | with_reducible intro _ | ((with_reducible apply And.intro); omega))
      refine ⟨i + 1, ⟨by omega, ?_⟩, by omega, Ent.keep rfl fin5⟩
      rw [List.take_add_one, List.getElem?_eq_getElem hil]
      simp only [Option.toList_some, List.mem_append, List.mem_singleton, not_or]
      exact ⟨hn, fun e => he e.symm⟩
  · rw [List.take_of_length_le (by omega)] at hn
    rw [decide_eq_false hn]
    (repeat first | simp (disch := try exact dis1) only [evD, Nat.reduceBEq, Nat.reduceAdd, Nat.reduceLeDiff, dF, za] | with_reducible intro _ | ((with_reducible apply And.intro); omega))
    unfold zi5
    (repeat first | simp (disch := try exact dis1) only [evD, Nat.reduceBEq, Nat.reduceAdd, Nat.reduceLeDiff, zjB] | with_reducible intro _ | ((with_reducible apply And.intro); omega))
    exact ⟨_, .bool _ _, rfl⟩
theorem zqH {a b : List Int} {i : Nat} (h : i < a.length) : zcH (a.take (i + 1)) b = if a[i] ∈ b then zcH (a.take i) b else zcH (a.take i) b ++ [a[i]] := by
  unfold zcH
  rw [List.take_add_one, List.getElem?_eq_getElem h, List.filter_append]
  by_cases hm : a[i] ∈ b
  · rw [if_pos hm]; simp [hm]
  · rw [if_neg hm]; simp [hm]
theorem zjw {a b : List Int} : (zcH a b).length ≤ a.length := List.length_filter_le _ _
theorem zl0 (a b : List Int) (ha : a.length ≤ 1000000) : zC Tryz.prog zfZ [za a, za b] (· = za (zcH a b)) := by
  refine fn_x zlW rfl ?_
  unfold zhT
  have hB := hBig
  (repeat first | simp (disch := try exact dis1) only [evD, Nat.reduceBEq, Nat.reduceAdd, Nat.reduceLeDiff, za] | with_reducible intro _ | ((with_reducible apply And.intro); omega))
  refine zl (fun i : Nat => ([(0, za a), (1, za b), (5, .own 0 0 0 0 (zcH (a.take i) b).length), (6, .int .i64 i)], [(0, .row 1 ((zcH (a.take i) b).map cI) 0)])) 1 (fun i => i ≤ a.length) (fun i => a.length - i) 0 (Nat.zero_le _) (Ent.tab [(0, 1, 0)] [] rfl (by (try simp only [evWB, Nat.reduceBEq, Nat.reduceAdd, Nat.reduceSub, Nat.reduceLeDiff, Nat.reduceLT, implies_true, za, List.take_zero]) <;> exact fin2) (by (try simp only [evWB, Nat.reduceBEq, Nat.reduceAdd, Nat.reduceSub, Nat.reduceLeDiff, Nat.reduceLT, implies_true, za, List.take_zero]) <;> exact fin2)) ?_
  rintro i hi wf
  unfold zfK
  by_cases hil : i < a.length
  · have hgl := zt (f := cI) (d := []) hil
    have htk := zqH (b := b) hil
    have hml := zjw (a := a.take i) (b := b)
    rw [List.length_take] at hml
    generalize zcH (a.take i) b = m at htk hml ⊢
    (repeat first | simp (disch := try exact dis1) only [evD, Nat.reduceBEq, Nat.reduceAdd, Nat.reduceLeDiff, dT, za, hgl] | with_reducible intro _ | ((with_reducible apply And.intro); omega))
    refine zm (zn (zrR b a[i]) rfl) ?_
    by_cases hm : a[i] ∈ b
    · rw [if_pos hm] at htk
      rw [decide_eq_true hm]
      (repeat first | simp (disch := try exact dis1) only [evD, Nat.reduceBEq, Nat.reduceAdd, Nat.reduceLeDiff] | with_reducible intro _ | ((with_reducible apply And.intro); omega))
      exact ⟨i + 1, by omega, by omega, (Ent.tab [(0, 0, 0)] [] rfl (by (try simp only [evWB, Nat.reduceBEq, Nat.reduceAdd, Nat.reduceSub, Nat.reduceLeDiff, Nat.reduceLT, implies_true, za, htk]) <;> exact fin2) (by (try simp only [evWB, Nat.reduceBEq, Nat.reduceAdd, Nat.reduceSub, Nat.reduceLeDiff, Nat.reduceLT, implies_true, za, htk]) <;> exact fin2))⟩
    · rw [if_neg hm] at htk
      rw [decide_eq_false hm]
      (repeat first | simp (disch := try exact dis1) only [evD, Nat.reduceBEq, Nat.reduceAdd, Nat.reduceLeDiff, dT, za, hgl] | with_reducible intro _ | ((with_reducible apply And.intro); omega))
      exact ⟨i + 1, by omega, by omega, (Ent.tab [(0, 0, 1)] [] rfl (by (try simp only [evWB, Nat.reduceBEq, Nat.reduceAdd, Nat.reduceSub, Nat.reduceLeDiff, Nat.reduceLT, implies_true, za, htk, List.length_append, List.length_singleton, List.map_append, List.map_cons, List.map_nil]) <;> exact fin2) (by (try simp only [evWB, Nat.reduceBEq, Nat.reduceAdd, Nat.reduceSub, Nat.reduceLeDiff, Nat.reduceLT, implies_true, za, htk, List.length_append, List.length_singleton, List.map_append, List.map_cons, List.map_nil]) <;> exact fin2))⟩
  · rw [List.take_of_length_le (by omega)]
    (repeat first | simp (disch := try exact dis1) only [evD, Nat.reduceBEq, Nat.reduceAdd, Nat.reduceLeDiff, dF, za] | with_reducible intro _ | ((with_reducible apply And.intro); omega))
    unfold zfF
    (repeat first | simp (disch := try exact dis1) only [evD, Nat.reduceBEq, Nat.reduceAdd, Nat.reduceLeDiff, zhX] | with_reducible intro _ | ((with_reducible apply And.intro); omega))
    have := zjw (a := a) (b := b)
    exact ⟨_, zU trivial rfl (by omega), rfl⟩
theorem zm8 (s : St) (a exit : List Int) (hs : zw s.e ≤ 100000) (ha : a.length + exit.length ≤ 800000) : zC Tryz.prog zhh [.agg s.cells, za a, za exit] (· = za (zcw exit s a)) := by
  refine fn_x zng rfl ?_
  unfold ziJ
  have hB := hBig
  have hd := zkt s
  have hu := zlM s hs
  have hul := zi2 s
  have hlv : zfN s = decide (s.op = 9 ∨ s.op = 10 ∨ s.op = 5) := rfl
  unfold zcw
  generalize hR : (if zfN s = true then zaE (zaE (zcH a (zfw s)) (zb6 s)) exit else zaE (zcH a (zfw s)) (zb6 s)) = R
  generalize zfw s = ds at hd hR
  generalize zb6 s = us at hu hul hR
  have hml := zjw (a := a) (b := ds)
  have hun := zdk (a := zcH a ds) (b := us)
  have hw := zl0 a ds (by omega)
  have hU := zeY (zcH a ds) us (by omega)
  have hV := zeY (zaE (zcH a ds) us) exit (by omega)
  rw [hlv] at hR
  obtain ⟨op, var, width, next, els, tgt, l, cs⟩ := s
  simp only [St.cells] at hd hu hR
  (repeat first | simp (disch := try exact dis1) only [evD, Nat.reduceBEq, Nat.reduceAdd, Nat.reduceLeDiff, fldP, St.cells, za] | with_reducible intro _ | ((with_reducible apply And.intro); omega))
  refine za0 (zn hd rfl) ?_
  (repeat first | simp (disch := try exact dis1) only [evD, Nat.reduceBEq, Nat.reduceAdd, Nat.reduceLeDiff] | with_reducible intro _ | ((with_reducible apply And.intro); omega))
  refine za0 (zn hw rfl) ?_
  (repeat first | simp (disch := try exact dis1) only [evD, Nat.reduceBEq, Nat.reduceAdd, Nat.reduceLeDiff, za] | with_reducible intro _ | ((with_reducible apply And.intro); omega))
  refine za0 (zn hu rfl) ?_
  (repeat first | simp (disch := try exact dis1) only [evD, Nat.reduceBEq, Nat.reduceAdd, Nat.reduceLeDiff] | with_reducible intro _ | ((with_reducible apply And.intro); omega))
  refine za0 (zn hU rfl) ?_
  generalize zaE (zcH a ds) us = z at hV hR ⊢
  by_cases h9 : op = 9
  · rw [decide_eq_true (Or.inl h9), if_pos rfl] at hR
    subst hR
    (repeat first | simp (disch := try exact dis1) only [evD, Nat.reduceBEq, Nat.reduceAdd, Nat.reduceLeDiff, dT, fldP] | with_reducible intro _ | ((with_reducible apply And.intro); omega))
    refine zm (zn hV rfl) ?_
    (repeat first | simp (disch := try exact dis1) only [evD, Nat.reduceBEq, Nat.reduceAdd, Nat.reduceLeDiff, zcR] | with_reducible intro _ | ((with_reducible apply And.intro); omega))
    exact ⟨_, zJ rfl, rfl⟩
  by_cases h10 : op = 10
  · rw [decide_eq_true (Or.inr (Or.inl h10)), if_pos rfl] at hR
    subst hR
    (repeat first | simp (disch := try exact dis1) only [evD, Nat.reduceBEq, Nat.reduceAdd, Nat.reduceLeDiff, dT, dF, fldP] | with_reducible intro _ | ((with_reducible apply And.intro); omega))
    refine zm (zn hV rfl) ?_
    (repeat first | simp (disch := try exact dis1) only [evD, Nat.reduceBEq, Nat.reduceAdd, Nat.reduceLeDiff, zcR] | with_reducible intro _ | ((with_reducible apply And.intro); omega))
    exact ⟨_, zJ rfl, rfl⟩
  by_cases h5 : op = 5
  · rw [decide_eq_true (Or.inr (Or.inr h5)), if_pos rfl] at hR
    subst hR
    (repeat first | simp (disch := try exact dis1) only [evD, Nat.reduceBEq, Nat.reduceAdd, Nat.reduceLeDiff, dT, dF, fldP] | with_reducible intro _ | ((with_reducible apply And.intro); omega))
    refine zm (zn hV rfl) ?_
    (repeat first | simp (disch := try exact dis1) only [evD, Nat.reduceBEq, Nat.reduceAdd, Nat.reduceLeDiff, zcR] | with_reducible intro _ | ((with_reducible apply And.intro); omega))
    exact ⟨_, zJ rfl, rfl⟩
  rw [decide_eq_false (by omega), if_neg (by simp)] at hR
  subst hR
  (repeat first | simp (disch := try exact dis1) only [evD, Nat.reduceBEq, Nat.reduceAdd, Nat.reduceLeDiff, dF, fldP, zcR] | with_reducible intro _ | ((with_reducible apply And.intro); omega))
  exact ⟨_, zJ rfl, rfl⟩
theorem zeF (A B : List Int) : zC Tryz.prog zbw [za A, za B] (· = .bool (decide (A = B))) := by
  refine fn_x zkM rfl ?_
  unfold zgD
  have hB := hBig
  by_cases hl : A.length = B.length
  · (repeat first | simp (disch := try exact dis1) only [evD, Nat.reduceBEq, Nat.reduceAdd, Nat.reduceLeDiff, dF, za] | with_reducible intro _ | ((with_reducible apply And.intro); omega))
    refine zl (fun i : Nat => ([(0, za A), (1, za B), (5, .int .i64 i)], [])) 0 (fun i => i ≤ A.length ∧ A.take i = B.take i) (fun i => A.length - i) 0 ⟨Nat.zero_le _, by simp⟩ (Ent.tab [] [] rfl (by (try simp only [evWB, Nat.reduceBEq, Nat.reduceAdd, Nat.reduceSub, Nat.reduceLeDiff, Nat.reduceLT, implies_true, za]) <;> exact fin2) (by (try simp only [evWB, Nat.reduceBEq, Nat.reduceAdd, Nat.reduceSub, Nat.reduceLeDiff, Nat.reduceLT, implies_true, za]) <;> exact fin2)) ?_
    rintro i ⟨hi, htk⟩ wf
    unfold ze9
    by_cases hil : i < A.length
    · have hib : i < B.length := by omega
      have ga := zt (f := cI) (d := []) hil
      have gb := zt (f := cI) (d := []) hib
      by_cases he : A[i] = B[i]
      · (repeat first | simp (disch := try exact dis1) only [evD, Nat.reduceBEq, Nat.reduceAdd, Nat.reduceLeDiff, dT, dF, za, ga, gb] | with_reducible intro _ | ((with_reducible apply And.intro); omega))
        exact ⟨i + 1, ⟨by omega, zjZ htk hil hib he⟩, by omega, Ent.keep rfl fin5⟩
      · have hne : A ≠ B := fun e => he (by subst e; rfl)
        rw [decide_eq_false hne]
        (repeat first | simp (disch := try exact dis1) only [evD, Nat.reduceBEq, Nat.reduceAdd, Nat.reduceLeDiff, dT, za, ga, gb, zcN] | with_reducible intro _ | ((with_reducible apply And.intro); omega))
        exact ⟨_, .bool _ _, rfl⟩
    · rw [List.take_of_length_le (by omega), List.take_of_length_le (by omega)] at htk
      rw [decide_eq_true htk]
      (repeat first | simp (disch := try exact dis1) only [evD, Nat.reduceBEq, Nat.reduceAdd, Nat.reduceLeDiff, dF, za] | with_reducible intro _ | ((with_reducible apply And.intro); omega))
      unfold zfb
      (repeat first | simp (disch := try exact dis1) only [evD, Nat.reduceBEq, Nat.reduceAdd, Nat.reduceLeDiff, zcN] | with_reducible intro _ | ((with_reducible apply And.intro); omega))
      exact ⟨_, .bool _ _, rfl⟩
  · have hne : A ≠ B := fun e => hl (by rw [e])
    rw [decide_eq_false hne]
    (repeat first | simp (disch := try exact dis1) only [evD, Nat.reduceBEq, Nat.reduceAdd, Nat.reduceLeDiff, dT, za, zcN] | with_reducible intro _ | ((with_reducible apply And.intro); omega))
    exact ⟨_, .bool _ _, rfl⟩
theorem zgl (A B : List (List Int)) : zC Tryz.prog zbU [zdj A, zdj B] (· = .bool (decide (A = B))) := by
  refine fn_x zke rfl ?_
  unfold zgi
  have hB := hBig
  by_cases hl : A.length = B.length
  · (repeat first | simp (disch := try exact dis1) only [evD, Nat.reduceBEq, Nat.reduceAdd, Nat.reduceLeDiff, dF, zdj] | with_reducible intro _ | ((with_reducible apply And.intro); omega))
    refine zl (fun i : Nat => ([(0, zdj A), (1, zdj B), (5, .int .i64 i)], [])) 0 (fun i => i ≤ A.length ∧ A.take i = B.take i) (fun i => A.length - i) 0 ⟨Nat.zero_le _, by simp⟩ (Ent.tab [] [] rfl (by (try simp only [evWB, Nat.reduceBEq, Nat.reduceAdd, Nat.reduceSub, Nat.reduceLeDiff, Nat.reduceLT, implies_true, zdj]) <;> exact fin2) (by (try simp only [evWB, Nat.reduceBEq, Nat.reduceAdd, Nat.reduceSub, Nat.reduceLeDiff, Nat.reduceLT, implies_true, zdj]) <;> exact fin2)) ?_
    rintro i ⟨hi, htk⟩ wf
    unfold zek
    by_cases hil : i < A.length
    · have hib : i < B.length := by omega
      have ga : (A.map cLL).getD i [] = [za A[i]] := zt (f := cLL) (d := []) hil
      have gb : (B.map cLL).getD i [] = [za B[i]] := zt (f := cLL) (d := []) hib
      (repeat first | simp (disch := try exact dis1) only [evD, Nat.reduceBEq, Nat.reduceAdd, Nat.reduceLeDiff, dT, dF, zdj, ga, gb] | with_reducible intro _ | ((with_reducible apply And.intro); omega))
      refine za0 (zn (zeF A[i] B[i]) rfl) ?_
      by_cases he : A[i] = B[i]
      · rw [decide_eq_true he]
        (repeat first | simp (disch := try exact dis1) only [evD, Nat.reduceBEq, Nat.reduceAdd, Nat.reduceLeDiff] | with_reducible intro _ | ((with_reducible apply And.intro); omega))
        exact ⟨i + 1, ⟨by omega, zjZ htk hil hib he⟩, by omega, Ent.keep rfl fin5⟩
      · have hne : A ≠ B := fun e => he (by subst e; rfl)
        rw [decide_eq_false he, decide_eq_false hne]
        (repeat first | simp (disch := try exact dis1) only [evD, Nat.reduceBEq, Nat.reduceAdd, Nat.reduceLeDiff, zcm] | with_reducible intro _ | ((with_reducible apply And.intro); omega))
        exact ⟨_, .bool _ _, rfl⟩
    · rw [List.take_of_length_le (by omega), List.take_of_length_le (by omega)] at htk
      rw [decide_eq_true htk]
      (repeat first | simp (disch := try exact dis1) only [evD, Nat.reduceBEq, Nat.reduceAdd, Nat.reduceLeDiff, dF, zdj] | with_reducible intro _ | ((with_reducible apply And.intro); omega))
      unfold zeG
      (repeat first | simp (disch := try exact dis1) only [evD, Nat.reduceBEq, Nat.reduceAdd, Nat.reduceLeDiff, zcm] | with_reducible intro _ | ((with_reducible apply And.intro); omega))
      exact ⟨_, .bool _ _, rfl⟩
  · have hne : A ≠ B := fun e => hl (by rw [e])
    rw [decide_eq_false hne]
    (repeat first | simp (disch := try exact dis1) only [evD, Nat.reduceBEq, Nat.reduceAdd, Nat.reduceLeDiff, dT, zdj, zcm] | with_reducible intro _ | ((with_reducible apply And.intro); omega))
    exact ⟨_, .bool _ _, rfl⟩
theorem zjd (b : Bl) : zC Tryz.prog zdM [.agg b.cells] (· = za (zz b.stmts)) := by
  refine fn_x zjz rfl ?_
  unfold zfx
  have hB := hBig
  obtain ⟨ad, l⟩ := b
  simp only [Bl.cells]
  by_cases h0 : l.length = 0
  · obtain rfl : l = [] := List.eq_nil_of_length_eq_zero h0
    (repeat first | simp (disch := try exact dis1) only [evD, Nat.reduceBEq, Nat.reduceAdd, Nat.reduceLeDiff, fldP, dT, List.length_nil, zdo] | with_reducible intro _ | ((with_reducible apply And.intro); omega))
    exact ⟨_, zU (l := []) trivial rfl (by simp only [List.length_nil]; omega), rfl⟩
  have hlast : l.length - 1 < l.length := by omega
  have hidx : (((l.length : Nat) : Int) - 1).toNat = l.length - 1 := by omega
  have hg := zt (f := St.cells) (d := []) hlast
  have ht := zlV l[l.length - 1]
  rw [zgY hlast]
  generalize l[l.length - 1] = s at hg ht ⊢
  (repeat first | simp (disch := try exact dis1) only [evD, Nat.reduceBEq, Nat.reduceAdd, Nat.reduceLeDiff, fldP, dT, dF, hidx, hg, St.len, St.eight] | with_reducible intro _ | ((with_reducible apply And.intro); omega))
  refine zm (zn ht rfl) ?_
  (repeat first | simp (disch := try exact dis1) only [evD, Nat.reduceBEq, Nat.reduceAdd, Nat.reduceLeDiff, zdo] | with_reducible intro _ | ((with_reducible apply And.intro); omega))
  exact ⟨_, zJ rfl, rfl⟩
def zfe : ACode := (.seq (.region [ (oN 39 (.mov (.t 9))), (oN 40 (.len (.t 39))), (oN 41 (.mov (.t 6))), (oN 42 (.mov (.t 8))), (oN 43 (.idx 1 (.t 41) (.t 42))), (oN 44 (.load false 1 (.t 43))), (oN 45 (.len (.t 44))), (oN 46 (.bin .neq (.t 40) (.t 45)))] [39, 40, 41, 42, 43, 44, 45]) (.cond (.t 46) (.seq (.region [ (oN 47 (.mov (.t 6))), (oN 48 (.mov (.t 8))), (oN 49 (.mov (.t 9))), (oN 50 (.idx 1 (.t 47) (.t 48))), ⟨none, .store 1 (.t 50) (.t 49), none⟩] [7, 9, 46, 47, 48, 49, 50]) (.region [ (oN 7 (.mov (.c (.bool true))))] [])) (.skip)))
def zds : ACode := (.region [ (oN 23 (.mov (.t 8))), (oN 24 (.bin .sub (.t 23) (.c (.int .i64 1)))), (oN 8 (.mov (.t 24)))] [9, 23, 24, 46])
def zfp : ACode := .seq (.seq (.region [ (oN 21 (.mov (.t 8))), (oN 22 (.bin .geq (.t 21) (.c (.int .i64 0))))] [21]) (.cond (.t 22) (.skip) (.exit 2))) (.seq (.block 3 (.seq (.draw ( .step (oN 25 (.fldaddr 1 1 (.t 2))) ( .step (oN 27 (.mov (.t 8))) ( .step (oN 30 (.fldaddr 1 1 (.t 2))) ( .step (oN 32 (.mov (.t 8))) ( .step (oN 35 (.mov (.t 6))) ( .step (oN 37 (.mov (.t 1))) ( .alt (oN 26 (.load false 1 (.t 25))) ( .alt (oN 28 (.idx 2 (.t 26) (.t 27))) ( .alt (oN 29 (.load true 2 (.t 28))) ( .alt (oN 31 (.load false 1 (.t 30))) ( .alt (oN 33 (.idx 2 (.t 31) (.t 32))) ( .step (oN 34 (.load true 2 (.t 33))) ( .alt (oN 36 (.call zN [(.t 34), (.t 35)])) ( .step (oN 38 (.callq zG [(.t 29), (.t 36), (.t 37)])) ( .step (oN 9 (.mov (.t 38))) ( .done))) ( .stop))) ( .stop)) ( .stop)) ( .alt (oN 31 (.load false 1 (.t 30))) ( .alt (oN 29 (.load true 2 (.t 28))) ( .alt (oN 33 (.idx 2 (.t 31) (.t 32))) ( .step (oN 34 (.load true 2 (.t 33))) ( .alt (oN 36 (.call zN [(.t 34), (.t 35)])) ( .step (oN 38 (.callq zG [(.t 29), (.t 36), (.t 37)])) ( .step (oN 9 (.mov (.t 38))) ( .done))) ( .stop))) ( .stop)) ( .alt (oN 33 (.idx 2 (.t 31) (.t 32))) ( .step (oN 34 (.load true 2 (.t 33))) ( .alt (oN 29 (.load true 2 (.t 28))) ( .alt (oN 36 (.call zN [(.t 34), (.t 35)])) ( .step (oN 38 (.callq zG [(.t 29), (.t 36), (.t 37)])) ( .step (oN 9 (.mov (.t 38))) ( .done))) ( .stop)) ( .alt (oN 36 (.call zN [(.t 34), (.t 35)])) ( .step (oN 29 (.load true 2 (.t 28))) ( .step (oN 38 (.callq zG [(.t 29), (.t 36), (.t 37)])) ( .step (oN 9 (.mov (.t 38))) ( .done)))) ( .stop)))) ( .stop))) ( .stop))) ( .alt (oN 31 (.load false 1 (.t 30))) ( .alt (oN 28 (.idx 2 (.t 26) (.t 27))) ( .alt (oN 29 (.load true 2 (.t 28))) ( .alt (oN 33 (.idx 2 (.t 31) (.t 32))) ( .step (oN 34 (.load true 2 (.t 33))) ( .alt (oN 36 (.call zN [(.t 34), (.t 35)])) ( .step (oN 38 (.callq zG [(.t 29), (.t 36), (.t 37)])) ( .step (oN 9 (.mov (.t 38))) ( .done))) ( .stop))) ( .stop)) ( .alt (oN 33 (.idx 2 (.t 31) (.t 32))) ( .step (oN 34 (.load true 2 (.t 33))) ( .alt (oN 29 (.load true 2 (.t 28))) ( .alt (oN 36 (.call zN [(.t 34), (.t 35)])) ( .step (oN 38 (.callq zG [(.t 29), (.t 36), (.t 37)])) ( .step (oN 9 (.mov (.t 38))) ( .done))) ( .stop)) ( .alt (oN 36 (.call zN [(.t 34), (.t 35)])) ( .step (oN 29 (.load true 2 (.t 28))) ( .step (oN 38 (.callq zG [(.t 29), (.t 36), (.t 37)])) ( .step (oN 9 (.mov (.t 38))) ( .done)))) ( .stop)))) ( .stop))) ( .alt (oN 33 (.idx 2 (.t 31) (.t 32))) ( .step (oN 34 (.load true 2 (.t 33))) ( .alt (oN 28 (.idx 2 (.t 26) (.t 27))) ( .alt (oN 29 (.load true 2 (.t 28))) ( .alt (oN 36 (.call zN [(.t 34), (.t 35)])) ( .step (oN 38 (.callq zG [(.t 29), (.t 36), (.t 37)])) ( .step (oN 9 (.mov (.t 38))) ( .done))) ( .stop)) ( .alt (oN 36 (.call zN [(.t 34), (.t 35)])) ( .step (oN 29 (.load true 2 (.t 28))) ( .step (oN 38 (.callq zG [(.t 29), (.t 36), (.t 37)])) ( .step (oN 9 (.mov (.t 38))) ( .done)))) ( .stop))) ( .alt (oN 36 (.call zN [(.t 34), (.t 35)])) ( .step (oN 28 (.idx 2 (.t 26) (.t 27))) ( .step (oN 29 (.load true 2 (.t 28))) ( .step (oN 38 (.callq zG [(.t 29), (.t 36), (.t 37)])) ( .step (oN 9 (.mov (.t 38))) ( .done))))) ( .stop)))) ( .stop))) ( .stop))) ( .alt (oN 31 (.load false 1 (.t 30))) ( .alt (oN 26 (.load false 1 (.t 25))) ( .alt (oN 28 (.idx 2 (.t 26) (.t 27))) ( .alt (oN 29 (.load true 2 (.t 28))) ( .alt (oN 33 (.idx 2 (.t 31) (.t 32))) ( .step (oN 34 (.load true 2 (.t 33))) ( .alt (oN 36 (.call zN [(.t 34), (.t 35)])) ( .step (oN 38 (.callq zG [(.t 29), (.t 36), (.t 37)])) ( .step (oN 9 (.mov (.t 38))) ( .done))) ( .stop))) ( .stop)) ( .alt (oN 33 (.idx 2 (.t 31) (.t 32))) ( .step (oN 34 (.load true 2 (.t 33))) ( .alt (oN 29 (.load true 2 (.t 28))) ( .alt (oN 36 (.call zN [(.t 34), (.t 35)])) ( .step (oN 38 (.callq zG [(.t 29), (.t 36), (.t 37)])) ( .step (oN 9 (.mov (.t 38))) ( .done))) ( .stop)) ( .alt (oN 36 (.call zN [(.t 34), (.t 35)])) ( .step (oN 29 (.load true 2 (.t 28))) ( .step (oN 38 (.callq zG [(.t 29), (.t 36), (.t 37)])) ( .step (oN 9 (.mov (.t 38))) ( .done)))) ( .stop)))) ( .stop))) ( .alt (oN 33 (.idx 2 (.t 31) (.t 32))) ( .step (oN 34 (.load true 2 (.t 33))) ( .alt (oN 28 (.idx 2 (.t 26) (.t 27))) ( .alt (oN 29 (.load true 2 (.t 28))) ( .alt (oN 36 (.call zN [(.t 34), (.t 35)])) ( .step (oN 38 (.callq zG [(.t 29), (.t 36), (.t 37)])) ( .step (oN 9 (.mov (.t 38))) ( .done))) ( .stop)) ( .alt (oN 36 (.call zN [(.t 34), (.t 35)])) ( .step (oN 29 (.load true 2 (.t 28))) ( .step (oN 38 (.callq zG [(.t 29), (.t 36), (.t 37)])) ( .step (oN 9 (.mov (.t 38))) ( .done)))) ( .stop))) ( .alt (oN 36 (.call zN [(.t 34), (.t 35)])) ( .step (oN 28 (.idx 2 (.t 26) (.t 27))) ( .step (oN 29 (.load true 2 (.t 28))) ( .step (oN 38 (.callq zG [(.t 29), (.t 36), (.t 37)])) ( .step (oN 9 (.mov (.t 38))) ( .done))))) ( .stop)))) ( .stop))) ( .alt (oN 33 (.idx 2 (.t 31) (.t 32))) ( .step (oN 34 (.load true 2 (.t 33))) ( .alt (oN 26 (.load false 1 (.t 25))) ( .alt (oN 28 (.idx 2 (.t 26) (.t 27))) ( .alt (oN 29 (.load true 2 (.t 28))) ( .alt (oN 36 (.call zN [(.t 34), (.t 35)])) ( .step (oN 38 (.callq zG [(.t 29), (.t 36), (.t 37)])) ( .step (oN 9 (.mov (.t 38))) ( .done))) ( .stop)) ( .alt (oN 36 (.call zN [(.t 34), (.t 35)])) ( .step (oN 29 (.load true 2 (.t 28))) ( .step (oN 38 (.callq zG [(.t 29), (.t 36), (.t 37)])) ( .step (oN 9 (.mov (.t 38))) ( .done)))) ( .stop))) ( .alt (oN 36 (.call zN [(.t 34), (.t 35)])) ( .step (oN 28 (.idx 2 (.t 26) (.t 27))) ( .step (oN 29 (.load true 2 (.t 28))) ( .step (oN 38 (.callq zG [(.t 29), (.t 36), (.t 37)])) ( .step (oN 9 (.mov (.t 38))) ( .done))))) ( .stop))) ( .alt (oN 36 (.call zN [(.t 34), (.t 35)])) ( .step (oN 26 (.load false 1 (.t 25))) ( .step (oN 28 (.idx 2 (.t 26) (.t 27))) ( .step (oN 29 (.load true 2 (.t 28))) ( .step (oN 38 (.callq zG [(.t 29), (.t 36), (.t 37)])) ( .step (oN 9 (.mov (.t 38))) ( .done)))))) ( .stop)))) ( .stop))) ( .stop))))))))) [22, 25, 26, 27, 28, 29, 30, 31, 32, 33, 34, 35, 36, 37, 38]) (zfe))) (zds))
def zhU : ACode := .seq (.seq (.region [ (oN 16 (.mov (.t 7)))] [7]) (.cond (.t 16) (.skip) (.exit 0))) (.block 1 (.seq (.region [ (oN 7 (.mov (.c (.bool false))))] [16]) (.seq (.region [ (oN 17 (.fldaddr 1 1 (.t 2))), (oN 18 (.load false 1 (.t 17))), (oN 19 (.len (.t 18))), (oN 20 (.bin .sub (.t 19) (.c (.int .i64 1)))), (oN 8 (.mov (.t 20)))] [17, 18, 19, 20]) (.block 2 (.loop zfp)))))
def zhS : ACode := .seq (.seq (.region [ (oN 55 (.mov (.t 11))), (oN 56 (.fldaddr 1 1 (.t 2))), (oN 57 (.load false 1 (.t 56))), (oN 58 (.len (.t 57))), (oN 59 (.bin .lss (.t 55) (.t 58)))] [55, 56, 57, 58]) (.cond (.t 59) (.skip) (.exit 4))) (.seq (.block 5 (.region [ (oN 62 (.mov (.t 10))), (oN 63 (.mov (.t 11))), (oN 64 (.fldaddr 1 1 (.t 2))), (oN 65 (.load false 1 (.t 64))), (oN 66 (.mov (.t 11))), (oN 67 (.idx 2 (.t 65) (.t 66))), (oN 68 (.load true 2 (.t 67))), (oN 69 (.mov (.t 6))), (oN 70 (.call zN [(.t 68), (.t 69)])), (oN 71 (.idx 1 (.t 62) (.t 63))), ⟨none, .store 1 (.t 71) (.t 70), none⟩] [59, 62, 63, 64, 65, 66, 67, 68, 69, 70, 71])) (.region [ (oN 60 (.mov (.t 11))), (oN 61 (.bin .add (.t 60) (.c (.int .i64 1)))), (oN 11 (.mov (.t 61)))] [60, 61]))
def zh1 : ACode := .seq (.region [ (oN 72 (.mov (.t 6))), (oN 73 (.mov (.t 10))), (oN 4 (.mov (.t 72))), (oN 5 (.mov (.t 73)))] [2, 6, 10, 11, 72, 73]) (.ret)
def zhY : ACode := .seq (.region [ (oN 51 (.fldaddr 1 1 (.t 2))), (oN 52 (.load false 1 (.t 51))), (oN 53 (.len (.t 52))), (oN 54 (.mksl 1 24 [.nilsl] (.t 53) (.t 53))), (oN 10 (.mov (.t 54)))] [1, 7, 8, 51, 52, 53, 54]) (.seq (.seq (.region [ (oN 11 (.mov (.c (.int .i64 0))))] []) (.block 4 (.loop zhS))) (zh1))
def zln : ACode := .seq (.region [ (oN 2 (.rbox (.t 0))), (oN 4 (.mknil 1)), (oN 5 (.mknil 1))] [0, 4, 5]) (.seq (.region [ (oN 12 (.fldaddr 1 1 (.t 2))), (oN 13 (.load false 1 (.t 12))), (oN 14 (.len (.t 13))), (oN 15 (.mksl 1 24 [.nilsl] (.t 14) (.t 14))), (oN 6 (.mov (.t 15)))] [12, 13, 14, 15]) (.seq (.seq (.region [ (oN 7 (.mov (.c (.bool true))))] []) (.block 0 (.loop zhU))) (zhY)))
def zkv : List ARet := [.tmp 4, .tmp 5]
theorem zpB : zad Tryz.prog zi8 (qRoL [2] [(8, [0, 1, 2, 3, 4, 5, 6, 7, 8, 9, 10, 12, 13, 14, 15, 16, 17, 18, 19, 20, 21, 22, 23, 24, 25, 26, 27, 28, 29, 30, 31, 32, 33, 34, 35, 36, 37, 38, 39, 40, 41, 42, 43, 44, 45, 46, 47, 48, 49, 50, 51, 52, 53, 54, 55, 56, 57, 58, 59, 60, 61, 62, 63, 64, 65, 66, 67, 68, 69, 70, 71, 72, 73, 74, 75, 76, 77, 78, 79, 80, 81, 82, 83, 84, 85, 86, 87, 88, 89, 90, 91, 92, 93, 94, 95, 96, 97, 98, 99, 100, 101, 102, 103, 104, 105, 106, 107, 108, 109, 110, 111, 112, 113, 114, 115, 116, 117, 118, 119, 120, 121, 122, 123, 124, 125, 126, 127, 128, 129, 130, 131, 132, 133, 134, 135, 136, 137, 138, 139, 140, 141, 142, 143, 144, 145, 146, 147, 148, 149])]) = some (zln.strip, zkv, 74) := by kernel_rfl
theorem znQ (b : Bl) (a exit : List Int) (hsz : ∀ s ∈ b.stmts, zw s.e ≤ 100000) (hl : b.stmts.length ≤ 1000000) (hroom : ∀ i, i ≤ b.stmts.length → (zcO exit (b.stmts.drop i) a).length + exit.length ≤ 800000) :
    zC Tryz.prog zG [.agg b.cells, za a, za exit] (· = za (zeP exit b.stmts a)) := by
  refine fn_x znN rfl ?_
  unfold zjI
  have hB := hBig
  obtain ⟨ad, l⟩ := b
  simp only at hsz hl hroom
  unfold zeP
  simp only [Bl.cells]
  by_cases h0 : l.length = 0
  · rw [if_pos h0]
    (repeat first | simp (disch := try exact dis1) only [evD, Nat.reduceBEq, Nat.reduceAdd, Nat.reduceLeDiff, fldP, dT, zgQ] | with_reducible intro _ | ((with_reducible apply And.intro); omega))
    exact ⟨_, zU (l := []) trivial rfl (by simp only [List.length_nil]; omega), rfl⟩
  rw [if_neg h0]
  (repeat first | simp (disch := try exact dis1) only [evD, Nat.reduceBEq, Nat.reduceAdd, Nat.reduceLeDiff, fldP, dF, za] | with_reducible intro _ | ((with_reducible apply And.intro); omega))
  have hz : zcO exit (l.drop l.length) a = a := by rw [List.drop_length]; rfl
  refine zl (fun i : Nat => ([(1, za (zcO exit (l.drop i) a)), (2, za exit), (3, encP 2 [.int .u32 ad, encL 8 St.cells l]), (7, .int .i64 ((i : Int) - 1))], [])) 0 (fun i => i ≤ l.length) (fun i => i) l.length (Nat.le_refl _) (by rw [hz]; exact (Ent.tab [] [] rfl (by (try simp only [evWB, Nat.reduceBEq, Nat.reduceAdd, Nat.reduceSub, Nat.reduceLeDiff, Nat.reduceLT, implies_true, za]) <;> exact fin2) (by (try simp only [evWB, Nat.reduceBEq, Nat.reduceAdd, Nat.reduceSub, Nat.reduceLeDiff, Nat.reduceLT, implies_true, za]) <;> exact fin2))) ?_
  rintro i hi wf
  unfold zhe
  rcases Nat.eq_zero_or_pos i with rfl | hp
  · rw [List.drop_zero]
    (repeat first | simp (disch := try exact dis1) only [evD, Nat.reduceBEq, Nat.reduceAdd, Nat.reduceLeDiff, dF, Int.natCast_zero] | with_reducible intro _ | ((with_reducible apply And.intro); omega))
    unfold zgJ
    (repeat first | simp (disch := try exact dis1) only [evD, Nat.reduceBEq, Nat.reduceAdd, Nat.reduceLeDiff, zgQ] | with_reducible intro _ | ((with_reducible apply And.intro); omega))
    exact ⟨_, zJ rfl, rfl⟩
  · obtain ⟨i, rfl⟩ : ∃ k, i = k + 1 := ⟨i - 1, by omega⟩
    have hil : i < l.length := by omega
    have hgl := zt (f := St.cells) (d := []) hil
    have ei : ((i + 1 : Nat) : Int) - 1 = i := by omega
    have hr := hroom (i + 1) (by omega)
    have hst : zcO exit (l.drop i) a = zcw exit l[i] (zcO exit (l.drop (i + 1)) a) := by rw [List.drop_eq_getElem_cons hil]; rfl
    have hb := zm8 l[i] (zcO exit (l.drop (i + 1)) a) exit (hsz _ (List.getElem_mem hil)) hr
    rw [← hst] at hb
    generalize zcO exit (l.drop (i + 1)) a = c at hb ⊢
    (repeat first | simp (disch := try exact dis1) only [evD, Nat.reduceBEq, Nat.reduceAdd, Nat.reduceLeDiff, ei, dT, hgl, fldP, St.len, St.eight] | with_reducible intro _ | ((with_reducible apply And.intro); omega))
    refine zm (zn hb rfl) ?_
    (repeat first | simp (disch := try exact dis1) only [evD, Nat.reduceBEq, Nat.reduceAdd, Nat.reduceLeDiff] | with_reducible intro _ | ((with_reducible apply And.intro); omega))
    exact ⟨i, by omega, by omega, (Ent.tab [] [] rfl (by (try simp only [evWB, Nat.reduceBEq, Nat.reduceAdd, Nat.reduceSub, Nat.reduceLeDiff, Nat.reduceLT, implies_true, za]) <;> exact fin2) (by (try simp only [evWB, Nat.reduceBEq, Nat.reduceAdd, Nat.reduceSub, Nat.reduceLeDiff, Nat.reduceLT, implies_true, za]) <;> exact fin2))⟩
theorem zsp (b : Bl) (ins : List (List Int)) (hn : ins.length ≤ 1000000) (ht : (zz b.stmts).length ≤ 1000000)
    (hroom : ∀ i j, i ≤ (zz b.stmts).length → (((zz b.stmts).take i).foldl (endT ins) []).length + (ins.getD j []).length ≤ 1000000) :
    zS Tryz.prog zN [.agg b.cells, .own 0 0 0 0 ins.length] [(0, .row 1 (ins.map cLL) 0)] 1
      (fun v H nx => v = za (endB ins b.stmts) ∧ H = [(0, .row 1 (ins.map cLL) 0)] ∧ nx = 1) := by
  refine zbH (fn_x zrM rfl ?_)
  unfold zmK
  have hB := hBig
  have hsc := zjd b
  unfold endB
  generalize zz b.stmts = ts at ht hroom hsc ⊢
  obtain ⟨ad, l⟩ := b
  simp only [Bl.cells] at hsc ⊢
  (repeat first | simp (disch := try exact dis1) only [evD, Nat.reduceBEq, Nat.reduceAdd, Nat.reduceLeDiff, fldP] | with_reducible intro _ | ((with_reducible apply And.intro); omega))
  refine zm (zn hsc rfl) ?_
  (repeat first | simp (disch := try exact dis1) only [evD, Nat.reduceBEq, Nat.reduceAdd, Nat.reduceLeDiff] | with_reducible intro _ | ((with_reducible apply And.intro); omega))
  have hml : (ins.map cLL).length = ins.length := List.length_map _
  have hv1 : ∀ {H HH : AH} {σ : Nat → Nat → Option (Nat × Nat × Nat)}, H.get 2 0 = some (.row 1 [] 0) → Vw H HH σ (inD [2]) true (.own 2 0 0 0 0) (za ((ts.take 0).foldl (endT ins) [])) := fun h => zU (l := []) rfl h (by simp [big])
  refine zl (fun i : Nat => ([(1, .own 0 0 0 0 ins.length), (5, za ((ts.take i).foldl (endT ins) [])), (6, za ts), (7, .int .i64 i)], [(0, .row 1 (ins.map cLL) 0)])) 1 (fun i => i ≤ ts.length) (fun i => ts.length - i) 0 (Nat.zero_le _) (Ent.tabB [(0, 0, 0)] [2] rfl rfl rfl ⟨rfl, ⟨_, rfl, RowV.of_flat (zg (fun _ => rfl))⟩, trivial⟩ ⟨.own _ _ _ 0 _ _ _ _ _ rfl rfl, hv1 rfl, zJ rfl, .int _ _ _, trivial⟩) ?_
  rintro i hi wf
  unfold zi1
  by_cases hil : i < ts.length
  · have hgl := zt (f := cI) (d := []) hil
    have hst : (ts.take (i + 1)).foldl (endT ins) [] = endT ins ((ts.take i).foldl (endT ins) []) ts[i] := zgT hil
    have hr := fun j => hroom i j hi
    generalize (ts.take i).foldl (endT ins) [] = a at hst hr ⊢
    generalize ts[i] = t at hgl hst
    by_cases hin : 0 ≤ t ∧ t < ins.length
    · obtain ⟨t', rfl⟩ := Int.eq_ofNat_of_zero_le hin.1
      have htl : t' < ins.length := by omega
      have e1 : endT ins a (t' : Int) = zaE a ins[t'] := by unfold endT; rw [if_pos hin, List.getD_eq_getElem?_getD, Int.toNat_natCast, List.getElem?_eq_getElem htl]; rfl
      rw [e1] at hst
      have hrt := hr t'
      rw [List.getD_eq_getElem?_getD, List.getElem?_eq_getElem htl] at hrt
      have hgc : (ins.map cLL).getD t' [] = [za ins[t']] := zt (f := cLL) (d := []) htl
      (repeat first | simp (disch := try exact dis1) only [evD, Nat.reduceBEq, Nat.reduceAdd, Nat.reduceLeDiff, dT, za, hgl, hgc, hml] | with_reducible intro _ | ((with_reducible apply And.intro); omega))
      refine zm (zn (zeY a ins[t'] hrt) rfl) ?_
      (repeat first | simp (disch := try exact dis1) only [evD, Nat.reduceBEq, Nat.reduceAdd, Nat.reduceLeDiff] | with_reducible intro _ | ((with_reducible apply And.intro); omega))
      exact ⟨i + 1, by omega, by omega, (Ent.tabB [(0, 0, 0)] [] rfl rfl rfl (by (try simp only [evWB, Nat.reduceBEq, Nat.reduceAdd, Nat.reduceSub, Nat.reduceLeDiff, Nat.reduceLT, implies_true, za, hst]) <;> exact fin2) (by (try simp only [evWB, Nat.reduceBEq, Nat.reduceAdd, Nat.reduceSub, Nat.reduceLeDiff, Nat.reduceLT, implies_true, za, hst]) <;> exact fin2))⟩
    · have e1 : endT ins a t = a := if_neg hin
      rw [e1] at hst
      by_cases h0 : 0 ≤ t
      · have h1 : ¬ t < ins.length := by omega
        (repeat first | simp (disch := try exact dis1) only [evD, Nat.reduceBEq, Nat.reduceAdd, Nat.reduceLeDiff, dT, dF, za, hgl, hml] | with_reducible intro _ | ((with_reducible apply And.intro); omega))
        exact ⟨i + 1, by omega, by omega, (Ent.tabB [(0, 0, 0)] [] rfl rfl rfl (by (try simp only [evWB, Nat.reduceBEq, Nat.reduceAdd, Nat.reduceSub, Nat.reduceLeDiff, Nat.reduceLT, implies_true, za, hst]) <;> exact fin2) (by (try simp only [evWB, Nat.reduceBEq, Nat.reduceAdd, Nat.reduceSub, Nat.reduceLeDiff, Nat.reduceLT, implies_true, za, hst]) <;> exact fin2))⟩
      · (repeat first | simp (disch := try exact dis1) only [evD, Nat.reduceBEq, Nat.reduceAdd, Nat.reduceLeDiff, dT, dF, za, hgl, hml] | with_reducible intro _ | ((with_reducible apply And.intro); omega))
        exact ⟨i + 1, by omega, by omega, (Ent.tabB [(0, 0, 0)] [] rfl rfl rfl (by (try simp only [evWB, Nat.reduceBEq, Nat.reduceAdd, Nat.reduceSub, Nat.reduceLeDiff, Nat.reduceLT, implies_true, za, hst]) <;> exact fin2) (by (try simp only [evWB, Nat.reduceBEq, Nat.reduceAdd, Nat.reduceSub, Nat.reduceLeDiff, Nat.reduceLT, implies_true, za, hst]) <;> exact fin2))⟩
  · rw [List.take_of_length_le (by omega)]
    (repeat first | simp (disch := try exact dis1) only [evD, Nat.reduceBEq, Nat.reduceAdd, Nat.reduceLeDiff, dF, za] | with_reducible intro _ | ((with_reducible apply And.intro); omega))
    unfold zix
    (repeat first | simp (disch := try exact dis1) only [evD, Nat.reduceBEq, Nat.reduceAdd, Nat.reduceLeDiff, zmq] | with_reducible intro _ | ((with_reducible apply And.intro); omega))
    exact ⟨za (ts.foldl (endT ins) []), [(0, .row 1 (ins.map cLL) 0)], 1, (Ent.tabB [(0, 0, 0)] [] rfl rfl rfl (by (try simp only [evWB, Nat.reduceBEq, Nat.reduceAdd, Nat.reduceSub, Nat.reduceLeDiff, Nat.reduceLT, implies_true, za]) <;> exact fin2) (by (try simp only [evWB, Nat.reduceBEq, Nat.reduceAdd, Nat.reduceSub, Nat.reduceLeDiff, Nat.reduceLT, implies_true, za]) <;> exact fin2)), rfl, rfl, rfl⟩
theorem zpH {U l : List Int} (hl : Asc l) (h : ∀ x ∈ l, x ∈ U) : l.length ≤ U.length := List.Nodup.length_le_of_subset (ziD hl) h
structure FewV (exit : List Int) (bl : List Bl) : Prop where
  sz : ∀ b ∈ bl, ∀ s ∈ b.stmts, zw s.e ≤ 100000
  len : bl.length ≤ 1000000
  stmts : ∀ b ∈ bl, b.stmts.length ≤ 1000000
  ts : ∀ b ∈ bl, (zz b.stmts).length ≤ 1000000
  uni : (univ exit bl).length + exit.length ≤ 400000
theorem FewV.end {exit : List Int} {bl : List Bl} (h : FewV exit bl) {ins : List (List Int)} (hi : LInvU exit bl ins) {b : Bl} (hb : b ∈ bl) :
    zS Tryz.prog zN [.agg b.cells, .own 0 0 0 0 ins.length] [(0, .row 1 (ins.map cLL) 0)] 1
      (fun v H nx => v = za (endB ins b.stmts) ∧ H = [(0, .row 1 (ins.map cLL) 0)] ∧ nx = 1) := by
  have hu := h.uni
  refine zsp b ins (by rw [hi.len]; exact h.len) (h.ts b hb) fun i j _ => ?_
  have h1 := zpH (U := univ exit bl) (zle (ins := ins) (ts := (zz b.stmts).take i) (a := []) (by simp [Asc])) fun x hx => by
    rcases zk2.1 hx with h2 | ⟨t, _, _, h3⟩
    · cases h2
    · exact hi.uni _ x h3
  have h2 := zpH (hi.asc j) (hi.uni j)
  omega
theorem zoj {exit : List Int} {bl : List Bl} {b : Bl} (hb : b ∈ bl) {s : St} (hs : s ∈ b.stmts) : ∀ x ∈ zb6 s, x ∈ univ exit bl := fun x hx =>
  List.mem_append_right _ (List.mem_flatMap.2 ⟨b, hb, List.mem_flatMap.2 ⟨s, hs, hx⟩⟩)
theorem zlr {exit : List Int} {bl : List Bl} {a : List Int} (ha : ∀ x ∈ a, x ∈ univ exit bl) : ∀ {l : List St}, (∀ s ∈ l, ∀ x ∈ zb6 s, x ∈ univ exit bl) → ∀ x ∈ zcO exit l a, x ∈ univ exit bl
  | [], _, x, hx => ha x hx
  | s :: l, h, x, hx => by
    have hx : x ∈ zcw exit s (zcO exit l a) := hx
    rcases zeJ.1 hx with ⟨h1, _⟩ | h1 | ⟨_, h1⟩
    · exact zlr ha (fun s hs => h s (List.mem_cons_of_mem _ hs)) x h1
    · exact h s (by simp) x h1
    · exact List.mem_append_left _ h1
theorem FewV.begin {exit : List Int} {bl : List Bl} (h : FewV exit bl) {a : List Int} (ha : Asc a) (hu : ∀ x ∈ a, x ∈ univ exit bl) {b : Bl} (hb : b ∈ bl) :
    zC Tryz.prog zG [.agg b.cells, za a, za exit] (· = za (zeP exit b.stmts a)) := by
  have h0 := h.uni
  refine znQ b a exit (h.sz b hb) (h.stmts b hb) fun i _ => ?_
  have := zpH (U := univ exit bl) (zjc (exit := exit) (l := b.stmts.drop i) ha) (zlr hu fun s hs => zoj hb (List.mem_of_mem_drop hs))
  omega
theorem zuj {exit : List Int} {bl : List Bl} {ins : List (List Int)} (hi : LInvU exit bl ins) {l : List St} : ∀ x ∈ endB ins l, x ∈ univ exit bl := fun x hx => by
  obtain ⟨t, _, _, h3⟩ := zeg.1 hx
  exact hi.uni _ x h3
theorem renL {ρ : Nat → Nat} {l : List (List Int)} {g : Nat} : AObj.ren ρ (.row 1 (l.map cLL) g) = .row 1 (l.map cLL) g := by
  simp only [AObj.ren]
  rw [zfU (zg zwR)]
theorem zs1 {ins : List (List Int)} {k : Nat} {nw : List Int} : (ins.map cLL).set k [encL 1 (fun n => [.int .i64 n]) nw] = (ins.set k nw).map cLL := by
  rw [List.map_set]
  rfl
theorem rl_m0 {Q : QT} (exit : List Int) (bl : List Bl) (ad : Int) (ins : List (List Int)) (nw : List Int) (k : Nat) (hki : k < ins.length) (hil : ins.length = bl.length) (hlen : bl.length ≤ 1000000) (c : Bool)
    (hfin : ∀ K H nx, Ent 0 K H nx [(1, za exit), (2, encP 2 [.int .u32 ad, encL 2 Bl.cells bl]), (6, .own 0 0 0 0 bl.length), (7, .bool (if nw.length = ins[k].length then c else true)), (8, .int .i64 ((k : Int) - 1))] [(0, .row 1 ((if nw.length = ins[k].length then ins else ins.set k nw).map cLL) 0)] 1 → Q .normal K H nx) :
    wpX Tryz.prog 0 zfe (za3 3 (seqQ Tryz.prog 0 zds Q)) [(1, za exit), (2, encP 2 [.int .u32 ad, encL 2 Bl.cells bl]), (6, .own 0 0 0 0 bl.length), (7, .bool c), (8, .int .i64 k), (9, za nw)] [(0, .row 1 (ins.map cLL) 0)] 2 := by
  have hB := hBig
  have hml : (ins.map cLL).length = bl.length := by rw [List.length_map]; exact hil
  have hgi : (ins.map cLL).getD k [] = [za ins[k]] := zt (f := cLL) (d := []) hki
  unfold zfe
  by_cases hq : nw.length = ins[k].length
  · simp only [if_pos hq] at hfin
    (repeat first | simp (disch := try exact dis1) only [evD, Nat.reduceBEq, Nat.reduceAdd, Nat.reduceLeDiff, za, hgi, hml, dF] | with_reducible intro _ | ((with_reducible apply And.intro); omega))
    unfold zds
    (repeat first | simp (disch := try exact dis1) only [evD, Nat.reduceBEq, Nat.reduceAdd, Nat.reduceLeDiff] | with_reducible intro _ | ((with_reducible apply And.intro); omega))
    refine hfin _ _ _ ?_
    exact (Ent.tab [(0, 0, 0)] [] rfl (by (try simp only [evWB, Nat.reduceBEq, Nat.reduceAdd, Nat.reduceSub, Nat.reduceLeDiff, Nat.reduceLT, implies_true, za]) <;> exact fin2) (by (try simp only [evWB, Nat.reduceBEq, Nat.reduceAdd, Nat.reduceSub, Nat.reduceLeDiff, Nat.reduceLT, implies_true, za]) <;> exact fin2))
  · simp only [if_neg hq] at hfin
    (repeat first | simp (disch := try exact dis1) only [evD, Nat.reduceBEq, Nat.reduceAdd, Nat.reduceLeDiff, za, hgi, hml, dT] | with_reducible intro _ | ((with_reducible apply And.intro); omega))
    unfold zds
    (repeat first | simp (disch := try exact dis1) only [evD, Nat.reduceBEq, Nat.reduceAdd, Nat.reduceLeDiff] | with_reducible intro _ | ((with_reducible apply And.intro); omega))
    refine hfin _ _ _ ?_
    exact (Ent.tab [(0, 0, 0)] [] rfl (by (try simp only [evWB, Nat.reduceBEq, Nat.reduceAdd, Nat.reduceSub, Nat.reduceLeDiff, Nat.reduceLT, implies_true, za, zs1]) <;> exact fin2) (by (try simp only [evWB, Nat.reduceBEq, Nat.reduceAdd, Nat.reduceSub, Nat.reduceLeDiff, Nat.reduceLT, implies_true, za, zs1]) <;> exact fin2))
theorem rl_l1 {Q : QT} (exit : List Int) (bl : List Bl) (ad : Int) (hf : FewV exit bl) (R ins0 : List (List Int)) (h0 : LInvU exit bl ins0) (hR : zdC exit bl bl.length ins0 = R)
    (hfin : ∀ K H nx, Ent 0 K H nx [(1, za exit), (2, encP 2 [.int .u32 ad, encL 2 Bl.cells bl]), (6, .own 0 0 0 0 bl.length), (7, .bool (decide (zaA ins0 < zaA R)))] [(0, .row 1 (R.map cLL) 0)] 1 → Q .normal K H nx)
    {K : Kn} {H : AH} {nx : Nat} (hent : Ent 0 K H nx [(1, za exit), (2, encP 2 [.int .u32 ad, encL 2 Bl.cells bl]), (6, .own 0 0 0 0 bl.length), (7, .bool false), (8, .int .i64 ((bl.length : Int) - 1))] [(0, .row 1 (ins0.map cLL) 0)] 1) :
    zhF Tryz.prog 0 zfp (za3 2 Q) K H nx := by
  have hB := hBig
  have hlen := hf.len
  refine zl (fun a : Nat × List (List Int) => ([(1, za exit), (2, encP 2 [.int .u32 ad, encL 2 Bl.cells bl]), (6, .own 0 0 0 0 bl.length), (7, .bool (decide (zaA ins0 < zaA a.2))), (8, .int .i64 ((a.1 : Int) - 1))], [(0, .row 1 (a.2.map cLL) 0)])) 1
    (fun a => a.1 ≤ bl.length ∧ zdC exit bl a.1 a.2 = R ∧ LInvU exit bl a.2 ∧ zaA ins0 ≤ zaA a.2) (fun a => a.1) (bl.length, ins0) ⟨Nat.le_refl _, hR, h0, Nat.le_refl _⟩ (by rw [dF (Nat.lt_irrefl _)]; exact hent) ?_
  rintro ⟨k, ins⟩ ⟨hk, hgo, hinv, htot⟩ wf
  simp only at hk hgo hinv htot
  have hil := hinv.len
  have hml : (ins.map cLL).length = bl.length := by rw [List.length_map]; exact hil
  unfold zfp
  rcases Nat.eq_zero_or_pos k with rfl | hp
  · have hgo : ins = R := hgo
    subst hgo
    (repeat first | simp (disch := try exact dis1) only [evD, Nat.reduceBEq, Nat.reduceAdd, Nat.reduceLeDiff, dF, Int.natCast_zero] | with_reducible intro _ | ((with_reducible apply And.intro); omega))
    refine hfin _ _ _ ?_
    exact (Ent.tab [(0, 0, 0)] [] rfl (by (try simp only [evWB, Nat.reduceBEq, Nat.reduceAdd, Nat.reduceSub, Nat.reduceLeDiff, Nat.reduceLT, implies_true, za]) <;> exact fin2) (by (try simp only [evWB, Nat.reduceBEq, Nat.reduceAdd, Nat.reduceSub, Nat.reduceLeDiff, Nat.reduceLT, implies_true, za]) <;> exact fin2))
  · obtain ⟨k, rfl⟩ : ∃ j, k = j + 1 := ⟨k - 1, by omega⟩
    have hkl : k < bl.length := by omega
    have hki : k < ins.length := by omega
    have hgl := zt (f := Bl.cells) (d := []) hkl
    have hgi : (ins.map cLL).getD k [] = [za ins[k]] := zt (f := cLL) (d := []) hki
    have ei : ((k + 1 : Nat) : Int) - 1 = k := by omega
    have hbk : (bl.map (·.stmts)).getD k [] = bl[k].stmts := zt hkl
    have hgk : ins.getD k [] = ins[k] := by rw [List.getD_eq_getElem?_getD, List.getElem?_eq_getElem hki]; rfl
    have hgo : zdC exit bl k (zdE exit bl ins k) = R := hgo
    have hst := hinv.step hkl
    obtain ⟨ts1, ts2⟩ := hinv.total_step hkl
    have hset := ziT ins k (newB exit bl ins k) hki
    have hend := hf.end hinv (List.getElem_mem hkl)
    have hbeg := hf.begin (a := endB ins bl[k].stmts) znd (zuj hinv) (List.getElem_mem hkl)
    have hnew : newB exit bl ins k = zeP exit bl[k].stmts (endB ins bl[k].stmts) := by unfold newB; rw [hbk]
    rw [← hnew] at hbeg
    have hcell : bl[k].cells.length = 2 := rfl
    have htwo := Bl.two bl[k]
    have hsub := zh8 (hinv.asc k) (zhx (exit := exit) (g := bl) (ins := ins) (i := k)) (hinv.sub k)
    rw [hgk] at hset hsub
    rw [hil] at hend
    generalize endB ins bl[k].stmts = e at hend hbeg
    unfold zdE at hgo hst ts1 ts2
    rw [hgk] at hgo hst ts1 ts2
    generalize newB exit bl ins k = nw at hbeg hgo hst ts1 ts2 hset hsub
    (repeat first | simp (disch := try exact dis1) only [evD, Nat.reduceBEq, Nat.reduceAdd, Nat.reduceLeDiff, ei, dT, hgl, fldP, hcell, htwo] | with_reducible intro _ | ((with_reducible apply And.intro); omega))
    (repeat' with_reducible apply And.intro)
    all_goals try omega
    all_goals (refine zL [(0, 0, 0)] 1 _ (hend) rfl rfl (by (try simp only [evWB, Nat.reduceBEq, Nat.reduceAdd, Nat.reduceSub, Nat.reduceLeDiff, Nat.reduceLT, implies_true]) <;> exact fin6) (by (try simp only [evWB, Nat.reduceBEq, Nat.reduceAdd, Nat.reduceSub, Nat.reduceLeDiff, Nat.reduceLT, implies_true]) <;> exact fin6) ?_; rintro _ _ _ ⟨rfl, rfl, rfl⟩; (repeat first | simp (disch := try exact dis1) only [evD, Nat.reduceBEq, Nat.reduceAdd, Nat.reduceLeDiff, renE, renL, hgl, htwo] | with_reducible intro _ | ((with_reducible apply And.intro); omega)))
    all_goals (refine za0 (zn hbeg rfl) ?_; (repeat first | simp (disch := try exact dis1) only [evD, Nat.reduceBEq, Nat.reduceAdd, Nat.reduceLeDiff] | with_reducible intro _ | ((with_reducible apply And.intro); omega)))
    all_goals refine rl_m0 exit bl ad ins nw k hki hil hlen _ ?_
    all_goals (intro K2 H2 nx2 he)
    all_goals (by_cases hq : nw.length = ins[k].length)
    all_goals first
      | (rw [if_pos hq] at hgo; simp only [if_pos hq] at he; exact ⟨(k, ins), ⟨by simp only; omega, hgo, hinv, htot⟩, by simp only; omega, he⟩)
      | (rw [if_neg hq] at hgo hst; simp only [if_neg hq] at he; rw [← dT (show zaA ins0 < zaA (ins.set k nw) by omega)] at he; exact ⟨(k, ins.set k nw), ⟨by simp only; omega, hgo, hst, by simp only; omega⟩, by simp only; omega, he⟩)
structure RunL (exit : List Int) (bl : List Bl) (ins : List (List Int)) (k : Nat) (c : Bool) : Prop where
  inv : LInvU exit bl ins
  fuel : ze1 exit bl ≤ k + zaA ins
  go : fixL exit bl k ins = zbA exit bl
  done : c = false → ins = zbA exit bl
theorem RunL.next {exit : List Int} {bl : List Bl} {ins : List (List Int)} {k : Nat} (h : RunL exit bl ins k true) :
    ∃ k', RunL exit bl (zdC exit bl bl.length ins) k' (decide (zaA ins < zaA (zdC exit bl bl.length ins))) ∧
      2 * (ze1 exit bl - zaA (zdC exit bl bl.length ins)) + (bif decide (zaA ins < zaA (zdC exit bl bl.length ins)) then 1 else 0) < 2 * (ze1 exit bl - zaA ins) + (bif true then 1 else 0) := by
  obtain ⟨i1, i2, i3⟩ := h.inv.pass (n := bl.length) (Nat.le_refl _)
  have hb := h.inv.bound
  have hb2 := i1.bound
  have hbd : ze1 exit bl = bl.length * (univ exit bl).length + 1 := rfl
  have hfu := h.fuel
  have hgo := h.go
  cases k with
  | zero => omega
  | succ k =>
  rw [fixL] at hgo
  by_cases he : zaA (zdC exit bl bl.length ins) = zaA ins
  · rw [if_pos he] at hgo
    obtain ⟨e1, e2⟩ := i3 he.symm
    rw [e1, dF (Nat.lt_irrefl _)]
    refine ⟨k + 1, ⟨h.inv, hfu, ?_, fun _ => hgo⟩, ?_⟩
    · rw [fixL, if_pos he]; exact hgo
    · simp only [cond_true, cond_false]; omega
  · rw [if_neg he] at hgo
    rw [dT (show zaA ins < zaA (zdC exit bl bl.length ins) by omega)]
    refine ⟨k, ⟨i1, by omega, hgo, fun hx => by cases hx⟩, ?_⟩
    simp only [cond_true]
    omega
theorem rowNil {bl : List Bl} {H HH : AH} {σ : Nat → Nat → Option (Nat × Nat × Nat)} {D : Nat → Nat → Prop} : RowV H HH σ D (List.replicate bl.length [.nilsl]) ((bl.map fun _ => ([] : List Int)).map cLL) := by
  refine ⟨by simp, fun i c2 hi => ?_⟩
  simp only [List.getElem?_map, Option.map_eq_some_iff] at hi
  obtain ⟨a, ⟨b, hb, rfl⟩, rfl⟩ := hi
  obtain ⟨hl, _⟩ := List.getElem?_eq_some_iff.1 hb
  refine ⟨[.nilsl], by simp [hl], rfl, fun j x y h1 h2 => ?_⟩
  cases j with
  | succ j => cases h1
  | zero => cases h1; cases h2; exact .nil0 _ _ _
theorem zqf (g : G) (exit : List Int) (hf : FewV exit g.blocks) : zC Tryz.prog zi8 [.agg g.cells, za exit] (· = .tup [zdj (zbA exit g.blocks), zdj (zj9 exit g.blocks)]) := by
  refine fn_x zpB rfl ?_
  unfold zln
  have hB := hBig
  have hlen := hf.len
  obtain ⟨ad, bl⟩ := g
  simp only at hf hlen ⊢
  (repeat first | simp (disch := try exact dis1) only [evD, Nat.reduceBEq, Nat.reduceAdd, Nat.reduceLeDiff, fldP, G.cells, za] | with_reducible intro _ | ((with_reducible apply And.intro); omega))
  have hcl : ∀ {α : Type} {f : α → List Int}, True := trivial
  refine zl (fun a : List (List Int) × Nat × Bool => ([(1, za exit), (2, encP 2 [.int .u32 ad, encL 2 Bl.cells bl]), (6, .own 0 0 0 0 bl.length), (7, .bool a.2.2)], [(0, .row 1 (a.1.map cLL) 0)])) 1
    (fun a => RunL exit bl a.1 a.2.1 a.2.2) (fun a => 2 * (ze1 exit bl - zaA a.1) + (bif a.2.2 then 1 else 0)) (bl.map fun _ => [], ze1 exit bl, true) ⟨zlO exit bl, by simp only; omega, rfl, fun h => by cases h⟩
    (Ent.tab [(0, 2, 0)] [] rfl ⟨rfl, ⟨_, rfl, rowNil⟩, trivial⟩ ⟨zJ rfl, zJ rfl, .own _ _ _ 0 _ _ _ _ _ rfl rfl, .bool _ _, trivial⟩) ?_
  rintro ⟨ins, k, c⟩ hrun wf
  simp only at hrun
  unfold zhU
  cases c with
  | true =>
    obtain ⟨k', h1, h2⟩ := hrun.next
    (repeat first | simp (disch := try exact dis1) only [evD, Nat.reduceBEq, Nat.reduceAdd, Nat.reduceLeDiff, fldP] | with_reducible intro _ | ((with_reducible apply And.intro); omega))
    refine rl_l1 exit bl ad hf _ ins hrun.inv rfl ?_ ?_
    · intro K2 H2 nx2 he
      exact ⟨(_, k', _), h1, h2, he⟩
    · exact (Ent.tab [(0, 0, 0)] [] rfl (by (try simp only [evWB, Nat.reduceBEq, Nat.reduceAdd, Nat.reduceSub, Nat.reduceLeDiff, Nat.reduceLT, implies_true, za]) <;> exact fin2) (by (try simp only [evWB, Nat.reduceBEq, Nat.reduceAdd, Nat.reduceSub, Nat.reduceLeDiff, Nat.reduceLT, implies_true, za]) <;> exact fin2))
  | false =>
    have hd := hrun.done rfl
    have hinv := hrun.inv
    subst hd
    have hil := hinv.len
    (repeat first | simp (disch := try exact dis1) only [evD, Nat.reduceBEq, Nat.reduceAdd, Nat.reduceLeDiff] | with_reducible intro _ | ((with_reducible apply And.intro); omega))
    unfold zhY
    (repeat first | simp (disch := try exact dis1) only [evD, Nat.reduceBEq, Nat.reduceAdd, Nat.reduceLeDiff, fldP] | with_reducible intro _ | ((with_reducible apply And.intro); omega))
    refine zl (fun i : Nat => ([(2, encP 2 [.int .u32 ad, encL 2 Bl.cells bl]), (6, .own 0 0 0 0 bl.length), (10, .own 1 0 0 0 bl.length), (11, .int .i64 i)], [(0, .row 1 ((zbA exit bl).map cLL) 0), (1, .row 1 (rowI (zaQ exit bl) bl.length i) 0)])) 2
      (fun i => i ≤ bl.length) (fun i => bl.length - i) 0 (Nat.zero_le _) (Ent.tab [(0, 0, 0), (1, 1, 0)] [] rfl (by (try simp only [evWB, Nat.reduceBEq, Nat.reduceAdd, Nat.reduceSub, Nat.reduceLeDiff, Nat.reduceLT, implies_true, ← za6]) <;> exact fin6) (by (try simp only [evWB, Nat.reduceBEq, Nat.reduceAdd, Nat.reduceSub, Nat.reduceLeDiff, Nat.reduceLT, implies_true, ← za6]) <;> exact fin6)) ?_
    rintro i hi wf2
    unfold zhS
    by_cases hl : i < bl.length
    · have hgl := zt (f := Bl.cells) (d := []) hl
      have hcell : bl[i].cells.length = 2 := rfl
      have htwo := Bl.two bl[i]
      have hbk : (bl.map (·.stmts)).getD i [] = bl[i].stmts := zt hl
      have hend := hf.end hinv (List.getElem_mem hl)
      have ho : endB (zbA exit bl) bl[i].stmts = zaQ exit bl i := by unfold zaQ; rw [hbk]
      rw [ho, hil] at hend
      (repeat first | simp (disch := try exact dis1) only [evD, Nat.reduceBEq, Nat.reduceAdd, Nat.reduceLeDiff, dT, hgl, fldP, hcell, htwo] | with_reducible intro _ | ((with_reducible apply And.intro); omega))
      refine zL [(0, 0, 0)] 1 _ (hend) rfl rfl (by (try simp only [evWB, Nat.reduceBEq, Nat.reduceAdd, Nat.reduceSub, Nat.reduceLeDiff, Nat.reduceLT, implies_true]) <;> exact fin6) (by (try simp only [evWB, Nat.reduceBEq, Nat.reduceAdd, Nat.reduceSub, Nat.reduceLeDiff, Nat.reduceLT, implies_true]) <;> exact fin6) ?_
      rintro _ _ _ ⟨rfl, rfl, rfl⟩
      (repeat first | simp (disch := try exact dis1) only [evD, Nat.reduceBEq, Nat.reduceAdd, Nat.reduceLeDiff, renE, renL, zqP] | with_reducible intro _ | ((with_reducible apply And.intro); omega))
      refine ⟨⟨hl, rfl, rfl⟩, i + 1, by omega, by omega, ?_⟩
      exact (Ent.tab [(0, 0, 0), (1, 1, 0)] [] rfl (by (try simp only [evWB, Nat.reduceBEq, Nat.reduceAdd, Nat.reduceSub, Nat.reduceLeDiff, Nat.reduceLT, implies_true, zdD]) <;> exact fin6) (by (try simp only [evWB, Nat.reduceBEq, Nat.reduceAdd, Nat.reduceSub, Nat.reduceLeDiff, Nat.reduceLT, implies_true, zdD]) <;> exact fin6))
    · obtain rfl : i = bl.length := by omega
      (repeat first | simp (disch := try exact dis1) only [evD, Nat.reduceBEq, Nat.reduceAdd, Nat.reduceLeDiff, dF, fldP] | with_reducible intro _ | ((with_reducible apply And.intro); omega))
      unfold zh1
      (repeat first | simp (disch := try exact dis1) only [evD, Nat.reduceBEq, Nat.reduceAdd, Nat.reduceLeDiff, zkv] | with_reducible intro _ | ((with_reducible apply And.intro); omega))
      rw [zkS]
      refine ⟨.tup [zdj (zbA exit bl), zdj (zj9 exit bl)], .tup _ _ _ rfl ?_, rfl⟩
      intro k x y h1 h2
      rcases k with _ | _ | k
      · cases h1; cases h2
        have := @zkp [(0, .row 1 ((zbA exit bl).map cLL) 0), (1, .row 1 ((zj9 exit bl).map cLL) 0)] [] nos allR false 0 0 0 (zbA exit bl) trivial rfl (by omega)
        rw [hil] at this
        exact this
      · cases h1; cases h2
        have hol : (zj9 exit bl).length = bl.length := by simp [zj9]
        have := @zkp [(0, .row 1 ((zbA exit bl).map cLL) 0), (1, .row 1 ((zj9 exit bl).map cLL) 0)] [] nos allR false 1 0 0 (zj9 exit bl) trivial rfl (by omega)
        rw [hol] at this
        exact this
      · cases h1
theorem zj3 : ∀ (l : List St) (h : l.length - 1 < l.length), zkF l = (zl7 (l[l.length - 1]'h) && !((l.take (l.length - 1)).any zl7))
  | [], h => by simp at h
  | [x], h => by
    rw [zkF, zkF]
    simp
  | x :: y :: l, h => by
    have ih := zj3 (y :: l) (by simp)
    rw [zkF, ih]
    simp only [List.length_cons, Nat.add_sub_cancel, List.isEmpty_cons, List.take_succ_cons, List.any_cons]
    have e : (x :: y :: l)[l.length + 1] = (y :: l)[l.length] := rfl
    rw [e]
    cases zl7 x <;> cases zl7 (y :: l)[l.length] <;> simp
theorem zvR {α : Type} {f : α → List AV} {H H2 : AH} {σ : Nat → Nat → Option (Nat × Nat × Nat)} {D : Nat → Nat → Prop} {t : Bool} {l : List α} {sz i n z : Nat} (hi : i ≤ l.length) (hn : n = i) (hz : z = 0) (hf : ∀ a, zE (f a) = true) :
    Vw H H2 σ D t (.sl sz n (fun a j => ((l.map f).getD (z + a) []).getD j .undef)) (encL sz f (l.take i)) := by
  subst hn hz
  have e : (l.take n).length = n := by rw [List.length_take]; omega
  unfold encL
  rw [e]
  refine .slf _ _ _ _ _ (fun a j ha hj => ?_)
  have e2 : (List.map f (List.take n l)).getD a [] = (l.map f).getD (0 + a) [] := by
    rw [Nat.zero_add, List.map_take, List.getD_eq_getElem?_getD, List.getElem?_take_of_lt ha, List.getD_eq_getElem?_getD]
  rw [e2, zt (show 0 + a < l.length by omega), List.getD_eq_getElem?_getD]
  cases hx : (f l[0 + a])[j]? with
  | none => exact .undef _ _
  | some x => exact zb0 (zaF (hf _) hx)
theorem zmJ (l : List St) : PredT (.fn (.func zbZ) []) l zl7 := ⟨_, _, rfl, by kernel_rfl, rfl, fun s _ => zgj s⟩
theorem zlY (t ad : Int) (l : List Bl) : zC Tryz.prog zd9 [.int .i64 t, encP 2 [.int .u32 ad, encL 2 Bl.cells l]] (· = .bool (!inN l.length t)) := by
  refine fn_x zl5 rfl ?_
  unfold zhW inN
  have hB := hBig
  by_cases h0 : 0 ≤ t
  · by_cases h1 : t < l.length
    · rw [decide_eq_true ⟨h0, h1⟩]
      (repeat first | simp (disch := try exact dis1) only [evD, Nat.reduceBEq, Nat.reduceAdd, Nat.reduceLeDiff, fldP, dT, dF, zdw] | with_reducible intro _ | ((with_reducible apply And.intro); omega))
      exact ⟨_, .bool _ _, rfl⟩
    · rw [decide_eq_false (fun h => h1 h.2)]
      (repeat first | simp (disch := try exact dis1) only [evD, Nat.reduceBEq, Nat.reduceAdd, Nat.reduceLeDiff, fldP, dT, dF, zdw] | with_reducible intro _ | ((with_reducible apply And.intro); omega))
      exact ⟨_, .bool _ _, rfl⟩
  · rw [decide_eq_false (fun h => h0 h.1)]
    (repeat first | simp (disch := try exact dis1) only [evD, Nat.reduceBEq, Nat.reduceAdd, Nat.reduceLeDiff, fldP, dT, dF, zdw] | with_reducible intro _ | ((with_reducible apply And.intro); omega))
    exact ⟨_, .bool _ _, rfl⟩
theorem zjW (ad : Int) (l : List Bl) (m : List Int) : PredI (.fn (.func zd9) [encP 2 [.int .u32 ad, encL 2 Bl.cells l]]) m (fun t => !inN l.length t) := ⟨_, _, rfl, by kernel_rfl, rfl, fun s _ => zlY s ad l⟩
theorem znV (g : G) (hf : fewB g) (hc : ∀ b ∈ g.blocks, ∀ s ∈ b.stmts, s.cases.length ≤ 100000000) : zC Tryz.prog zij [.agg g.cells] (· = .bool (!g.blocks.isEmpty && g.blocks.all fun b => zh5 b.stmts g.blocks.length)) := by
  refine fn_x zoO rfl ?_
  unfold zjQ
  have hB := hBig
  obtain ⟨hb, hs⟩ := hf
  obtain ⟨ad, l⟩ := g
  simp only at hb hs hc
  simp only [G.cells]
  by_cases h0 : l.length = 0
  · obtain rfl : l = [] := List.eq_nil_of_length_eq_zero h0
    (repeat first | simp (disch := try exact dis1) only [evD, Nat.reduceBEq, Nat.reduceAdd, Nat.reduceLeDiff, fldP, dT, List.length_nil, zbT] | with_reducible intro _ | ((with_reducible apply And.intro); omega))
    exact ⟨_, .bool _ _, rfl⟩
  have he : l.isEmpty = false := by cases l with | nil => simp at h0 | cons a l => rfl
  rw [he]
  generalize hR : (l.all fun b => zh5 b.stmts l.length) = R
  (repeat first | simp (disch := try exact dis1) only [evD, Nat.reduceBEq, Nat.reduceAdd, Nat.reduceLeDiff, fldP, dF] | with_reducible intro _ | ((with_reducible apply And.intro); omega))
  refine zl (fun i : Nat => ([(1, encP 2 [.int .u32 ad, encL 2 Bl.cells l]), (11, encL 2 Bl.cells l), (12, .int .i64 l.length), (13, .int .i64 i)], [])) 0 (fun i => i ≤ l.length ∧ ((l.drop i).all fun b => zh5 b.stmts l.length) = R) (fun i => l.length - i) 0 ⟨Nat.zero_le _, hR⟩ (Ent.keep rfl fin5) ?_
  rintro i ⟨hi, hgo⟩ wf
  unfold zgS
  by_cases hl : i < l.length
  · have hg : (l.map Bl.cells).getD i [] = [.int .u32 l[i].addr, encL 8 St.cells l[i].stmts] := zt hl
    have hss := zgh l[i] (hc _ (List.getElem_mem hl))
    rw [List.drop_eq_getElem_cons hl, List.all_cons] at hgo
    simp only [Bl.cells] at hss
    generalize l[i].stmts = m at hg hgo hss
    generalize l[i].addr = ad' at hg hss
    by_cases hm0 : m.length = 0
    · obtain rfl : m = [] := List.eq_nil_of_length_eq_zero hm0
      replace hgo : R = false := by rw [← hgo]; rfl
      subst hgo
      (repeat first | simp (disch := try exact dis1) only [evD, Nat.reduceBEq, Nat.reduceAdd, Nat.reduceLeDiff, fldP, dT, hg, List.length_nil, zbT] | with_reducible intro _ | ((with_reducible apply And.intro); omega))
      exact ⟨_, .bool _ _, rfl⟩
    have hlast : m.length - 1 < m.length := by omega
    have hidx : (((m.length : Nat) : Int) - 1).toNat = m.length - 1 := by omega
    have hme : m.isEmpty = false := by cases m with | nil => simp at hm0 | cons a l => rfl
    unfold zh5 at hgo
    rw [hme, zj3 m hlast] at hgo
    (repeat first | simp (disch := try exact dis1) only [evD, Nat.reduceBEq, Nat.reduceAdd, Nat.reduceLeDiff, fldP, dT, dF, hg, hidx, zt hlast, St.len, St.eight] | with_reducible intro _ | ((with_reducible apply And.intro); omega))
    refine zm (zn (zgj m[m.length - 1]) rfl) ?_
    generalize zl7 m[m.length - 1] = q at hgo
    cases q with
    | false =>
      replace hgo : R = false := by rw [← hgo]; rfl
      subst hgo
      (repeat first | simp (disch := try exact dis1) only [evD, Nat.reduceBEq, Nat.reduceAdd, Nat.reduceLeDiff, zbT] | with_reducible intro _ | ((with_reducible apply And.intro); omega))
      exact ⟨_, .bool _ _, rfl⟩
    | true =>
      (repeat first | simp (disch := try exact dis1) only [evD, Nat.reduceBEq, Nat.reduceAdd, Nat.reduceLeDiff, fldP, zlj, hidx] | with_reducible intro _ | ((with_reducible apply And.intro); omega))
      refine zm (zaC (D := noR) (zfT (m.take (m.length - 1)) _ _ (zmJ _)) (.cons (zvR (by omega) (by omega) rfl (fun _ => rfl)) (.cons (zqV (zmJ (m.take (m.length - 1)))) .nil)) (.inl rfl)) ?_
      generalize (m.take (m.length - 1)).any zl7 = q at hgo
      cases q with
      | true =>
        replace hgo : R = false := by rw [← hgo]; rfl
        subst hgo
        (repeat first | simp (disch := try exact dis1) only [evD, Nat.reduceBEq, Nat.reduceAdd, Nat.reduceLeDiff, zbT] | with_reducible intro _ | ((with_reducible apply And.intro); omega))
        exact ⟨_, .bool _ _, rfl⟩
      | false =>
        (repeat first | simp (disch := try exact dis1) only [evD, Nat.reduceBEq, Nat.reduceAdd, Nat.reduceLeDiff, fldP] | with_reducible intro _ | ((with_reducible apply And.intro); omega))
        refine zm (zn hss rfl) ?_
        (repeat first | simp (disch := try exact dis1) only [evD, Nat.reduceBEq, Nat.reduceAdd, Nat.reduceLeDiff, fldP] | with_reducible intro _ | ((with_reducible apply And.intro); omega))
        refine zm (zaC (D := noR) (zf4 (zz m) _ _ (zjW ad l _)) (.cons (zJ rfl) (.cons (zrs (zjW ad l (zz m))) .nil)) (.inl rfl)) ?_
        rw [List.all_eq_not_any_not] at hgo
        generalize ((zz m).any fun t => !inN l.length t) = q at hgo
        cases q with
        | true =>
          replace hgo : R = false := by rw [← hgo]; rfl
          subst hgo
          (repeat first | simp (disch := try exact dis1) only [evD, Nat.reduceBEq, Nat.reduceAdd, Nat.reduceLeDiff, zbT] | with_reducible intro _ | ((with_reducible apply And.intro); omega))
          exact ⟨_, .bool _ _, rfl⟩
        | false =>
          replace hgo : ((l.drop (i + 1)).all fun b => zh5 b.stmts l.length) = R := by rw [← hgo]; rfl
          (repeat first | simp (disch := try exact dis1) only [evD, Nat.reduceBEq, Nat.reduceAdd, Nat.reduceLeDiff] | with_reducible intro _ | ((with_reducible apply And.intro); omega))
          exact ⟨i + 1, ⟨by omega, hgo⟩, by omega, (Ent.tab [] [] rfl (by (try simp only [evWB, Nat.reduceBEq, Nat.reduceAdd, Nat.reduceSub, Nat.reduceLeDiff, Nat.reduceLT, implies_true]) <;> exact fin2) (by (try simp only [evWB, Nat.reduceBEq, Nat.reduceAdd, Nat.reduceSub, Nat.reduceLeDiff, Nat.reduceLT, implies_true]) <;> exact fin2))⟩
  · rw [List.drop_of_length_le (by omega)] at hgo
    replace hgo : R = true := by rw [← hgo]; rfl
    subst hgo
    (repeat first | simp (disch := try exact dis1) only [evD, Nat.reduceBEq, Nat.reduceAdd, Nat.reduceLeDiff, fldP, dF] | with_reducible intro _ | ((with_reducible apply And.intro); omega))
    unfold zgF
    (repeat first | simp (disch := try exact dis1) only [evD, Nat.reduceBEq, Nat.reduceAdd, Nat.reduceLeDiff, zbT] | with_reducible intro _ | ((with_reducible apply And.intro); omega))
    exact ⟨_, .bool _ _, rfl⟩
theorem zkc (g : G) (hf : fewB g) (hc : ∀ b ∈ g.blocks, ∀ s ∈ b.stmts, s.cases.length ≤ 100000000) : zC Tryz.prog zeo [.agg g.cells] (· = .int .i64 (zmz g)) := by
  refine fn_x zj7 rfl ?_
  unfold zgs
  have hB := hBig
  have hsh := znV g hf hc
  obtain ⟨hb, hs⟩ := hf
  obtain ⟨ad, l⟩ := g
  simp only at hb hs hsh
  simp only [G.cells, zmz, zxf] at hsh ⊢
  (repeat first | simp (disch := try exact dis1) only [evD, Nat.reduceBEq, Nat.reduceAdd, Nat.reduceLeDiff, fldP] | with_reducible intro _ | ((with_reducible apply And.intro); omega))
  refine zl (fun s : Nat × Nat => ([(1, encP 2 [.int .u32 ad, encL 2 Bl.cells l]), (3, .int .i64 s.2), (12, encL 2 Bl.cells l), (13, .int .i64 l.length), (14, .int .i64 s.1)], [])) 0 (fun s => s.1 ≤ l.length ∧ s.2 = zA (l.take s.1) ∧ s.2 ≤ 1100 * s.1) (fun s => l.length - s.1) (0, 0) ⟨Nat.zero_le _, rfl, Nat.le_refl _⟩ (Ent.keep rfl fin5) ?_
  rintro ⟨i, n⟩ ⟨hi, hct, hn⟩ wf
  simp only at hi hn hct
  unfold zer
  by_cases hl : i < l.length
  · have hg : (l.map Bl.cells).getD i [] = [.int .u32 l[i].addr, encL 8 St.cells l[i].stmts] := zt hl
    have hsl := hs l[i] (List.getElem_mem hl)
    (repeat first | simp (disch := try exact dis1) only [evD, Nat.reduceBEq, Nat.reduceAdd, Nat.reduceLeDiff, fldP, dT, hg] | with_reducible intro _ | ((with_reducible apply And.intro); omega))
    exact ⟨(i + 1, n + l[i].stmts.length), ⟨by simp only; omega, by simp only; rw [zp2 hl, hct], by simp only; omega⟩, by simp only; omega, (Ent.tab [] [] rfl (by (try simp only [evWB, Nat.reduceBEq, Nat.reduceAdd, Nat.reduceSub, Nat.reduceLeDiff, Nat.reduceLT, implies_true]) <;> exact fin2) (by (try simp only [evWB, Nat.reduceBEq, Nat.reduceAdd, Nat.reduceSub, Nat.reduceLeDiff, Nat.reduceLT, implies_true]) <;> exact fin2))⟩
  rw [List.take_of_length_le (by omega)] at hct
  (repeat first | simp (disch := try exact dis1) only [evD, Nat.reduceBEq, Nat.reduceAdd, Nat.reduceLeDiff, fldP, dF] | with_reducible intro _ | ((with_reducible apply And.intro); omega))
  unfold zeL
  by_cases h256 : 256 < l.length
  · rw [if_pos (.inl h256)]
    (repeat first | simp (disch := try exact dis1) only [evD, Nat.reduceBEq, Nat.reduceAdd, Nat.reduceLeDiff, fldP, dT, zaX] | with_reducible intro _ | ((with_reducible apply And.intro); omega))
    exact ⟨_, .int _ _ _, rfl⟩
  by_cases h1024 : 1024 < n
  · rw [if_pos (.inr (by omega))]
    (repeat first | simp (disch := try exact dis1) only [evD, Nat.reduceBEq, Nat.reduceAdd, Nat.reduceLeDiff, fldP, dT, dF, zaX] | with_reducible intro _ | ((with_reducible apply And.intro); omega))
    exact ⟨_, .int _ _ _, rfl⟩
  rw [if_neg (by omega)]
  (repeat first | simp (disch := try exact dis1) only [evD, Nat.reduceBEq, Nat.reduceAdd, Nat.reduceLeDiff, fldP, dF, zm6, tab, List.getD_cons_zero, List.getD_cons_succ] | with_reducible intro _ | ((with_reducible apply And.intro); omega))
  refine zm (zn hsh rfl) ?_
  generalize (!l.isEmpty && l.all fun b => zh5 b.stmts l.length) = q
  cases q with
  | false =>
    (repeat first | simp (disch := try exact dis1) only [evD, Nat.reduceBEq, Nat.reduceAdd, Nat.reduceLeDiff, zaX] | with_reducible intro _ | ((with_reducible apply And.intro); omega))
    exact ⟨_, .int _ _ _, rfl⟩
  | true =>
  rw [if_pos rfl]
  (repeat first | simp (disch := try exact dis1) only [evD, Nat.reduceBEq, Nat.reduceAdd, Nat.reduceLeDiff, fldP] | with_reducible intro _ | ((with_reducible apply And.intro); omega))
  refine zl (fun i : Nat => ([(36, encL 2 Bl.cells l), (37, .int .i64 l.length), (38, .int .i64 i)], [])) 0 (fun i => i ≤ l.length ∧ zjR (l.drop i) = zjR l) (fun i => l.length - i) 0 ⟨Nat.zero_le _, rfl⟩ (Ent.keep rfl fin5) ?_
  rintro i ⟨hi, hgo⟩ wf
  unfold zes
  by_cases hl : i < l.length
  · have hg : (l.map Bl.cells).getD i [] = [.int .u32 l[i].addr, encL 8 St.cells l[i].stmts] := zt hl
    have hsl := hs l[i] (List.getElem_mem hl)
    rw [zpo hl] at hgo
    (repeat first | simp (disch := try exact dis1) only [evD, Nat.reduceBEq, Nat.reduceAdd, Nat.reduceLeDiff, fldP, dT, hg] | with_reducible intro _ | ((with_reducible apply And.intro); omega))
    generalize l[i].stmts = m at hg hgo hsl
    generalize l[i].addr = ad' at hg
    refine zl (fun j : Nat => ([(36, encL 2 Bl.cells l), (37, .int .i64 l.length), (38, .int .i64 i), (43, encL 8 St.cells m), (44, .int .i64 m.length), (45, .int .i64 j)], [])) 0 (fun j => j ≤ m.length ∧ zg6 (m.drop j) = zg6 m) (fun j => m.length - j) 0 ⟨Nat.zero_le _, rfl⟩ (Ent.tab [] [] rfl (by (try simp only [evWB, Nat.reduceBEq, Nat.reduceAdd, Nat.reduceSub, Nat.reduceLeDiff, Nat.reduceLT, implies_true]) <;> exact fin2) (by (try simp only [evWB, Nat.reduceBEq, Nat.reduceAdd, Nat.reduceSub, Nat.reduceLeDiff, Nat.reduceLT, implies_true]) <;> exact fin2)) ?_
    rintro j ⟨hj, hgo2⟩ wf2
    unfold zeq
    by_cases hm : j < m.length
    · rw [zpT hm] at hgo2
      (repeat first | simp (disch := try exact dis1) only [evD, Nat.reduceBEq, Nat.reduceAdd, Nat.reduceLeDiff, fldP, dT, zt hm, St.len, St.eight, St.flat] | with_reducible intro _ | ((with_reducible apply And.intro); omega))
      refine zm (zn (zk8 m[j]) rfl) ?_
      by_cases hx : m[j].check = 0
      · rw [if_neg (by omega)] at hgo2
        (repeat first | simp (disch := try exact dis1) only [evD, Nat.reduceBEq, Nat.reduceAdd, Nat.reduceLeDiff, dF] | with_reducible intro _ | ((with_reducible apply And.intro); omega))
        exact ⟨j + 1, ⟨by omega, hgo2⟩, by omega, (Ent.tab [] [] rfl (by (try simp only [evWB, Nat.reduceBEq, Nat.reduceAdd, Nat.reduceSub, Nat.reduceLeDiff, Nat.reduceLT, implies_true]) <;> exact fin2) (by (try simp only [evWB, Nat.reduceBEq, Nat.reduceAdd, Nat.reduceSub, Nat.reduceLeDiff, Nat.reduceLT, implies_true]) <;> exact fin2))⟩
      · rw [if_pos hx] at hgo2
        rw [← hgo2, if_pos hx] at hgo
        rw [← hgo]
        (repeat first | simp (disch := try exact dis1) only [evD, Nat.reduceBEq, Nat.reduceAdd, Nat.reduceLeDiff, dT, zaX] | with_reducible intro _ | ((with_reducible apply And.intro); omega))
        exact ⟨_, .int _ _ _, rfl⟩
    · rw [List.drop_of_length_le (by omega), zg6] at hgo2
      rw [← hgo2, if_neg (by omega)] at hgo
      (repeat first | simp (disch := try exact dis1) only [evD, Nat.reduceBEq, Nat.reduceAdd, Nat.reduceLeDiff, fldP, dF] | with_reducible intro _ | ((with_reducible apply And.intro); omega))
      unfold zey
      (repeat first | simp (disch := try exact dis1) only [evD, Nat.reduceBEq, Nat.reduceAdd, Nat.reduceLeDiff] | with_reducible intro _ | ((with_reducible apply And.intro); omega))
      exact ⟨i + 1, ⟨by omega, hgo⟩, by omega, Ent.keep rfl fin5⟩
  rw [List.drop_of_length_le (by omega), zjR] at hgo
  rw [← hgo]
  (repeat first | simp (disch := try exact dis1) only [evD, Nat.reduceBEq, Nat.reduceAdd, Nat.reduceLeDiff, fldP, dF] | with_reducible intro _ | ((with_reducible apply And.intro); omega))
  unfold zen
  (repeat first | simp (disch := try exact dis1) only [evD, Nat.reduceBEq, Nat.reduceAdd, Nat.reduceLeDiff, zaX] | with_reducible intro _ | ((with_reducible apply And.intro); omega))
  exact ⟨_, .int _ _ _, rfl⟩
mutual
def zjM : Ex → Bool
  | .mk op _ _ _ l => decide (op = 18) || zkE l
def zkE : List Ex → Bool
  | [] => false
  | x :: l => zjM x || zkE l
end
theorem zlF : ∀ l : List Ex, zkE l = l.any zjM
  | [] => by rw [zkE]; rfl
  | x :: l => by rw [zkE, zlF l]; rfl
theorem zjo : ∀ (k : Nat) (e : Ex), zbu e ≤ k → zC Tryz.prog zaZ [.agg (encX e)] (· = .bool (zjM e)) := by
  intro k
  induction k with
  | zero => intro e h; obtain ⟨_, _, _, _, l⟩ := e; rw [zbu] at h; omega
  | succ k ih =>
  intro e hk
  obtain ⟨op, nn, v, w, l⟩ := e
  refine fn_x zi7 rfl ?_
  unfold zfu
  have hB := hBig
  rw [zbu] at hk
  rw [zb9, zjM, zlF]
  by_cases h1 : op = 18
  · rw [decide_eq_true h1, Bool.true_or]
    (repeat first | simp (disch := try exact dis1) only [evD, Nat.reduceBEq, Nat.reduceAdd, Nat.reduceLeDiff, fldP, dT, encP, zdq] | with_reducible intro _ | ((with_reducible apply And.intro); omega))
    exact ⟨_, .bool _ _, rfl⟩
  · rw [decide_eq_false h1, Bool.false_or]
    have hp : PredE (.fn (.func zaZ) []) l zjM := ⟨_, _, rfl, by kernel_rfl, rfl, fun s hs => ih s (by have := zcQ hs; omega)⟩
    (repeat first | simp (disch := try exact dis1) only [evD, Nat.reduceBEq, Nat.reduceAdd, Nat.reduceLeDiff, fldP, dF] | with_reducible intro _ | ((with_reducible apply And.intro); omega))
    refine zm (zaC (D := noR) (zD l _ _ hp) (.cons (zJ rfl) (.cons (zco hp) .nil)) (.inl rfl)) ?_
    (repeat first | simp (disch := try exact dis1) only [evD, Nat.reduceBEq, Nat.reduceAdd, Nat.reduceLeDiff, zdq] | with_reducible intro _ | ((with_reducible apply And.intro); omega))
    exact ⟨_, .bool _ _, rfl⟩
theorem zk0 (l : List Ex) : PredE (.fn (.func zaZ) []) l zjM := ⟨_, _, rfl, by kernel_rfl, rfl, fun s _ => zjo _ s (Nat.le_refl _)⟩
def remS (s : St) (a : List Int) : Bool := decide (s.op = 1) && (!decide (s.var ∈ a) && !s.e.any zjM)
theorem zgE (s : St) (a : MS) : zS Tryz.prog zb8 [.agg s.cells, .mp 0 0] [(0, .row 3 ((setM a.1 a.2).map cm) 0)] 1
    (fun v H nx => v = .bool (remS s a.keys) ∧ H = [(0, .row 3 ((setM a.1 a.2).map cm) 0)] ∧ nx = 1) := by
  refine zbH (fn_x zgO rfl ?_)
  unfold zdz
  have hB := hBig
  obtain ⟨c, ps⟩ := a
  obtain ⟨op, var, width, next, els, tgt, l, cs⟩ := s
  unfold remS MS.keys
  simp only
  by_cases h1 : op = 1
  · rw [decide_eq_true h1, Bool.true_and]
    by_cases hm : var ∈ ps.map (·.1)
    · obtain ⟨j, hj, hje, hf⟩ := ziv hm
      rw [decide_eq_true hm]
      (repeat first | simp (disch := try exact dis1) only [evD, Nat.reduceBEq, Nat.reduceAdd, Nat.reduceLeDiff, fldP, St.cells, za, dT, zp, hf, za2, Bool.not_true, Bool.false_and] | with_reducible intro _ | ((with_reducible apply And.intro); omega))
      exact ⟨.bool false, _, _, (Ent.tabB [(0, 0, 0)] [] rfl rfl rfl (by (try simp only [evWB, Nat.reduceBEq, Nat.reduceAdd, Nat.reduceSub, Nat.reduceLeDiff, Nat.reduceLT, implies_true, zp]) <;> exact fin6) (by (try simp only [evWB, Nat.reduceBEq, Nat.reduceAdd, Nat.reduceSub, Nat.reduceLeDiff, Nat.reduceLT, implies_true, zp]) <;> exact fin6)), rfl, rfl, rfl⟩
    · have hf := zht hm
      rw [decide_eq_false hm]
      (repeat first | simp (disch := try exact dis1) only [evD, Nat.reduceBEq, Nat.reduceAdd, Nat.reduceLeDiff, fldP, St.cells, za, dT, zp, hf] | with_reducible intro _ | ((with_reducible apply And.intro); omega))
      refine zm (zaC (D := noR) (zD l _ _ (zk0 l)) (.cons (zJ rfl) (.cons (zco (zk0 l)) .nil)) (.inl rfl)) ?_
      (repeat first | simp (disch := try exact dis1) only [evD, Nat.reduceBEq, Nat.reduceAdd, Nat.reduceLeDiff, za2, Bool.not_false, Bool.true_and] | with_reducible intro _ | ((with_reducible apply And.intro); omega))
      exact ⟨.bool (!l.any zjM), _, _, (Ent.tabB [(0, 0, 0)] [] rfl rfl rfl (by (try simp only [evWB, Nat.reduceBEq, Nat.reduceAdd, Nat.reduceSub, Nat.reduceLeDiff, Nat.reduceLT, implies_true, zp]) <;> exact fin6) (by (try simp only [evWB, Nat.reduceBEq, Nat.reduceAdd, Nat.reduceSub, Nat.reduceLeDiff, Nat.reduceLT, implies_true, zp]) <;> exact fin6)), rfl, rfl, rfl⟩
  · rw [decide_eq_false h1, Bool.false_and]
    (repeat first | simp (disch := try exact dis1) only [evD, Nat.reduceBEq, Nat.reduceAdd, Nat.reduceLeDiff, fldP, St.cells, za, dF, zp, za2] | with_reducible intro _ | ((with_reducible apply And.intro); omega))
    exact ⟨.bool false, _, _, (Ent.tabB [(0, 0, 0)] [] rfl rfl rfl (by (try simp only [evWB, Nat.reduceBEq, Nat.reduceAdd, Nat.reduceSub, Nat.reduceLeDiff, Nat.reduceLT, implies_true, zp]) <;> exact fin6) (by (try simp only [evWB, Nat.reduceBEq, Nat.reduceAdd, Nat.reduceSub, Nat.reduceLeDiff, Nat.reduceLT, implies_true, zp]) <;> exact fin6)), rfl, rfl, rfl⟩
theorem zjg : ∀ (k : Nat) (e : Ex), zbu e ≤ k → k ≤ 1000000 → zC Tryz.prog zcn [.agg (encX e)] (· = .agg (encX e)) := by
  intro k
  induction k with
  | zero => intro e h; obtain ⟨_, _, _, _, l⟩ := e; rw [zbu] at h; omega
  | succ k ih =>
  intro e hk hk2
  obtain ⟨op, nn, v, w, l⟩ := e
  refine fn_x zjh rfl ?_
  unfold zfL
  have hB := hBig
  rw [zbu] at hk
  have hll : l.length ≤ zw l := zhr l
  rw [zb9]
  (repeat first | simp (disch := try exact dis1) only [evD, Nat.reduceBEq, Nat.reduceAdd, Nat.reduceLeDiff, fldP] | with_reducible intro _ | ((with_reducible apply And.intro); omega))
  refine zl (fun i : Nat => ([(1, .ptr 0 0 0 0 0), (2, .ptr 1 0 0 0 0), (3, .own 2 0 0 0 i), (7, encL 5 encX l), (8, .int .i64 l.length), (9, .int .i64 i)], [(0, .row 5 [[.int .i64 op, .int .u32 nn, .int .i64 v, .int .i64 w, encL 5 encX l]] 0), (1, .row 5 [[.int .i64 0, .int .u32 0, .int .i64 0, .int .i64 0, .nilsl]] 0), (2, .row 5 ((l.take i).map encX) 0)])) 3
    (fun i => i ≤ l.length) (fun i => l.length - i) 0 (Nat.zero_le _) (Ent.tab [(0, 0, 0), (1, 1, 0), (2, 2, 0)] [] rfl (by (try simp only [evWB, Nat.reduceBEq, Nat.reduceAdd, Nat.reduceSub, Nat.reduceLeDiff, Nat.reduceLT, implies_true, List.take_zero]) <;> exact fin2) (by (try simp only [evWB, Nat.reduceBEq, Nat.reduceAdd, Nat.reduceSub, Nat.reduceLeDiff, Nat.reduceLT, implies_true, List.take_zero]) <;> exact fin2)) ?_
  rintro i hi wf
  unfold zdZ
  by_cases hil : i < l.length
  · have hm := zcQ (List.getElem_mem hil)
    have htk : (l.take (i + 1)).map encX = (l.take i).map encX ++ [encX l[i]] := by rw [List.take_add_one, List.getElem?_eq_getElem hil, List.map_append]; rfl
    have htl : ((l.take i).map encX).length = i := by rw [List.length_map, List.length_take]; omega
    generalize l.take i = T at htk htl ⊢
    have htT : (T.map encX).take i = T.map encX := List.take_of_length_le (by omega)
    (repeat first | simp (disch := try exact dis1) only [evD, Nat.reduceBEq, Nat.reduceAdd, Nat.reduceLeDiff, fldP, dT, zt hil, zbs, zaS, zc] | with_reducible intro _ | ((with_reducible apply And.intro); omega))
    refine zm (zn (ih l[i] (by omega) (by omega)) (flX rfl)) ?_
    (repeat first | simp (disch := try exact dis1) only [evD, Nat.reduceBEq, Nat.reduceAdd, Nat.reduceLeDiff, zbs, zaS, zc, htl, htT] | with_reducible intro _ | ((with_reducible apply And.intro); omega))
    refine ⟨i + 1, by omega, by omega, ?_⟩
    exact (Ent.tab [(0, 0, 0), (1, 1, 0), (2, 2, 1)] [] rfl (by (try simp only [evWB, Nat.reduceBEq, Nat.reduceAdd, Nat.reduceSub, Nat.reduceLeDiff, Nat.reduceLT, implies_true, htk]) <;> exact fin7) (by (try simp only [evWB, Nat.reduceBEq, Nat.reduceAdd, Nat.reduceSub, Nat.reduceLeDiff, Nat.reduceLT, implies_true, htk]) <;> exact fin7))
  · obtain rfl : i = l.length := by omega
    rw [List.take_length]
    (repeat first | simp (disch := try exact dis1) only [evD, Nat.reduceBEq, Nat.reduceAdd, Nat.reduceLeDiff, fldP, dF] | with_reducible intro _ | ((with_reducible apply And.intro); omega))
    unfold zd5
    (repeat first | simp (disch := try exact dis1) only [evD, Nat.reduceBEq, Nat.reduceAdd, Nat.reduceLeDiff, fldP] | with_reducible intro _ | ((with_reducible apply And.intro); omega))
    (repeat first | simp (disch := try exact dis1) only [evD, Nat.reduceBEq, Nat.reduceAdd, Nat.reduceLeDiff, zfE] | with_reducible intro _ | ((with_reducible apply And.intro); omega))
    refine ⟨.agg [.int .i64 op, .int .u32 nn, .int .i64 v, .int .i64 w, encL 5 encX l], .agg _ _ _ rfl (fun j a c h1 h2 => ?_), rfl⟩
    match j with
    | 0 => cases h1; cases h2; exact .int _ _ _
    | 1 => cases h1; cases h2; exact .int _ _ _
    | 2 => cases h1; cases h2; exact .int _ _ _
    | 3 => cases h1; cases h2; exact .int _ _ _
    | 4 => cases h1; cases h2; exact zrg trivial rfl (by omega)
    | j + 5 => cases h1
theorem zxh {H H2 : AH} {σ : Nat → Nat → Option (Nat × Nat × Nat)} {D : Nat → Nat → Prop} {t : Bool} {r q g : Nat} {l : List St} (hD : D r q) (hg : H.get r q = some (.row 8 (l.map St.cells) g)) (hb : l.length ≤ big) : Vw H H2 σ D t (.own r q g 0 l.length) (encL 8 St.cells l) :=
  zgK hD hg hb fun a _ j _ => by
    rw [List.getD_eq_getElem?_getD]
    cases hx : a.cells[j]? with
    | none => exact .undef _ _
    | some x => exact zb0 (zaF a.flat hx)
theorem zsY {H H2 : AH} {σ : Nat → Nat → Option (Nat × Nat × Nat)} {D : Nat → Nat → Prop} {t : Bool} {r q g : Nat} {l : List Bl} (hD : D r q) (hg : H.get r q = some (.row 2 (l.map Bl.cells) g)) (hb : l.length ≤ big) : Vw H H2 σ D t (.own r q g 0 l.length) (encL 2 Bl.cells l) :=
  zgK hD hg hb fun a _ j _ => by
    rw [List.getD_eq_getElem?_getD]
    cases hx : a.cells[j]? with
    | none => exact .undef _ _
    | some x => exact zb0 (zaF (show zE a.cells = true from rfl) hx)
theorem zsM {Q : QT} (ad ad2 : Int) (bl : List Bl) (done : List Bl) (i : Nat) (sts : List St) (j : Nat) (op var width next els tgt : Int) (l : List Ex) (cs : List Int) (hsz : zw l ≤ 100000)
    (hcs : cs.length ≤ 1000000) (hj : j < sts.length) (hjl : sts.length ≤ 1000000) (hst : sts[j] = ⟨op, var, width, next, els, tgt, l, cs⟩)
    (hfin : ∀ K H nx, Ent 0 K H nx [(2, .ptr 0 0 0 0 0), (3, .ptr 1 0 0 0 0), (6, .ptr 3 0 0 0 0), (16, encL 2 Bl.cells bl), (17, .int .i64 bl.length), (18, .int .i64 i), (26, encL 8 St.cells sts), (27, .int .i64 sts.length), (28, .int .i64 ((j + 1 : Nat) : Int))]
      [(0, .row 2 [[.int .u32 0, .nilsl]] 0), (1, .row 2 [[.int .u32 ad, .own 2 0 0 0 done.length]] 0), (2, .row 2 (done.map Bl.cells) 0), (3, .row 2 [[.int .u32 ad2, .own 4 0 0 0 (j + 1)]] 0), (4, .row 8 ((sts.take (j + 1)).map St.cells) 0)] 5 → Q .normal K H nx)
    {K : Kn} {H : AH} {nx : Nat} (hent : Ent 0 K H nx [(2, .ptr 0 0 0 0 0), (3, .ptr 1 0 0 0 0), (6, .ptr 3 0 0 0 0), (8, .ptr 5 0 0 0 0), (9, .own 6 0 0 0 0), (16, encL 2 Bl.cells bl), (17, .int .i64 bl.length), (18, .int .i64 i), (26, encL 8 St.cells sts), (27, .int .i64 sts.length), (28, .int .i64 j), (33, encL 5 encX l), (34, .int .i64 l.length), (35, .int .i64 0)]
      [(0, .row 2 [[.int .u32 0, .nilsl]] 0), (1, .row 2 [[.int .u32 ad, .own 2 0 0 0 done.length]] 0), (2, .row 2 (done.map Bl.cells) 0), (3, .row 2 [[.int .u32 ad2, .own 4 0 0 0 j]] 0), (4, .row 8 ((sts.take j).map St.cells) 0), (5, .row 8 [[.int .i64 op, .int .i64 var, .int .i64 width, .int .i64 next, .int .i64 els, .int .u32 tgt, encL 5 encX l, za cs]] 0), (6, .row 5 [] 0)] 7) :
    zhF Tryz.prog 0 zbN (za3 4 (seqQ Tryz.prog 0 zbL (za3 3 (seqQ Tryz.prog 0 zbS Q)))) K H nx := by
  have hB := hBig
  have hll : l.length ≤ zw l := zhr l
  refine zl (fun m : Nat => ([(2, .ptr 0 0 0 0 0), (3, .ptr 1 0 0 0 0), (6, .ptr 3 0 0 0 0), (8, .ptr 5 0 0 0 0), (9, .own 6 0 0 0 m), (16, encL 2 Bl.cells bl), (17, .int .i64 bl.length), (18, .int .i64 i), (26, encL 8 St.cells sts), (27, .int .i64 sts.length), (28, .int .i64 j), (33, encL 5 encX l), (34, .int .i64 l.length), (35, .int .i64 m)],
      [(0, .row 2 [[.int .u32 0, .nilsl]] 0), (1, .row 2 [[.int .u32 ad, .own 2 0 0 0 done.length]] 0), (2, .row 2 (done.map Bl.cells) 0), (3, .row 2 [[.int .u32 ad2, .own 4 0 0 0 j]] 0), (4, .row 8 ((sts.take j).map St.cells) 0), (5, .row 8 [[.int .i64 op, .int .i64 var, .int .i64 width, .int .i64 next, .int .i64 els, .int .u32 tgt, encL 5 encX l, za cs]] 0), (6, .row 5 ((l.take m).map encX) 0)])) 7
    (fun m => m ≤ l.length) (fun m => l.length - m) 0 (Nat.zero_le _) hent ?_
  rintro m hm wf
  unfold zbN
  by_cases hil : m < l.length
  · have hmm := zcQ (List.getElem_mem hil)
    have htk : (l.take (m + 1)).map encX = (l.take m).map encX ++ [encX l[m]] := by rw [List.take_add_one, List.getElem?_eq_getElem hil, List.map_append]; rfl
    have htl : ((l.take m).map encX).length = m := by rw [List.length_map, List.length_take]; omega
    generalize l.take m = T at htk htl ⊢
    generalize sts.take j = S at *
    have htT : (T.map encX).take m = T.map encX := List.take_of_length_le (by omega)
    (repeat first | simp (disch := try exact dis1) only [evD, Nat.reduceBEq, Nat.reduceAdd, Nat.reduceLeDiff, fldP, dT, zt hil, zbs, zaS, zc] | with_reducible intro _ | ((with_reducible apply And.intro); omega))
    refine zm (zn (zjg (zbu l[m]) l[m] (Nat.le_refl _) (by omega)) (flX rfl)) ?_
    (repeat first | simp (disch := try exact dis1) only [evD, Nat.reduceBEq, Nat.reduceAdd, Nat.reduceLeDiff, zbs, zaS, zc, htl, htT] | with_reducible intro _ | ((with_reducible apply And.intro); omega))
    refine ⟨m + 1, by omega, by omega, ?_⟩
    exact (Ent.tab [(0, 0, 0), (1, 1, 0), (2, 2, 0), (3, 3, 0), (4, 4, 0), (5, 5, 0), (6, 6, 1)] [] rfl (by (try simp only [evWB, Nat.reduceBEq, Nat.reduceAdd, Nat.reduceSub, Nat.reduceLeDiff, Nat.reduceLT, implies_true, htk]) <;> exact fin7) (by (try simp only [evWB, Nat.reduceBEq, Nat.reduceAdd, Nat.reduceSub, Nat.reduceLeDiff, Nat.reduceLT, implies_true, htk]) <;> exact fin7))
  · obtain rfl : m = l.length := by omega
    rw [List.take_length]
    (repeat first | simp (disch := try exact dis1) only [evD, Nat.reduceBEq, Nat.reduceAdd, Nat.reduceLeDiff, dF] | with_reducible intro _ | ((with_reducible apply And.intro); omega))
    unfold zbL
    (repeat first | simp (disch := try exact dis1) only [evD, Nat.reduceBEq, Nat.reduceAdd, Nat.reduceLeDiff] | with_reducible intro _ | ((with_reducible apply And.intro); omega))
    refine zL [] 0 _ (zoI cs (by omega)) rfl rfl (by (try simp only [evWB, Nat.reduceBEq, Nat.reduceAdd, Nat.reduceSub, Nat.reduceLeDiff, Nat.reduceLT, implies_true]) <;> exact fin1) (by (try simp only [evWB, Nat.reduceBEq, Nat.reduceAdd, Nat.reduceSub, Nat.reduceLeDiff, Nat.reduceLT, implies_true]) <;> exact fin1) ?_
    rintro _ _ _ ⟨rfl, rfl, rfl⟩
    have hl8 : ((sts.take j).map St.cells).length = j := by rw [List.length_map, List.length_take]; omega
    have hsj : sts.take (j + 1) = sts.take j ++ [⟨op, var, width, next, els, tgt, l, cs⟩] := by rw [List.take_add_one, List.getElem?_eq_getElem hj, hst]; rfl
    rw [hsj] at hfin
    generalize sts.take j = S at *
    have hS8 : (S.map St.cells).take j = S.map St.cells := List.take_of_length_le (by omega)
    (repeat first | simp (disch := try exact dis1) only [evD, Nat.reduceBEq, Nat.reduceAdd, Nat.reduceLeDiff, renI, hl8, hS8] | with_reducible intro _ | ((with_reducible apply And.intro); omega))
    unfold zbS
    (repeat first | simp (disch := try exact dis1) only [evD, Nat.reduceBEq, Nat.reduceAdd, Nat.reduceLeDiff] | with_reducible intro _ | ((with_reducible apply And.intro); omega))
    refine hfin _ _ _ ?_
    exact (Ent.tab [(0, 0, 0), (1, 1, 0), (2, 2, 0), (3, 3, 0), (4, 4, 1)] [6, 7] rfl (by (try simp only [evWB, Nat.reduceBEq, Nat.reduceAdd, Nat.reduceSub, Nat.reduceLeDiff, Nat.reduceLT, implies_true, List.map_append, List.map_cons, List.map_nil, St.cells]) <;> exact fin7) (by (try simp only [evWB, Nat.reduceBEq, Nat.reduceAdd, Nat.reduceSub, Nat.reduceLeDiff, Nat.reduceLT, implies_true, List.map_append, List.map_cons, List.map_nil, St.cells]) <;> exact fin7))
theorem ztK {Q : QT} (ad ad2 : Int) (bl : List Bl) (i : Nat) (hi : i < bl.length) (hbl : bl.length ≤ 1000000) (sts : List St) (hb : bl[i] = ⟨ad2, sts⟩) (hjl : sts.length ≤ 1000000)
    (hsz : ∀ s ∈ sts, zw s.e ≤ 100000 ∧ s.cases.length ≤ 1000000)
    (hfin : ∀ K H nx, Ent 0 K H nx [(2, .ptr 0 0 0 0 0), (3, .ptr 1 0 0 0 0), (16, encL 2 Bl.cells bl), (17, .int .i64 bl.length), (18, .int .i64 ((i + 1 : Nat) : Int))]
      [(0, .row 2 [[.int .u32 0, .nilsl]] 0), (1, .row 2 [[.int .u32 ad, .own 2 0 0 0 (i + 1)]] 0), (2, .row 2 ((bl.take (i + 1)).map Bl.cells) 0)] 3 → Q .normal K H nx)
    {K : Kn} {H : AH} {nx : Nat} (hent : Ent 0 K H nx [(2, .ptr 0 0 0 0 0), (3, .ptr 1 0 0 0 0), (6, .ptr 3 0 0 0 0), (16, encL 2 Bl.cells bl), (17, .int .i64 bl.length), (18, .int .i64 i), (26, encL 8 St.cells sts), (27, .int .i64 sts.length), (28, .int .i64 0)]
      [(0, .row 2 [[.int .u32 0, .nilsl]] 0), (1, .row 2 [[.int .u32 ad, .own 2 0 0 0 i]] 0), (2, .row 2 ((bl.take i).map Bl.cells) 0), (3, .row 2 [[.int .u32 ad2, .own 4 0 0 0 0]] 0), (4, .row 8 [] 0)] 5) :
    zhF Tryz.prog 0 zbO (za3 2 (seqQ Tryz.prog 0 zbW (za3 1 (seqQ Tryz.prog 0 zbQ Q)))) K H nx := by
  have hB := hBig
  refine zl (fun j : Nat => ([(2, .ptr 0 0 0 0 0), (3, .ptr 1 0 0 0 0), (6, .ptr 3 0 0 0 0), (16, encL 2 Bl.cells bl), (17, .int .i64 bl.length), (18, .int .i64 i), (26, encL 8 St.cells sts), (27, .int .i64 sts.length), (28, .int .i64 j)],
      [(0, .row 2 [[.int .u32 0, .nilsl]] 0), (1, .row 2 [[.int .u32 ad, .own 2 0 0 0 i]] 0), (2, .row 2 ((bl.take i).map Bl.cells) 0), (3, .row 2 [[.int .u32 ad2, .own 4 0 0 0 j]] 0), (4, .row 8 ((sts.take j).map St.cells) 0)])) 5
    (fun j => j ≤ sts.length) (fun j => sts.length - j) 0 (Nat.zero_le _) hent ?_
  rintro j hj wf
  unfold zbO
  have hdl : (bl.take i).length = i := by rw [List.length_take]; omega
  by_cases hil : j < sts.length
  · obtain ⟨z1, z2⟩ := hsz _ (List.getElem_mem hil)
    have hgs := zt (f := St.cells) (d := []) hil
    have hst : sts[j] = ⟨sts[j].op, sts[j].var, sts[j].width, sts[j].next, sts[j].els, sts[j].tgt, sts[j].e, sts[j].cases⟩ := rfl
    have hl0 := fun (Q : QT) => zsM (Q := Q) ad ad2 bl (bl.take i) i sts j sts[j].op sts[j].var sts[j].width sts[j].next sts[j].els sts[j].tgt sts[j].e sts[j].cases z1 z2 hil hjl hst
    rw [hdl] at hl0
    simp only [St.cells] at hgs
    (repeat first | simp (disch := try exact dis1) only [evD, Nat.reduceBEq, Nat.reduceAdd, Nat.reduceLeDiff, fldP, dT, hgs] | with_reducible intro _ | ((with_reducible apply And.intro); omega))
    refine hl0 _ ?_ ?_
    · intro K2 H2 nx2 he
      exact ⟨j + 1, by omega, by show sts.length - (j + 1) < sts.length - j; omega, he⟩
    · exact (Ent.tab [(0, 0, 0), (1, 1, 0), (2, 2, 0), (3, 3, 0), (4, 4, 0), (5, 5, 0), (6, 6, 0)] [] rfl (by (try simp only [evWB, Nat.reduceBEq, Nat.reduceAdd, Nat.reduceSub, Nat.reduceLeDiff, Nat.reduceLT, implies_true]) <;> exact fin7) (by (try simp only [evWB, Nat.reduceBEq, Nat.reduceAdd, Nat.reduceSub, Nat.reduceLeDiff, Nat.reduceLT, implies_true]) <;> exact fin7))
  · obtain rfl : j = sts.length := by omega
    rw [List.take_length]
    have hbk : bl.take (i + 1) = bl.take i ++ [⟨ad2, sts⟩] := by rw [List.take_add_one, List.getElem?_eq_getElem hi, hb]; rfl
    rw [hbk] at hfin
    generalize bl.take i = D at *
    have hD : (D.map Bl.cells).take i = D.map Bl.cells := List.take_of_length_le (by rw [List.length_map]; omega)
    have hDl : (D.map Bl.cells).length = i := by rw [List.length_map]; omega
    (repeat first | simp (disch := try exact dis1) only [evD, Nat.reduceBEq, Nat.reduceAdd, Nat.reduceLeDiff, dF] | with_reducible intro _ | ((with_reducible apply And.intro); omega))
    unfold zbW
    (repeat first | simp (disch := try exact dis1) only [evD, Nat.reduceBEq, Nat.reduceAdd, Nat.reduceLeDiff, hD, hDl] | with_reducible intro _ | ((with_reducible apply And.intro); omega))
    unfold zbQ
    (repeat first | simp (disch := try exact dis1) only [evD, Nat.reduceBEq, Nat.reduceAdd, Nat.reduceLeDiff] | with_reducible intro _ | ((with_reducible apply And.intro); omega))
    refine hfin _ _ _ ?_
    exact (Ent.tab [(0, 0, 0), (1, 1, 0), (2, 2, 1)] [4] rfl (by (try simp only [evWB, Nat.reduceBEq, Nat.reduceAdd, Nat.reduceSub, Nat.reduceLeDiff, Nat.reduceLT, implies_true, List.map_append, List.map_cons, List.map_nil, Bl.cells]) <;> exact fin7) (by (try simp only [evWB, Nat.reduceBEq, Nat.reduceAdd, Nat.reduceSub, Nat.reduceLeDiff, Nat.reduceLT, implies_true, List.map_append, List.map_cons, List.map_nil, Bl.cells]) <;> exact fin7))
theorem zsO (g : G) (hbl : g.blocks.length ≤ 1000000) (hst : ∀ b ∈ g.blocks, b.stmts.length ≤ 1000000) (hsz : ∀ b ∈ g.blocks, ∀ s ∈ b.stmts, zw s.e ≤ 100000 ∧ s.cases.length ≤ 1000000) :
    zS Tryz.prog zdp [.agg g.cells] [] 0 (fun v H nx => v = .agg [.int .u32 g.addr, .own 0 0 0 0 g.blocks.length] ∧ H = [(0, .row 2 (g.blocks.map Bl.cells) 0)] ∧ nx = 1) := by
  refine zbH (fn_x ziI rfl ?_)
  unfold zeU
  have hB := hBig
  obtain ⟨ad, bl⟩ := g
  simp only at hbl hst hsz ⊢
  (repeat first | simp (disch := try exact dis1) only [evD, Nat.reduceBEq, Nat.reduceAdd, Nat.reduceLeDiff, fldP, G.cells] | with_reducible intro _ | ((with_reducible apply And.intro); omega))
  refine zl (fun i : Nat => ([(2, .ptr 0 0 0 0 0), (3, .ptr 1 0 0 0 0), (16, encL 2 Bl.cells bl), (17, .int .i64 bl.length), (18, .int .i64 i)],
      [(0, .row 2 [[.int .u32 0, .nilsl]] 0), (1, .row 2 [[.int .u32 ad, .own 2 0 0 0 i]] 0), (2, .row 2 ((bl.take i).map Bl.cells) 0)])) 3
    (fun i => i ≤ bl.length) (fun i => bl.length - i) 0 (Nat.zero_le _) (Ent.tab [(0, 0, 0), (1, 1, 0)] [] rfl (by (try simp only [evWB, Nat.reduceBEq, Nat.reduceAdd, Nat.reduceSub, Nat.reduceLeDiff, Nat.reduceLT, implies_true, List.take_zero, List.map_nil]) <;> exact fin2) (by (try simp only [evWB, Nat.reduceBEq, Nat.reduceAdd, Nat.reduceSub, Nat.reduceLeDiff, Nat.reduceLT, implies_true, List.take_zero, List.map_nil]) <;> exact fin2)) ?_
  rintro i hi wf
  unfold zdF
  by_cases hil : i < bl.length
  · have hm := List.getElem_mem hil
    have hgl := zt (f := Bl.cells) (d := []) hil
    have hl3 := fun (Q : QT) => ztK (Q := Q) ad bl[i].addr bl i hil hbl bl[i].stmts rfl (hst _ hm) (hsz _ hm)
    simp only [Bl.cells] at hgl
    (repeat first | simp (disch := try exact dis1) only [evD, Nat.reduceBEq, Nat.reduceAdd, Nat.reduceLeDiff, fldP, dT, hgl] | with_reducible intro _ | ((with_reducible apply And.intro); omega))
    refine hl3 _ ?_ ?_
    · intro K2 H2 nx2 he
      exact ⟨i + 1, by omega, by show bl.length - (i + 1) < bl.length - i; omega, he⟩
    · exact (Ent.tab [(0, 0, 0), (1, 1, 0), (2, 2, 0), (3, 4, 0)] [] rfl (by (try simp only [evWB, Nat.reduceBEq, Nat.reduceAdd, Nat.reduceSub, Nat.reduceLeDiff, Nat.reduceLT, implies_true]) <;> exact fin7) (by (try simp only [evWB, Nat.reduceBEq, Nat.reduceAdd, Nat.reduceSub, Nat.reduceLeDiff, Nat.reduceLT, implies_true]) <;> exact fin7))
  · obtain rfl : i = bl.length := by omega
    rw [List.take_length]
    (repeat first | simp (disch := try exact dis1) only [evD, Nat.reduceBEq, Nat.reduceAdd, Nat.reduceLeDiff, dF] | with_reducible intro _ | ((with_reducible apply And.intro); omega))
    unfold zdA
    (repeat first | simp (disch := try exact dis1) only [evD, Nat.reduceBEq, Nat.reduceAdd, Nat.reduceLeDiff, ze6] | with_reducible intro _ | ((with_reducible apply And.intro); omega))
    exact ⟨.agg [.int .u32 ad, .own 0 0 0 0 bl.length], [(0, .row 2 (bl.map Bl.cells) 0)], 1, (Ent.tab [(0, 2, 0)] [] rfl (by (try simp only [evWB, Nat.reduceBEq, Nat.reduceAdd, Nat.reduceSub, Nat.reduceLeDiff, Nat.reduceLT, implies_true]) <;> exact fin7) (by (try simp only [evWB, Nat.reduceBEq, Nat.reduceAdd, Nat.reduceSub, Nat.reduceLeDiff, Nat.reduceLT, implies_true]) <;> exact fin7)), rfl, rfl, rfl⟩
def ziO (exit : List Int) : List St → List Int → List St × List Int
  | [], a => ([], a)
  | s :: l, a => if remS s (ziO exit l a).2 = true then ziO exit l a else (s :: (ziO exit l a).1, zcw exit s (ziO exit l a).2)
def keepM (exit : List Int) : List St → MS → List St × MS
  | [], a => ([], a)
  | s :: l, a => if remS s (keepM exit l a).2.keys = true then keepM exit l a else (s :: (keepM exit l a).1, zc2 exit s (keepM exit l a).2)
theorem zsE {s : St} {a b : List Int} (h : ∀ x, x ∈ a ↔ x ∈ b) : remS s a = remS s b := by
  unfold remS
  rw [decide_eq_decide.2 (h s.var)]
theorem zoU {exit : List Int} {a : MS} {e : List Int} (h : ∀ x, x ∈ a.keys ↔ x ∈ e) : ∀ l : List St, (keepM exit l a).1 = (ziO exit l e).1 ∧ ∀ x, x ∈ (keepM exit l a).2.keys ↔ x ∈ (ziO exit l e).2
  | [] => ⟨rfl, h⟩
  | s :: l => by
    obtain ⟨h1, h2⟩ := zoU h l
    unfold keepM ziO
    rw [zsE h2]
    split
    · exact ⟨h1, h2⟩
    · exact ⟨by rw [h1], zlp h2⟩
theorem zhb {exit : List Int} {e : List Int} : ∀ l : List St, ((ziO exit l e).1).Sublist l
  | [] => List.Sublist.slnil
  | s :: l => by
    unfold ziO
    split
    · exact (zhb l).cons s
    · exact (zhb l).cons_cons s
theorem zli {exit : List Int} {e : MS} : ∀ l : List St, ((keepM exit l e).1).Sublist l
  | [] => List.Sublist.slnil
  | s :: l => by
    unfold keepM
    split
    · exact (zli l).cons s
    · exact (zli l).cons_cons s
theorem zrk {exit : List Int} : ∀ {l : List St} {a : MS}, a.ok → a.1 + zaJ exit.length l ≤ 1000000 → a.2.length + zaJ exit.length l ≤ 1000000 →
    (keepM exit l a).2.ok ∧ (keepM exit l a).2.1 ≤ a.1 + zaJ exit.length l ∧ (keepM exit l a).2.2.length ≤ a.2.length + zaJ exit.length l
  | [], a, h, _, _ => ⟨h, by show a.1 ≤ a.1 + (0 : Nat); omega, Nat.le_refl _⟩
  | s :: l, a, h, h1, h2 => by
    have e : zaJ exit.length (s :: l) = zw s.e + exit.length + zaJ exit.length l := rfl
    rw [e] at h1 h2 ⊢
    obtain ⟨i1, i2, i3⟩ := zrk (exit := exit) (l := l) h (by omega) (by omega)
    unfold keepM
    split
    · exact ⟨i1, by omega, by omega⟩
    · obtain ⟨j1, j2, j3⟩ := zq2 (exit := exit) (s := s) i1 (by omega) (by omega)
      exact ⟨j1, by simp only; omega, by simp only; omega⟩
def blkD (exit : List Int) (bl : List Bl) (i : Nat) (b : Bl) : Bl := ⟨b.addr, (ziO exit b.stmts (zaQ exit bl i)).1⟩
def zb5 (exit : List Int) (bl : List Bl) : List Bl := bl.mapIdx (blkD exit bl)
theorem zho {exit : List Int} {bl : List Bl} : (zb5 exit bl).length = bl.length := by simp [zb5]
theorem zsI {exit : List Int} {bl : List Bl} {i : Nat} (h : i < bl.length) : (zb5 exit bl)[i]'(by rw [zho]; exact h) = blkD exit bl i bl[i] := by simp [zb5]
def SubB (a b : List Bl) : Prop := a.length = b.length ∧ ∀ i (h1 : i < a.length) (h2 : i < b.length), a[i].addr = b[i].addr ∧ (a[i].stmts).Sublist b[i].stmts
theorem SubB.rfl' {a : List Bl} : SubB a a := ⟨rfl, fun _ _ _ => ⟨rfl, List.Sublist.refl _⟩⟩
theorem SubB.trans {a b c : List Bl} (h : SubB a b) (k : SubB b c) : SubB a c := ⟨h.1.trans k.1, fun i h1 h2 => by
  obtain ⟨x1, x2⟩ := h.2 i h1 (by have := h.1; omega)
  obtain ⟨y1, y2⟩ := k.2 i (by have := h.1; omega) h2
  exact ⟨x1.trans y1, x2.trans y2⟩⟩
theorem zcI {exit : List Int} {bl : List Bl} : SubB (zb5 exit bl) bl := ⟨zho, fun i h1 h2 => by rw [zsI h2]; exact ⟨rfl, zhb _⟩⟩
theorem SubB.mem {a b : List Bl} (h : SubB a b) {x : Bl} (hx : x ∈ a) : ∃ y ∈ b, x.addr = y.addr ∧ (x.stmts).Sublist y.stmts := by
  obtain ⟨i, hi, rfl⟩ := List.mem_iff_getElem.1 hx
  have hl := h.1
  obtain ⟨h1, h2⟩ := h.2 i hi (by omega)
  exact ⟨_, List.getElem_mem _, h1, h2⟩
theorem SubB.count : ∀ {a b : List Bl}, SubB a b → zA a ≤ zA b
  | [], [], _ => Nat.le_refl _
  | [], y :: b, h => by have := h.1; simp at this
  | x :: a, [], h => by have := h.1; simp at this
  | x :: a, y :: b, h => by
    have h1 := (h.2 0 (by simp) (by simp)).2.length_le
    have h2 : SubB a b := ⟨by have := h.1; simpa using this, fun i h1 h2 => h.2 (i + 1) (by simpa using h1) (by simpa using h2)⟩
    have h3 := SubB.count h2
    simp only [List.getElem_cons_zero] at h1
    simp only [zA, List.map_cons, List.sum_cons] at h3 ⊢
    omega
theorem SubB.same : ∀ {a b : List Bl}, SubB a b → zA a = zA b → a = b
  | [], [], _, _ => rfl
  | [], y :: b, h, _ => by have := h.1; simp at this
  | x :: a, [], h, _ => by have := h.1; simp at this
  | x :: a, y :: b, h, hc => by
    obtain ⟨ha, hs⟩ := h.2 0 (by simp) (by simp)
    have h2 : SubB a b := ⟨by have := h.1; simpa using this, fun i h1 h2 => h.2 (i + 1) (by simpa using h1) (by simpa using h2)⟩
    have h3 := h2.count
    simp only [List.getElem_cons_zero] at ha hs
    have hl := hs.length_le
    simp only [zA, List.map_cons, List.sum_cons] at hc h3
    have e1 : x.stmts = y.stmts := hs.eq_of_length (by omega)
    rw [SubB.same h2 (by simp only [zA]; omega)]
    congr 1
    obtain ⟨a1, s1⟩ := x
    obtain ⟨a2, s2⟩ := y
    simp only at ha e1
    rw [ha, e1]
theorem zvl {k : Nat} {a b : List St} (h : a.Sublist b) : zaJ k a ≤ zaJ k b := by
  induction h with
  | slnil => exact Nat.le_refl _
  | cons s _ ih => show _ ≤ zw s.e + k + _; omega
  | cons_cons s _ ih => show zw s.e + k + _ ≤ zw s.e + k + _; omega
structure GoodB (U exit : List Int) (bl : List Bl) : Prop where
  he : ∀ x ∈ exit, x ∈ U
  hu : ∀ b ∈ bl, ∀ s ∈ b.stmts, ∀ x ∈ zb6 s, x ∈ U
  hsz : ∀ b ∈ bl, ∀ s ∈ b.stmts, zw s.e ≤ 100000 ∧ s.cases.length ≤ 100000
  cost : ∀ b ∈ bl, 2 * U.length + zaJ exit.length b.stmts ≤ 1000000
  cnt : zA bl ≤ 1000000
  len : bl.length ≤ 1000000
theorem znP {s : St} : (zf0 s).length ≤ s.cases.length + 2 := by
  unfold zf0
  split
  · simp
  · split
    · simp
    · split
      · omega
      · simp
theorem zgC {l : List St} {n : Nat} (h : ∀ s ∈ l, s.cases.length ≤ n) : (zz l).length ≤ n + 2 := by
  unfold zz
  split
  · simp
  · rename_i s hs
    have := h s (List.mem_of_getLast? hs)
    have := znP (s := s)
    omega
theorem zja {bl : List Bl} {b : Bl} (h : b ∈ bl) : b.stmts.length ≤ zA bl := by
  induction bl with
  | nil => cases h
  | cons x l ih =>
    simp only [zA, List.map_cons, List.sum_cons] at ih ⊢
    rcases List.mem_cons.1 h with rfl | h
    · omega
    · have := ih h; omega
theorem GoodB.univ {U exit : List Int} {bl : List Bl} (h : GoodB U exit bl) : UnivB U exit bl := by
  refine ⟨h.he, h.hu, fun b hb s hs => (h.hsz b hb s hs).1, h.cost, fun b hb => ⟨fun s hs => ?_, ?_, ?_⟩, h.len⟩
  · have := (h.hsz b hb s hs).2; omega
  · exact Nat.le_trans (zja hb) h.cnt
  · have := zgC (l := b.stmts) (n := 100000) fun s hs => (h.hsz b hb s hs).2
    omega
theorem GoodB.sub {U exit : List Int} {a b : List Bl} (h : GoodB U exit b) (k : SubB a b) : GoodB U exit a := by
  refine ⟨h.he, fun x hx s hs => ?_, fun x hx s hs => ?_, fun x hx => ?_, Nat.le_trans k.count h.cnt, by rw [k.1]; exact h.len⟩
  · obtain ⟨y, hy, _, h2⟩ := k.mem hx
    exact h.hu y hy s (h2.mem hs)
  · obtain ⟨y, hy, _, h2⟩ := k.mem hx
    exact h.hsz y hy s (h2.mem hs)
  · obtain ⟨y, hy, _, h2⟩ := k.mem hx
    have := zvl (k := exit.length) h2
    have := h.cost y hy
    omega
def zn6 (exit : List Int) : Nat → List Bl → List Bl
  | 0, bl => bl
  | k + 1, bl => if zA (zb5 exit bl) = zA bl then bl else zn6 exit k (zb5 exit bl)
theorem zog {exit : List Int} : ∀ (k : Nat) (bl : List Bl), SubB (zn6 exit k bl) bl
  | 0, bl => SubB.rfl'
  | k + 1, bl => by
    unfold zn6
    split
    · exact SubB.rfl'
    · exact (zog k _).trans zcI
theorem zmN {exit : List Int} : ∀ (k k' : Nat) (bl : List Bl), zA bl < k → zA bl < k' → zn6 exit k bl = zn6 exit k' bl
  | 0, _, bl, h, _ => absurd h (Nat.not_lt_zero _)
  | _ + 1, 0, bl, _, h => absurd h (Nat.not_lt_zero _)
  | k + 1, k' + 1, bl, h, h' => by
    unfold zn6
    split
    · rfl
    · have := (zcI (exit := exit) (bl := bl)).count
      exact zmN k k' _ (by omega) (by omega)
def zl2 (exit : List Int) (bl : List Bl) : List Bl := zn6 exit (zA bl + 1) bl
inductive SubD (exit e : List Int) : List St → List St → Prop
  | nil : SubD exit e [] []
  | keep {s : St} {x y : List St} : SubD exit e x y → SubD exit e (s :: x) (s :: y)
  | drop {s : St} {x y : List St} : SubD exit e x y → remS s (zcO exit x e) = true → SubD exit e x (s :: y)
def ztJ (exit e : List Int) : List St → List St
  | [] => []
  | s :: l => if remS s (zcO exit l e) = true then ztJ exit e l else s :: ztJ exit e l
structure RelD (exit : List Int) (x y : List Bl) : Prop where
  len : x.length = y.length
  blk : ∀ i (h1 : i < x.length) (h2 : i < y.length), x[i].addr = y[i].addr ∧ SubD exit (zaQ exit x i) x[i].stmts y[i].stmts
def ztu (exit : List Int) (bl : List Bl) : List Bl := bl.mapIdx fun i b => ⟨b.addr, ztJ exit (zaQ exit bl i) b.stmts⟩
def deadR (exit : List Int) : Nat → List Bl → List Bl
  | 0, bl => bl
  | k + 1, bl => if zA (ztu exit bl) = zA bl then ztu exit bl else deadR exit k (ztu exit bl)
structure OkG (g : G) : Prop where
  len : g.blocks.length ≤ 256
  cnt : zA g.blocks ≤ 1024
  ne : g.blocks ≠ []
  closed : ∀ b ∈ g.blocks, b.stmts ≠ [] ∧ zkF b.stmts = true ∧ ∀ t ∈ zz b.stmts, 0 ≤ t ∧ t < g.blocks.length
  chk : ∀ b ∈ g.blocks, ∀ s ∈ b.stmts, s.check = 0
def st0 : St := ⟨0, 0, 0, 0, 0, 0, [], []⟩
def revP (l : List St) (i x : Nat) : St := if x < i ∨ l.length - i ≤ x then l.getD (l.length - 1 - x) st0 else l.getD x st0
def revL (l : List St) (i : Nat) : List St := (List.range l.length).map (revP l i)
theorem zwx {l : List St} {i : Nat} : (revL l i).length = l.length := by simp [revL]
theorem zon {l : List St} : revL l 0 = l := by
  apply List.ext_getElem?
  intro x
  unfold revL revP
  by_cases hx : x < l.length
  · have : ¬ l.length ≤ x := by omega
    simp [hx, List.getD_eq_getElem?_getD, this]
  · simp [hx]
theorem zvK {l : List St} {i : Nat} (h : l.length ≤ 2 * i + 1) : revL l i = l.reverse := by
  apply List.ext_getElem?
  intro x
  unfold revL revP
  by_cases hx : x < l.length
  · rw [List.getElem?_reverse hx]
    simp only [List.getElem?_map, List.getElem?_range hx, Option.map_some]
    by_cases hc : x < i ∨ l.length - i ≤ x
    · rw [if_pos hc]
      rw [List.getD_eq_getElem?_getD, List.getElem?_eq_getElem (show l.length - 1 - x < l.length by omega)]
      rfl
    · rw [if_neg hc, show l.length - 1 - x = x by omega, List.getD_eq_getElem?_getD, List.getElem?_eq_getElem hx]
      rfl
  · simp [hx]
theorem zre {l : List St} {i x : Nat} (hx : x < l.length) : ((revL l i).map St.cells).getD x [] = (revP l i x).cells := by
  simp [revL, List.getD_eq_getElem?_getD, hx]
theorem ztU {l : List St} {i : Nat} (h : 2 * i + 1 < l.length) :
    (((revL l i).map St.cells).set i (revP l i (l.length - 1 - i)).cells).set (l.length - 1 - i) (revP l i i).cells = (revL l (i + 1)).map St.cells := by
  unfold revL
  rw [List.map_map, List.map_map, zee, zee]
  refine List.map_congr_left fun x hx => ?_
  have hx' := List.mem_range.1 hx
  unfold updF
  simp only [Function.comp]
  by_cases h1 : x = l.length - 1 - i
  · rw [if_pos h1]
    unfold revP
    rw [if_neg (by omega), if_pos (by omega), show l.length - 1 - x = i by omega]
  · rw [if_neg h1]
    by_cases h2 : x = i
    · rw [if_pos h2]
      unfold revP
      rw [if_neg (by omega), if_pos (by omega), h2]
    · rw [if_neg h2]
      unfold revP
      by_cases h3 : x < i ∨ l.length - i ≤ x
      · rw [if_pos h3, if_pos (by omega)]
      · rw [if_neg h3, if_neg (by omega)]
theorem renS {ρ : Nat → Nat} {l : List St} {g : Nat} : AObj.ren ρ (.row 8 (l.map St.cells) g) = .row 8 (l.map St.cells) g := by
  simp only [AObj.ren]
  rw [zfU (zg fun s => s.flat)]
theorem zjt (l : List St) (g : Nat) (hl : l.length ≤ 1000000) : zS Tryz.prog zae [.own 0 0 g 0 l.length] [(0, .row 8 (l.map St.cells) g)] 1
    (fun v H nx => v = .tup [] ∧ H = [(0, .row 8 (l.reverse.map St.cells) g)] ∧ nx = 1) := by
  refine zbH (fn_x zcz rfl ?_)
  unfold zaN
  have hB := hBig
  (repeat first | simp (disch := try exact dis1) only [evD, Nat.reduceBEq, Nat.reduceAdd, Nat.reduceLeDiff] | with_reducible intro _ | ((with_reducible apply And.intro); omega))
  refine zl (fun i : Nat => ([(0, .own 0 0 g 0 l.length), (2, .int .i64 i), (3, .int .i64 ((l.length : Int) - 1 - i))], [(0, .row 8 ((revL l i).map St.cells) g)])) 1 (fun i => 2 * i ≤ l.length + 1) (fun i => l.length + 1 - i) 0 (by omega) (Ent.tabB [(0, 0, 0)] [] rfl rfl rfl (by (try simp only [evWB, Nat.reduceBEq, Nat.reduceAdd, Nat.reduceSub, Nat.reduceLeDiff, Nat.reduceLT, implies_true, zon]) <;> exact fin2) (by (try simp only [evWB, Nat.reduceBEq, Nat.reduceAdd, Nat.reduceSub, Nat.reduceLeDiff, Nat.reduceLT, implies_true, zon]) <;> exact fin2)) ?_
  intro i hi wf
  unfold zaD
  (repeat first | simp (disch := try exact dis1) only [evD, Nat.reduceBEq, Nat.reduceAdd, Nat.reduceLeDiff] | with_reducible intro _ | ((with_reducible apply And.intro); omega))
  (refine zal (fun h => ?_) (fun h => ?_)) <;> (try simp only [dcd] at h)
  · have e : ((l.length : Int) - 1 - i).toNat = l.length - 1 - i := by omega
    have hsw := ztU (l := l) (i := i) (by omega)
    have g1 := zre (l := l) (i := i) (show l.length - 1 - i < l.length by omega)
    have g2 := zre (l := l) (i := i) (show i < l.length by omega)
    (repeat first | simp (disch := try exact dis1) only [evD, Nat.reduceBEq, Nat.reduceAdd, Nat.reduceLeDiff, e, zwx, g1, g2, St.len, St.eight, List.length_set] | with_reducible intro _ | ((with_reducible apply And.intro); omega))
    rw [hsw]
    exact ⟨i + 1, by omega, by omega, (Ent.tabB [(0, 0, 0)] [] rfl rfl rfl (by (try simp only [evWB, Nat.reduceBEq, Nat.reduceAdd, Nat.reduceSub, Nat.reduceLeDiff, Nat.reduceLT, implies_true]) <;> exact fin2) (by (try simp only [evWB, Nat.reduceBEq, Nat.reduceAdd, Nat.reduceSub, Nat.reduceLeDiff, Nat.reduceLT, implies_true]) <;> exact fin2))⟩
  · (repeat first | simp (disch := try exact dis1) only [evD, Nat.reduceBEq, Nat.reduceAdd, Nat.reduceLeDiff, zaP] | with_reducible intro _ | ((with_reducible apply And.intro); omega))
    refine ⟨.tup [], [(0, .row 8 (l.reverse.map St.cells) g)], 1, ?_, rfl, rfl, rfl⟩
    rw [zvK (by omega)]
    exact (Ent.tabB [(0, 0, 0)] [] rfl rfl rfl (by (try simp only [evWB, Nat.reduceBEq, Nat.reduceAdd, Nat.reduceSub, Nat.reduceLeDiff, Nat.reduceLT, implies_true]) <;> exact fin2) (by (try simp only [evWB, Nat.reduceBEq, Nat.reduceAdd, Nat.reduceSub, Nat.reduceLeDiff, Nat.reduceLT, implies_true]) <;> exact fin2))
def za5 (ad : Int) (n : Nat) (D : List Bl) (T : Nat → MS) : AH := [(0, .row 2 [[.int .u32 0, .nilsl]] 0), (1, .row 2 [[.int .u32 ad, .own 2 0 0 0 n]] 0), (2, .row 2 (D.map Bl.cells) 0), (3, .row 1 (mps 4 n) 0), (4, famS n T)]
theorem zvT {exit : List Int} {sts : List St} {i : Nat} {a : MS} (h : i < sts.length) : keepM exit (sts.drop i) a = if remS sts[i] (keepM exit (sts.drop (i + 1)) a).2.keys = true then keepM exit (sts.drop (i + 1)) a else (sts[i] :: (keepM exit (sts.drop (i + 1)) a).1, zc2 exit sts[i] (keepM exit (sts.drop (i + 1)) a).2) := by
  rw [List.drop_eq_getElem_cons h, keepM]
theorem zu3 {α : Type} {f : α → List AV} {A : List α} {a : α} {i : Nat} {c : List AV} {H HH : AH} {σ : Nat → Nat → Option (Nat × Nat × Nat)} {D : Nat → Nat → Prop} (hf : ∀ a, zE (f a) = true) (hi : i < A.length) (hl : (f a).length = c.length)
    (h : ∀ (j : Nat) (x y : AV), c[j]? = some x → (f a)[j]? = some y → Vw H HH σ D true x y) : RowV H HH σ D ((A.map f).set i c) ((A.set i a).map f) := by
  refine ⟨by simp, fun k c2 hk => ?_⟩
  rw [List.map_set] at hk
  by_cases hki : i = k
  · subst hki
    rw [List.getElem?_set_self (by simpa using hi)] at hk ⊢
    cases hk
    exact ⟨c, rfl, hl, h⟩
  · rw [List.getElem?_set_ne hki] at hk ⊢
    refine ⟨c2, hk, rfl, fun j x y h1 h2 => ?_⟩
    rw [h1] at h2
    cases h2
    obtain ⟨b, _, rfl⟩ := List.mem_map.1 (List.mem_of_getElem? hk)
    exact zb0 (zaF (hf b) h1)
theorem zrX {H HH : AH} {σ : Nat → Nat → Option (Nat × Nat × Nat)} {D : Nat → Nat → Prop} {r : Nat} {kp : List St} {x : Int} (hD : D r 0) (hg : H.get r 0 = some (.row 8 (kp.map St.cells) 0)) (hb : kp.length ≤ big) :
    ∀ (j : Nat) (a b : AV), [AV.int .u32 x, .own r 0 0 0 kp.length][j]? = some a → (Bl.cells ⟨x, kp⟩)[j]? = some b → Vw H HH σ D true a b := by
  intro j a b h1 h2
  match j with
  | 0 => cases h1; cases h2; exact .int _ _ _
  | 1 => cases h1; cases h2; exact zxh hD hg hb
  | j + 2 => cases h1
theorem zxQ {Q : QT} (ad : Int) (n b : Nat) (hb : b < n) (hn : n ≤ 1000000) (D : List Bl) (hD : D.length = n) (T : Nat → MS) (exit : List Int) (sts : List St) (a0 : MS) (r0 : Nat) (m0 : Bool)
    (hsz : ∀ s ∈ sts, zw s.e ≤ 100000) (ha : a0.ok) (h1 : a0.1 + zaJ exit.length sts ≤ 1000000) (h2 : a0.2.length + zaJ exit.length sts ≤ 1000000) (hlen : sts.length ≤ 1000000) (hr0 : r0 + sts.length ≤ 2000000)
    (hfin : ∀ K H nx, Ent 0 K H nx [(1, za exit), (4, .ptr 0 0 0 0 0), (8, .ptr 1 0 0 0 0), (9, .int .i64 ((r0 + (sts.length - (keepM exit sts a0).1.length) : Nat) : Int)), (10, .bool (m0 || decide ((keepM exit sts a0).1.length < sts.length))), (12, .own 3 0 0 0 n), (35, .int .i64 n), (36, .int .i64 ((b + 1 : Nat) : Int))]
      (za5 ad n (D.set b ⟨(D[b]'(by omega)).addr, (keepM exit sts a0).1⟩) T) 5 → Q .normal K H nx)
    {K : Kn} {H : AH} {nx : Nat} (hent : Ent 0 K H nx [(1, za exit), (4, .ptr 0 0 0 0 0), (8, .ptr 1 0 0 0 0), (9, .int .i64 r0), (10, .bool m0), (12, .own 3 0 0 0 n), (13, .int .i64 b), (14, .mp 5 0), (15, encL 8 St.cells sts), (16, .own 6 0 0 0 0), (17, .int .i64 ((sts.length : Int) - 1)), (35, .int .i64 n), (36, .int .i64 b)]
      (za5 ad n D T ++ [(5, .row 3 ((setM a0.1 a0.2).map cm) 0), (6, .row 8 [] 0)]) 7) :
    zhF Tryz.prog 0 zcr (za3 4 (seqQ Tryz.prog 0 zcu (za3 3 (seqQ Tryz.prog 0 zcB Q)))) K H nx := by
  have hB := hBig
  have hz : keepM exit (sts.drop sts.length) a0 = ([], a0) := by rw [List.drop_length]; rfl
  have hlk := fun i => (zli (exit := exit) (e := a0) (sts.drop i)).length_le
  simp only [List.length_drop] at hlk
  refine zl (fun i : Nat => ([(1, za exit), (4, .ptr 0 0 0 0 0), (8, .ptr 1 0 0 0 0), (9, .int .i64 ((r0 + (sts.length - i - (keepM exit (sts.drop i) a0).1.length) : Nat) : Int)), (10, .bool (m0 || decide ((keepM exit (sts.drop i) a0).1.length < sts.length - i))), (12, .own 3 0 0 0 n), (13, .int .i64 b), (14, .mp 5 0), (15, encL 8 St.cells sts), (16, .own 6 0 0 0 (keepM exit (sts.drop i) a0).1.length), (17, .int .i64 ((i : Int) - 1)), (35, .int .i64 n), (36, .int .i64 b)],
      za5 ad n D T ++ [(5, .row 3 ((setM (keepM exit (sts.drop i) a0).2.1 (keepM exit (sts.drop i) a0).2.2).map cm) 0), (6, .row 8 ((keepM exit (sts.drop i) a0).1.reverse.map St.cells) 0)])) 7
    (fun i => i ≤ sts.length) (fun i => i) sts.length (Nat.le_refl _) ?_ ?_
  · rw [hz]
    simp only [List.length_nil, Nat.sub_self, Nat.lt_irrefl, decide_false, Bool.or_false, Nat.add_zero, List.reverse_nil, List.map_nil]
    exact hent
  rintro i hi wf
  unfold zcr
  have hc := zkn (k := exit.length) (l := sts) (i := i)
  obtain ⟨k1, k2, k3⟩ := zrk (exit := exit) (l := sts.drop i) ha (by omega) (by omega)
  have hli := hlk i
  rcases Nat.eq_zero_or_pos i with rfl | hp
  · rw [List.drop_zero] at *
    generalize keepM exit sts a0 = R at *
    obtain ⟨kp, a⟩ := R
    simp only [Nat.sub_zero] at *
    have hrl : kp.reverse.length = kp.length := List.length_reverse
    have hrr : kp.reverse.reverse = kp := List.reverse_reverse kp
    have hbD : b < D.length := by omega
    have hrev := zjt kp.reverse 0 (by omega)
    rw [hrl, hrr] at hrev
    (repeat first | simp (disch := try exact dis1) only [evD, Nat.reduceBEq, Nat.reduceAdd, Nat.reduceLeDiff, dF, Int.natCast_zero, za5, List.cons_append, List.nil_append] | with_reducible intro _ | ((with_reducible apply And.intro); omega))
    unfold zcu
    (repeat first | simp (disch := try exact dis1) only [evD, Nat.reduceBEq, Nat.reduceAdd, Nat.reduceLeDiff] | with_reducible intro _ | ((with_reducible apply And.intro); omega))
    refine zL [(0, 6, 0)] 1 _ (hrev) rfl rfl (by (try simp only [evWB, Nat.reduceBEq, Nat.reduceAdd, Nat.reduceSub, Nat.reduceLeDiff, Nat.reduceLT, implies_true]) <;> exact fin6) (by (try simp only [evWB, Nat.reduceBEq, Nat.reduceAdd, Nat.reduceSub, Nat.reduceLeDiff, Nat.reduceLT, implies_true]) <;> exact fin6) ?_
    rintro _ _ _ ⟨rfl, rfl, rfl⟩
    have hg : (D.map Bl.cells).getD b [] = [.int .u32 D[b].addr, encL 8 St.cells D[b].stmts] := zt (f := Bl.cells) (d := []) hbD
    have hsp : ∀ x y z : AV, splice [x, y] 1 [z] = [x, z] := fun _ _ _ => rfl
    (repeat first | simp (disch := try exact dis1) only [evD, Nat.reduceBEq, Nat.reduceAdd, Nat.reduceLeDiff, renS, hg, hsp] | with_reducible intro _ | ((with_reducible apply And.intro); omega))
    unfold zcB
    (repeat first | simp (disch := try exact dis1) only [evD, Nat.reduceBEq, Nat.reduceAdd, Nat.reduceLeDiff] | with_reducible intro _ | ((with_reducible apply And.intro); omega))
    refine hfin _ _ _ ?_
    refine Ent.tab [(0, 0, 0), (1, 1, 0), (2, 2, 0), (3, 3, 0), (4, 4, 0)] [6] rfl ?_ ?_
    · ((try simp only [evWB, Nat.reduceBEq, Nat.reduceAdd, Nat.reduceSub, Nat.reduceLeDiff, Nat.reduceLT, implies_true, za5, famS]) <;> ((repeat' with_reducible apply And.intro) <;> first | omega | rfl | (exact zu3 (fun _ => rfl) hbD rfl (zrX rfl rfl (by omega)); done) | (refine zb zd (by decide) ⟨rfl, rfl⟩ ?_; (try simp only [evWB, Nat.reduceBEq, Nat.reduceAdd, Nat.reduceSub, Nat.reduceLeDiff, Nat.reduceLT, implies_true, za5, famS]) <;> ((repeat' with_reducible apply And.intro) <;> first | omega | rfl | (refine zb zd (by decide) ⟨rfl, rfl⟩ ?_; (try simp only [evWB, Nat.reduceBEq, Nat.reduceAdd, Nat.reduceSub, Nat.reduceLeDiff, Nat.reduceLT, implies_true, za5, famS]) <;> ((repeat' with_reducible apply And.intro) <;> first | omega | rfl | exact zfP (fun _ => rfl) | exact Vw.it _ _ rfl | exact Vw.mp _ _ _ _ rfl | exact zb zd (by decide) ⟨rfl, rfl⟩ trivial | exact zb zd (by decide) (fun _ _ => ⟨rfl, rfl⟩) trivial | (refine zh6 rfl ?_; (repeat' (first | exact zg zd | exact z6 | exact zg (fun _ => rfl) | exact zg (fun _ => zi) | exact zg (fun _ => zc) | exact zo zi | exact zo zc | exact zab rfl | exact zaa | exact zo rfl | refine zK ?_ ?_ | refine zh rfl ?_ | refine zh zi ?_ | refine zh zc ?_)); done) | exact zdv rfl | (refine RowV.of_flat ?_; (repeat' (first | exact zg zd | exact z6 | exact zg (fun _ => rfl) | exact zg (fun _ => zi) | exact zg (fun _ => zc) | exact zo zi | exact zo zc | exact zab rfl | exact zaa | exact zo rfl | refine zK ?_ ?_ | refine zh rfl ?_ | refine zh zi ?_ | refine zh zc ?_)); done) | ((repeat' (first | exact zg zd | exact z6 | exact zg (fun _ => rfl) | exact zg (fun _ => zi) | exact zg (fun _ => zc) | exact zo zi | exact zo zc | exact zab rfl | exact zaa | exact zo rfl | refine zK ?_ ?_ | refine zh rfl ?_ | refine zh zi ?_ | refine zh zc ?_)); done) | exact zfj rfl rfl (by omega) | exact zU rfl rfl (by omega) | exact zdt rfl rfl (by omega) | exact zfh (fun _ => rfl) | exact zb (fun _ => rfl) (by decide) ⟨rfl, rfl⟩ trivial | exact zb (fun _ => rfl) (by decide) (fun _ _ => ⟨rfl, rfl⟩) trivial | (simp; done)); done) | exact zfP (fun _ => rfl) | exact Vw.it _ _ rfl | exact Vw.mp _ _ _ _ rfl | exact zb zd (by decide) ⟨rfl, rfl⟩ trivial | exact zb zd (by decide) (fun _ _ => ⟨rfl, rfl⟩) trivial | (refine zh6 rfl ?_; (repeat' (first | exact zg zd | exact z6 | exact zg (fun _ => rfl) | exact zg (fun _ => zi) | exact zg (fun _ => zc) | exact zo zi | exact zo zc | exact zab rfl | exact zaa | exact zo rfl | refine zK ?_ ?_ | refine zh rfl ?_ | refine zh zi ?_ | refine zh zc ?_)); done) | exact zdv rfl | (refine RowV.of_flat ?_; (repeat' (first | exact zg zd | exact z6 | exact zg (fun _ => rfl) | exact zg (fun _ => zi) | exact zg (fun _ => zc) | exact zo zi | exact zo zc | exact zab rfl | exact zaa | exact zo rfl | refine zK ?_ ?_ | refine zh rfl ?_ | refine zh zi ?_ | refine zh zc ?_)); done) | ((repeat' (first | exact zg zd | exact z6 | exact zg (fun _ => rfl) | exact zg (fun _ => zi) | exact zg (fun _ => zc) | exact zo zi | exact zo zc | exact zab rfl | exact zaa | exact zo rfl | refine zK ?_ ?_ | refine zh rfl ?_ | refine zh zi ?_ | refine zh zc ?_)); done) | exact zfj rfl rfl (by omega) | exact zU rfl rfl (by omega) | exact zdt rfl rfl (by omega) | exact zfh (fun _ => rfl) | exact zb (fun _ => rfl) (by decide) ⟨rfl, rfl⟩ trivial | exact zb (fun _ => rfl) (by decide) (fun _ _ => ⟨rfl, rfl⟩) trivial | (simp; done)); done) | exact zfP (fun _ => rfl) | exact Vw.it _ _ rfl | exact Vw.mp _ _ _ _ rfl | exact zb zd (by decide) ⟨rfl, rfl⟩ trivial | exact zb zd (by decide) (fun _ _ => ⟨rfl, rfl⟩) trivial | (refine zh6 rfl ?_; (repeat' (first | exact zg zd | exact z6 | exact zg (fun _ => rfl) | exact zg (fun _ => zi) | exact zg (fun _ => zc) | exact zo zi | exact zo zc | exact zab rfl | exact zaa | exact zo rfl | refine zK ?_ ?_ | refine zh rfl ?_ | refine zh zi ?_ | refine zh zc ?_)); done) | exact zdv rfl | (refine RowV.of_flat ?_; (repeat' (first | exact zg zd | exact z6 | exact zg (fun _ => rfl) | exact zg (fun _ => zi) | exact zg (fun _ => zc) | exact zo zi | exact zo zc | exact zab rfl | exact zaa | exact zo rfl | refine zK ?_ ?_ | refine zh rfl ?_ | refine zh zi ?_ | refine zh zc ?_)); done) | ((repeat' (first | exact zg zd | exact z6 | exact zg (fun _ => rfl) | exact zg (fun _ => zi) | exact zg (fun _ => zc) | exact zo zi | exact zo zc | exact zab rfl | exact zaa | exact zo rfl | refine zK ?_ ?_ | refine zh rfl ?_ | refine zh zi ?_ | refine zh zc ?_)); done) | exact zfj rfl rfl (by omega) | exact zU rfl rfl (by omega) | exact zdt rfl rfl (by omega) | exact zfh (fun _ => rfl) | exact zb (fun _ => rfl) (by decide) ⟨rfl, rfl⟩ trivial | exact zb (fun _ => rfl) (by decide) (fun _ _ => ⟨rfl, rfl⟩) trivial | (simp; done)))
    · ((try simp only [evWB, Nat.reduceBEq, Nat.reduceAdd, Nat.reduceSub, Nat.reduceLeDiff, Nat.reduceLT, implies_true, za5]) <;> ((repeat' with_reducible apply And.intro) <;> first | omega | rfl | (rfl; done) | (refine zb zd (by decide) ⟨rfl, rfl⟩ ?_; (try simp only [evWB, Nat.reduceBEq, Nat.reduceAdd, Nat.reduceSub, Nat.reduceLeDiff, Nat.reduceLT, implies_true, za5]) <;> ((repeat' with_reducible apply And.intro) <;> first | omega | rfl | (refine zb zd (by decide) ⟨rfl, rfl⟩ ?_; (try simp only [evWB, Nat.reduceBEq, Nat.reduceAdd, Nat.reduceSub, Nat.reduceLeDiff, Nat.reduceLT, implies_true, za5]) <;> ((repeat' with_reducible apply And.intro) <;> first | omega | rfl | exact zfP (fun _ => rfl) | exact Vw.it _ _ rfl | exact Vw.mp _ _ _ _ rfl | exact zb zd (by decide) ⟨rfl, rfl⟩ trivial | exact zb zd (by decide) (fun _ _ => ⟨rfl, rfl⟩) trivial | (refine zh6 rfl ?_; (repeat' (first | exact zg zd | exact z6 | exact zg (fun _ => rfl) | exact zg (fun _ => zi) | exact zg (fun _ => zc) | exact zo zi | exact zo zc | exact zab rfl | exact zaa | exact zo rfl | refine zK ?_ ?_ | refine zh rfl ?_ | refine zh zi ?_ | refine zh zc ?_)); done) | exact zdv rfl | (refine RowV.of_flat ?_; (repeat' (first | exact zg zd | exact z6 | exact zg (fun _ => rfl) | exact zg (fun _ => zi) | exact zg (fun _ => zc) | exact zo zi | exact zo zc | exact zab rfl | exact zaa | exact zo rfl | refine zK ?_ ?_ | refine zh rfl ?_ | refine zh zi ?_ | refine zh zc ?_)); done) | ((repeat' (first | exact zg zd | exact z6 | exact zg (fun _ => rfl) | exact zg (fun _ => zi) | exact zg (fun _ => zc) | exact zo zi | exact zo zc | exact zab rfl | exact zaa | exact zo rfl | refine zK ?_ ?_ | refine zh rfl ?_ | refine zh zi ?_ | refine zh zc ?_)); done) | exact zfj rfl rfl (by omega) | exact zU rfl rfl (by omega) | exact zdt rfl rfl (by omega) | exact zfh (fun _ => rfl) | exact zb (fun _ => rfl) (by decide) ⟨rfl, rfl⟩ trivial | exact zb (fun _ => rfl) (by decide) (fun _ _ => ⟨rfl, rfl⟩) trivial | (simp; done)); done) | exact zfP (fun _ => rfl) | exact Vw.it _ _ rfl | exact Vw.mp _ _ _ _ rfl | exact zb zd (by decide) ⟨rfl, rfl⟩ trivial | exact zb zd (by decide) (fun _ _ => ⟨rfl, rfl⟩) trivial | (refine zh6 rfl ?_; (repeat' (first | exact zg zd | exact z6 | exact zg (fun _ => rfl) | exact zg (fun _ => zi) | exact zg (fun _ => zc) | exact zo zi | exact zo zc | exact zab rfl | exact zaa | exact zo rfl | refine zK ?_ ?_ | refine zh rfl ?_ | refine zh zi ?_ | refine zh zc ?_)); done) | exact zdv rfl | (refine RowV.of_flat ?_; (repeat' (first | exact zg zd | exact z6 | exact zg (fun _ => rfl) | exact zg (fun _ => zi) | exact zg (fun _ => zc) | exact zo zi | exact zo zc | exact zab rfl | exact zaa | exact zo rfl | refine zK ?_ ?_ | refine zh rfl ?_ | refine zh zi ?_ | refine zh zc ?_)); done) | ((repeat' (first | exact zg zd | exact z6 | exact zg (fun _ => rfl) | exact zg (fun _ => zi) | exact zg (fun _ => zc) | exact zo zi | exact zo zc | exact zab rfl | exact zaa | exact zo rfl | refine zK ?_ ?_ | refine zh rfl ?_ | refine zh zi ?_ | refine zh zc ?_)); done) | exact zfj rfl rfl (by omega) | exact zU rfl rfl (by omega) | exact zdt rfl rfl (by omega) | exact zfh (fun _ => rfl) | exact zb (fun _ => rfl) (by decide) ⟨rfl, rfl⟩ trivial | exact zb (fun _ => rfl) (by decide) (fun _ _ => ⟨rfl, rfl⟩) trivial | (simp; done)); done) | exact zfP (fun _ => rfl) | exact Vw.it _ _ rfl | exact Vw.mp _ _ _ _ rfl | exact zb zd (by decide) ⟨rfl, rfl⟩ trivial | exact zb zd (by decide) (fun _ _ => ⟨rfl, rfl⟩) trivial | (refine zh6 rfl ?_; (repeat' (first | exact zg zd | exact z6 | exact zg (fun _ => rfl) | exact zg (fun _ => zi) | exact zg (fun _ => zc) | exact zo zi | exact zo zc | exact zab rfl | exact zaa | exact zo rfl | refine zK ?_ ?_ | refine zh rfl ?_ | refine zh zi ?_ | refine zh zc ?_)); done) | exact zdv rfl | (refine RowV.of_flat ?_; (repeat' (first | exact zg zd | exact z6 | exact zg (fun _ => rfl) | exact zg (fun _ => zi) | exact zg (fun _ => zc) | exact zo zi | exact zo zc | exact zab rfl | exact zaa | exact zo rfl | refine zK ?_ ?_ | refine zh rfl ?_ | refine zh zi ?_ | refine zh zc ?_)); done) | ((repeat' (first | exact zg zd | exact z6 | exact zg (fun _ => rfl) | exact zg (fun _ => zi) | exact zg (fun _ => zc) | exact zo zi | exact zo zc | exact zab rfl | exact zaa | exact zo rfl | refine zK ?_ ?_ | refine zh rfl ?_ | refine zh zi ?_ | refine zh zc ?_)); done) | exact zfj rfl rfl (by omega) | exact zU rfl rfl (by omega) | exact zdt rfl rfl (by omega) | exact zfh (fun _ => rfl) | exact zb (fun _ => rfl) (by decide) ⟨rfl, rfl⟩ trivial | exact zb (fun _ => rfl) (by decide) (fun _ _ => ⟨rfl, rfl⟩) trivial | (simp; done)))
  · obtain ⟨i, rfl⟩ : ∃ k, i = k + 1 := ⟨i - 1, by omega⟩
    have hil : i < sts.length := by omega
    have hgl := zt (f := St.cells) (d := []) hil
    have ei : ((i + 1 : Nat) : Int) - 1 = i := by omega
    have hat := zvT (exit := exit) (a := a0) hil
    have hl0 := hlk i
    have hci := zmE (k := exit.length) hil
    have hc0 := zkn (k := exit.length) (l := sts) (i := i)
    have hrem := zgE sts[i] (keepM exit (sts.drop (i + 1)) a0).2
    have hbk := zgx (keepM exit (sts.drop (i + 1)) a0).2 sts[i] exit k1 (hsz _ (List.getElem_mem hil)) (by omega) (by omega)
    generalize keepM exit (sts.drop (i + 1)) a0 = R at *
    obtain ⟨kp, a⟩ := R
    simp only at hrem hbk hli k1 k2 k3 hat
    (repeat first | simp (disch := try exact dis1) only [evD, Nat.reduceBEq, Nat.reduceAdd, Nat.reduceLeDiff, ei, dT, za5, List.cons_append, List.nil_append, hgl, St.len, St.eight] | with_reducible intro _ | ((with_reducible apply And.intro); omega))
    refine zL [(0, 5, 0)] 1 _ (hrem) rfl rfl (by (try simp only [evWB, Nat.reduceBEq, Nat.reduceAdd, Nat.reduceSub, Nat.reduceLeDiff, Nat.reduceLT, implies_true]) <;> exact fin6) (by (try simp only [evWB, Nat.reduceBEq, Nat.reduceAdd, Nat.reduceSub, Nat.reduceLeDiff, Nat.reduceLT, implies_true]) <;> exact fin6) ?_
    rintro _ _ _ ⟨rfl, rfl, rfl⟩
    cases hx : remS sts[i] a.keys with
    | true =>
      rw [hx, if_pos rfl] at hat
      have hbt : (m0 || decide (kp.length < sts.length - i)) = true := by rw [decide_eq_true (by omega)]; simp
      (repeat first | simp (disch := try exact dis1) only [evD, Nat.reduceBEq, Nat.reduceAdd, Nat.reduceLeDiff, renM] | with_reducible intro _ | ((with_reducible apply And.intro); omega))
      refine ⟨i, by omega, by omega, ?_⟩
      exact (Ent.tab [(0, 0, 0), (1, 1, 0), (2, 2, 0), (3, 3, 0), (4, 4, 0), (5, 5, 0), (6, 6, 0)] [] rfl (by (try simp only [evWB, Nat.reduceBEq, Nat.reduceAdd, Nat.reduceSub, Nat.reduceLeDiff, Nat.reduceLT, implies_true, za5, famS, hat, hbt, List.cons_append, List.nil_append]) <;> (repeat' with_reducible apply And.intro) <;> first | (refine zb zd (by decide) ⟨rfl, rfl⟩ ?_; (try simp only [evWB, Nat.reduceBEq, Nat.reduceAdd, Nat.reduceSub, Nat.reduceLeDiff, Nat.reduceLT, implies_true, za5, famS, hat, hbt, List.cons_append, List.nil_append]) <;> (repeat' with_reducible apply And.intro) <;> first | (refine zb zd (by decide) ⟨rfl, rfl⟩ ?_; (try simp only [evWB, Nat.reduceBEq, Nat.reduceAdd, Nat.reduceSub, Nat.reduceLeDiff, Nat.reduceLT, implies_true, za5, famS, hat, hbt, List.cons_append, List.nil_append]) <;> exact fin6; done) | exact fin6; done) | exact fin6) (by (try simp only [evWB, Nat.reduceBEq, Nat.reduceAdd, Nat.reduceSub, Nat.reduceLeDiff, Nat.reduceLT, implies_true, za5, famS, hat, hbt, List.cons_append, List.nil_append]) <;> (repeat' with_reducible apply And.intro) <;> first | (refine zb zd (by decide) ⟨rfl, rfl⟩ ?_; (try simp only [evWB, Nat.reduceBEq, Nat.reduceAdd, Nat.reduceSub, Nat.reduceLeDiff, Nat.reduceLT, implies_true, za5, famS, hat, hbt, List.cons_append, List.nil_append]) <;> (repeat' with_reducible apply And.intro) <;> first | (refine zb zd (by decide) ⟨rfl, rfl⟩ ?_; (try simp only [evWB, Nat.reduceBEq, Nat.reduceAdd, Nat.reduceSub, Nat.reduceLeDiff, Nat.reduceLT, implies_true, za5, famS, hat, hbt, List.cons_append, List.nil_append]) <;> exact fin6; done) | exact fin6; done) | exact fin6))
    | false =>
      rw [hx, if_neg (by simp)] at hat
      (repeat first | simp (disch := try exact dis1) only [evD, Nat.reduceBEq, Nat.reduceAdd, Nat.reduceLeDiff, renM, hgl, St.len, St.eight] | with_reducible intro _ | ((with_reducible apply And.intro); omega))
      refine zL [(0, 5, 0)] 1 _ (hbk) rfl rfl (by (try simp only [evWB, Nat.reduceBEq, Nat.reduceAdd, Nat.reduceSub, Nat.reduceLeDiff, Nat.reduceLT, implies_true]) <;> exact fin6) (by (try simp only [evWB, Nat.reduceBEq, Nat.reduceAdd, Nat.reduceSub, Nat.reduceLeDiff, Nat.reduceLT, implies_true]) <;> exact fin6) ?_
      rintro _ _ _ ⟨rfl, rfl, rfl⟩
      have hkl : kp.reverse.length = kp.length := List.length_reverse
      have htk : (kp.reverse.map St.cells).take kp.length = kp.reverse.map St.cells := List.take_of_length_le (by rw [List.length_map, hkl]; omega)
      have hbt : decide (kp.length + 1 < sts.length - i) = decide (kp.length < sts.length - (i + 1)) := decide_eq_decide.2 (by omega)
      (repeat first | simp (disch := try exact dis1) only [evD, Nat.reduceBEq, Nat.reduceAdd, Nat.reduceLeDiff, renM, hgl, St.len, St.eight, hkl, htk] | with_reducible intro _ | ((with_reducible apply And.intro); omega))
      refine ⟨i, by omega, by omega, ?_⟩
      exact (Ent.tab [(0, 0, 0), (1, 1, 0), (2, 2, 0), (3, 3, 0), (4, 4, 0), (5, 5, 0), (6, 6, 1)] [] rfl (by (try simp only [evWB, Nat.reduceBEq, Nat.reduceAdd, Nat.reduceSub, Nat.reduceLeDiff, Nat.reduceLT, implies_true, za5, famS, hat, hbt, List.cons_append, List.nil_append, List.length_cons, List.reverse_cons, List.map_append, List.map_cons, List.map_nil]) <;> (repeat' with_reducible apply And.intro) <;> first | (refine zb zd (by decide) ⟨rfl, rfl⟩ ?_; (try simp only [evWB, Nat.reduceBEq, Nat.reduceAdd, Nat.reduceSub, Nat.reduceLeDiff, Nat.reduceLT, implies_true, za5, famS, hat, hbt, List.cons_append, List.nil_append, List.length_cons, List.reverse_cons, List.map_append, List.map_cons, List.map_nil]) <;> (repeat' with_reducible apply And.intro) <;> first | (refine zb zd (by decide) ⟨rfl, rfl⟩ ?_; (try simp only [evWB, Nat.reduceBEq, Nat.reduceAdd, Nat.reduceSub, Nat.reduceLeDiff, Nat.reduceLT, implies_true, za5, famS, hat, hbt, List.cons_append, List.nil_append, List.length_cons, List.reverse_cons, List.map_append, List.map_cons, List.map_nil]) <;> exact fin6; done) | exact fin6; done) | exact fin6) (by (try simp only [evWB, Nat.reduceBEq, Nat.reduceAdd, Nat.reduceSub, Nat.reduceLeDiff, Nat.reduceLT, implies_true, za5, famS, hat, hbt, List.cons_append, List.nil_append, List.length_cons, List.reverse_cons, List.map_append, List.map_cons, List.map_nil]) <;> (repeat' with_reducible apply And.intro) <;> first | (refine zb zd (by decide) ⟨rfl, rfl⟩ ?_; (try simp only [evWB, Nat.reduceBEq, Nat.reduceAdd, Nat.reduceSub, Nat.reduceLeDiff, Nat.reduceLT, implies_true, za5, famS, hat, hbt, List.cons_append, List.nil_append, List.length_cons, List.reverse_cons, List.map_append, List.map_cons, List.map_nil]) <;> (repeat' with_reducible apply And.intro) <;> first | (refine zb zd (by decide) ⟨rfl, rfl⟩ ?_; (try simp only [evWB, Nat.reduceBEq, Nat.reduceAdd, Nat.reduceSub, Nat.reduceLeDiff, Nat.reduceLT, implies_true, za5, famS, hat, hbt, List.cons_append, List.nil_append, List.length_cons, List.reverse_cons, List.map_append, List.map_cons, List.map_nil]) <;> exact fin6; done) | exact fin6; done) | exact fin6))
end Go.Ab
