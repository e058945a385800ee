/-
  Part 19 of the proof: how the calls of this program run, over values instead of memory, and what each function computes.
-/
import Derived.Test.YtmlhipilbnjhiaaGreatKr
set_option maxRecDepth 100000
set_option linter.unusedVariables false
set_option linter.unusedSimpArgs false
set_option linter.unnecessarySimpa false
set_option linter.unusedSectionVars false

namespace Go.Ab.Dm
open Go.RowKit Go.Proofs
structure NdL (n : Nat) (l : List Nat) : Prop where
  nd : l.Nodup
  lt : ∀ b ∈ l, b < n
theorem NdL.len {n : Nat} {l : List Nat} (h : NdL n l) : l.length ≤ n := by
  obtain ⟨h1, h2⟩ := h
  induction n generalizing l with
  | zero =>
    cases l with
    | nil => exact Nat.le_refl _
    | cons b l => exact absurd (h2 b (by simp)) (by omega)
  | succ n ih =>
    by_cases hn : n ∈ l
    · have := ih (h1.erase n) (fun b hb => by
        have h3 := h2 b (List.mem_of_mem_erase hb)
        have h4 := (h1.mem_erase_iff.1 hb).1
        omega)
      rw [List.length_erase_of_mem hn] at this
      omega
    · have := ih h1 (fun b hb => by
        have h3 := h2 b hb
        have h4 : b ≠ n := fun e => hn (e ▸ hb)
        omega)
      omega
theorem NdL.add {n : Nat} {l : List Nat} (h : NdL n l) {x : Int} {c : Nat} (hc : c < n) : NdL n (zed x l c) := by
  unfold zed
  split
  · rename_i hx
    refine ⟨?_, fun b hb => ?_⟩
    · rw [List.nodup_append]
      exact ⟨h.nd, by simp, fun a ha b hb => by simp at hb; subst hb; exact fun e => hx.2 (e ▸ ha)⟩
    · rcases List.mem_append.1 hb with hb | hb
      · exact h.lt b hb
      · simp at hb; subst hb; exact hc
  · exact h
theorem NdL.fold {n : Nat} {x : Int} : ∀ {cs l : List Nat}, NdL n l → (∀ c ∈ cs, c < n) → NdL n (cs.foldl (zed x) l)
  | [], l, h, _ => h
  | c :: cs, l, h, hc => show NdL n (cs.foldl (zed x) (zed x l c)) from NdL.fold (x := x) (h.add (x := x) (hc c (by simp))) (fun d hd => hc d (by simp [hd]))
theorem zfq {α β : Type} {f : β → α → β} {b : β} {l : List α} {i : Nat} (h : i < l.length) : (l.take (i + 1)).foldl f b = f ((l.take i).foldl f b) l[i] := by
  rw [List.take_add_one, List.getElem?_eq_getElem h, List.foldl_append]
  rfl
theorem zgB (p : Nat → Bool) (n : Nat) : (List.range (n + 1)).filter p = (List.range n).filter p ++ if p n then [n] else [] := by
  rw [List.range_succ, List.filter_append]
  cases h : p n <;> simp [List.filter, h]
theorem zmf (p : Nat → Bool) (n : Nat) : ((List.range n).filter p).length ≤ n := by
  have := List.length_filter_le p (List.range n)
  simpa using this
def mapR {α : Type} (f : Nat → α) (n : Nat) : List α := (List.range n).map f
def filR (p : Nat → Bool) (n : Nat) : List Nat := (List.range n).filter p
theorem zyN {α : Type} {f : Nat → α} {n : Nat} : (mapR f n).length = n := by simp [mapR]
theorem zs6 {p : Nat → Bool} {n : Nat} (h : p n = true) : filR p (n + 1) = filR p n ++ [n] := by unfold filR; rw [zgB, h]; rfl
theorem zoR {p : Nat → Bool} {n : Nat} (h : p n = false) : filR p (n + 1) = filR p n := by unfold filR; rw [zgB, h]; simp
theorem zuE {p : Nat → Bool} {n : Nat} : (filR p n).length ≤ n := zmf p n
def zl4 (A : List (List Nat)) : AV := encL 1 (fun r => [zat r]) A
abbrev cNs (l : List Nat) : List AV := [zat l]
theorem vw_NN {H H2 : AH} {σ : Nat → Nat → Option (Nat × Nat × Nat)} {D : Nat → Nat → Prop} {t : Bool} {r q g : Nat} {l : List (List Nat)} (hD : D r q) (hg : H.get r q = some (.row 1 (l.map cNs) g)) (hb : l.length ≤ big) :
    Vw H H2 σ D t (.own r q g 0 l.length) (zl4 l) := by
  refine znj hD hg hb (fun a _ j hj => ?_)
  obtain rfl : j = 0 := by omega
  exact .sl _ _ _ _
def za2 (E : Adj) (f : Nat) (s : List Nat × List Nat) (n : Nat) : List Nat × List Nat := if n ∈ s.1 then s else dfs E f n s
theorem zmu (E : Adj) (f k : Nat) (s : List Nat × List Nat) :
    dfs E (f + 1) k s = (((suc E k).foldl (za2 E f) (s.1 ++ [k], s.2)).1, ((suc E k).foldl (za2 E f) (s.1 ++ [k], s.2)).2 ++ [k]) := rfl
structure DfsI (n m d : Nat) (s : List Nat × List Nat) : Prop where
  nd : NdL n s.1
  le : m ≤ s.1.length
  post : s.1.length = s.2.length + d
theorem NdL.snoc {n : Nat} {l : List Nat} (h : NdL n l) {k : Nat} (hk : k < n) (hn : k ∉ l) : NdL n (l ++ [k]) := by
  refine ⟨?_, fun b hb => ?_⟩
  · rw [List.nodup_append]
    exact ⟨h.nd, by simp, fun a ha b hb => by simp at hb; subst hb; exact fun e => hn (e ▸ ha)⟩
  · rcases List.mem_append.1 hb with hb | hb
    · exact h.lt b hb
    · simp at hb; subst hb; exact hk
theorem zfl {E : Adj} {f m d : Nat} (h : ∀ (k : Nat) (s : List Nat × List Nat), DfsI E.length m d s → k < E.length → k ∉ s.1 → DfsI E.length m d (dfs E f k s)) :
    ∀ (cs : List Nat) (t : List Nat × List Nat), (∀ c ∈ cs, c < E.length) → DfsI E.length m d t → DfsI E.length m d (cs.foldl (za2 E f) t)
  | [], t, _, ht => ht
  | c :: cs, t, hc, ht => by
    refine zfl h cs (za2 E f t c) (fun d hd => hc d (by simp [hd])) ?_
    unfold za2
    split
    · exact ht
    · exact h c t ht (hc c (by simp)) ‹_›
theorem ziP {E : Adj} (hE : E.ok) : ∀ (f m d k : Nat) (s : List Nat × List Nat), DfsI E.length m d s → k < E.length → k ∉ s.1 → DfsI E.length m d (dfs E f k s)
  | 0, _, _, _, _, h, _, _ => h
  | f + 1, m, d, k, s, h, hk, hn => by
    rw [zmu]
    have := zfl (ziP hE f m (d + 1)) (suc E k) (s.1 ++ [k], s.2) (hE k) ⟨h.nd.snoc hk hn, by have := h.le; simp; omega, by have := h.post; simp; omega⟩
    exact ⟨this.nd, this.le, by have := this.post; simp; omega⟩
theorem zlR (g : Gr) (hg : g.small) : ∀ (f : Nat) (k g0 g1 : Nat) (s : List Nat × List Nat) (m d : Nat), DfsI g.E.length m d s → k < g.E.length → k ∉ s.1 → g.E.length ≤ f + m →
    zaf Tryz.prog zfy [.agg g.cells, .int .i64 k, .agg [.own 0 0 g0 0 s.1.length, .own 1 0 g1 0 s.2.length]] [(0, .row 1 (s.1.map cN) g0), (1, .row 1 (s.2.map cN) g1)] 2
      (fun v H nx => ∃ g0' g1', v = .agg [.own 0 0 g0' 0 (dfs g.E f k s).1.length, .own 1 0 g1' 0 (dfs g.E f k s).2.length] ∧ H = [(0, .row 1 ((dfs g.E f k s).1.map cN) g0'), (1, .row 1 ((dfs g.E f k s).2.map cN) g1')] ∧ nx = 2)
  | 0, k, g0, g1, s, m, d, hs, hk, hn, hf => by
    have := (hs.nd.snoc hk hn).len
    have := hs.le
    simp at *
    omega
  | f + 1, k, g0, g1, s, m, d, hs, hk, hn, hf => by
    have ih := zlR g hg f
    have hlen := g.E_len
    have hb := hg.1
    have hB := hBig
    have hsl := hs.nd.len
    have hsp := hs.post
    refine ze4 (fn_x zpy rfl ?_)
    unfold zly
    (repeat first | simp (disch := try exact dis1) only [evD, Nat.reduceBEq, Nat.reduceAdd, Nat.reduceLeDiff, Gr.cells] | with_reducible intro _ | ((with_reducible apply And.intro); omega))
    have hk' : k < g.blocks.length := by omega
    refine ze (zh (zqv g hg k hk') rfl) ?_
    have hE : ∀ c ∈ suc g.E k, c < g.E.length := g.E_ok k
    have hstart : DfsI g.E.length (m + 1) (d + 1) (s.1 ++ [k], s.2) := ⟨hs.nd.snoc hk hn, by have := hs.le; simp; omega, by simp; omega⟩
    have hdfs := zmu g.E f k s
    have hfin := zfl (E := g.E) (f := f) (m := m + 1) (d := d + 1) (ziP g.E_ok f (m + 1) (d + 1)) (suc g.E k) (s.1 ++ [k], s.2) hE hstart
    generalize hcs : suc g.E k = cs at hE hdfs hfin ⊢
    (repeat first | simp (disch := try exact dis1) only [evD, Nat.reduceBEq, Nat.reduceAdd, Nat.reduceLeDiff] | with_reducible intro _ | ((with_reducible apply And.intro); omega))
    let S := fun i : Nat => (cs.take i).foldl (za2 g.E f) (s.1 ++ [k], s.2)
    refine zm (fun a : Nat × Nat × Nat => ([(1, .int .i64 k), (3, encP 2 g.cells), (5, .ptr 2 0 0 0 0), (6, .ptr 3 0 0 0 0), (7, zat cs), (8, .int .i64 a.1)],
        [(0, .row 1 ((S a.1).1.map cN) a.2.1), (1, .row 1 ((S a.1).2.map cN) a.2.2), (2, .row 2 [[.own 0 0 a.2.1 0 (S a.1).1.length, .own 1 0 a.2.2 0 (S a.1).2.length]] 0), (3, .row 2 [[.nilsl, .nilsl]] 0)])) 4
      (fun a => a.1 ≤ cs.length) (fun a => cs.length - a.1) (0, g0 + 1, g1) (Nat.zero_le _) (Ent.tabB [(0, 0, 0), (1, 1, 0), (2, 2, 0), (3, 3, 0)] [] rfl rfl rfl (by (try simp only [evWB, Nat.reduceBEq, Nat.reduceAdd, Nat.reduceSub, Nat.reduceLeDiff, Nat.reduceLT, implies_true, Gr.cells, S, List.foldl_nil]) <;> exact fin4) (by (try simp only [evWB, Nat.reduceBEq, Nat.reduceAdd, Nat.reduceSub, Nat.reduceLeDiff, Nat.reduceLT, implies_true, Gr.cells, S, List.foldl_nil]) <;> exact fin4)) ?_
    rintro ⟨i, a0, a1⟩ hi wf
    simp only at hi
    unfold zh3
    (repeat first | simp (disch := try exact dis1) only [evD, Nat.reduceBEq, Nat.reduceAdd, Nat.reduceLeDiff, encP, Gr.cells, zat] | with_reducible intro _ | ((with_reducible apply And.intro); omega))
    have hS : DfsI g.E.length (m + 1) (d + 1) (S i) := zfl (ziP g.E_ok f (m + 1) (d + 1)) (cs.take i) _ (fun c hc => hE c (List.mem_of_mem_take hc)) hstart
    have hSl := hS.nd.len
    (refine zp (fun h => ?_) (fun h => ?_)) <;> (try simp only [dcd] at h)
    · have hi' : i < cs.length := by omega
      have hst : S (i + 1) = za2 g.E f (S i) cs[i] := zfq hi'
      have hc := hE cs[i] (List.getElem_mem hi')
      generalize S i = s1 at hS hSl hst ⊢
      (repeat first | simp (disch := try exact dis1) only [evD, Nat.reduceBEq, Nat.reduceAdd, Nat.reduceLeDiff, zo hi'] | with_reducible intro _ | ((with_reducible apply And.intro); omega))
      refine zag (zxK rfl (by omega)) ?_
      (repeat first | simp (disch := try exact dis1) only [evD, Nat.reduceBEq, Nat.reduceAdd, Nat.reduceLeDiff] | with_reducible intro _ | ((with_reducible apply And.intro); omega))
      (refine zp (fun h2 => ?_) (fun h2 => ?_)) <;> (try simp only [dcd] at h2)
      · have e : za2 g.E f s1 cs[i] = dfs g.E f cs[i] s1 := by unfold za2; rw [if_neg h2]
        rw [e] at hst
        (repeat first | simp (disch := try exact dis1) only [evD, Nat.reduceBEq, Nat.reduceAdd, Nat.reduceLeDiff, zo hi', Gr.two] | with_reducible intro _ | ((with_reducible apply And.intro); omega))
        refine zcz [(0, 0, 0), (1, 1, 0)] 2 _ (ih cs[i] a0 a1 s1 (m + 1) (d + 1) hS hc h2 (by omega)) rfl rfl (by (try simp only [evWB, Nat.reduceBEq, Nat.reduceAdd, Nat.reduceSub, Nat.reduceLeDiff, Nat.reduceLT, implies_true, Gr.cells]) <;> exact fin4) (by (try simp only [evWB, Nat.reduceBEq, Nat.reduceAdd, Nat.reduceSub, Nat.reduceLeDiff, Nat.reduceLT, implies_true, Gr.cells]) <;> exact fin4) ?_
        rintro v H' nx' ⟨g0', g1', rfl, rfl, rfl⟩
        (repeat first | simp (disch := try exact dis1) only [evD, Nat.reduceBEq, Nat.reduceAdd, Nat.reduceLeDiff] | with_reducible intro _ | ((with_reducible apply And.intro); omega))
        exact ⟨(i + 1, g0', g1'), by simp only; omega, by simp only; omega, (Ent.tabB [(0, 0, 0), (1, 1, 0), (2, 2, 0), (3, 3, 0)] [] rfl rfl rfl (by (try simp only [evWB, Nat.reduceBEq, Nat.reduceAdd, Nat.reduceSub, Nat.reduceLeDiff, Nat.reduceLT, implies_true, Gr.cells, hst]) <;> exact fin4) (by (try simp only [evWB, Nat.reduceBEq, Nat.reduceAdd, Nat.reduceSub, Nat.reduceLeDiff, Nat.reduceLT, implies_true, Gr.cells, hst]) <;> exact fin4))⟩
      · have e : za2 g.E f s1 cs[i] = s1 := by unfold za2; rw [if_pos h2]
        rw [e] at hst
        (repeat first | simp (disch := try exact dis1) only [evD, Nat.reduceBEq, Nat.reduceAdd, Nat.reduceLeDiff] | with_reducible intro _ | ((with_reducible apply And.intro); omega))
        exact ⟨(i + 1, a0, a1), by simp only; omega, by simp only; omega, (Ent.tabB [(0, 0, 0), (1, 1, 0), (2, 2, 0), (3, 3, 0)] [] rfl rfl rfl (by (try simp only [evWB, Nat.reduceBEq, Nat.reduceAdd, Nat.reduceSub, Nat.reduceLeDiff, Nat.reduceLT, implies_true, Gr.cells, hst]) <;> exact fin4) (by (try simp only [evWB, Nat.reduceBEq, Nat.reduceAdd, Nat.reduceSub, Nat.reduceLeDiff, Nat.reduceLT, implies_true, Gr.cells, hst]) <;> exact fin4))⟩
    · unfold zim
      have hi' : cs.length ≤ i := by omega
      have hSe : S i = cs.foldl (za2 g.E f) (s.1 ++ [k], s.2) := by simp only [S]; rw [List.take_of_length_le hi']
      have := hS.post
      (repeat first | simp (disch := try exact dis1) only [evD, Nat.reduceBEq, Nat.reduceAdd, Nat.reduceLeDiff, zll] | with_reducible intro _ | ((with_reducible apply And.intro); omega))
      refine ⟨_, [(0, .row 1 ((dfs g.E (f + 1) k s).1.map cN) a0), (1, .row 1 ((dfs g.E (f + 1) k s).2.map cN) (a1 + 1))], 2, ?_, a0, a1 + 1, rfl, rfl, rfl⟩
      rw [hSe, hdfs]
      exact (Ent.tabB [(0, 0, 0), (1, 1, 0)] [] rfl rfl rfl (by (try simp only [evWB, Nat.reduceBEq, Nat.reduceAdd, Nat.reduceSub, Nat.reduceLeDiff, Nat.reduceLT, implies_true]) <;> exact fin4) (by (try simp only [evWB, Nat.reduceBEq, Nat.reduceAdd, Nat.reduceSub, Nat.reduceLeDiff, Nat.reduceLT, implies_true]) <;> exact fin4))
theorem zoT {α : Type} {l : List α} {j : Nat} (h : j < l.length) : l.reverse.take (j + 1) = l.reverse.take j ++ [l[l.length - 1 - j]] := by
  rw [List.take_add_one, List.getElem?_reverse h, List.getElem?_eq_getElem (by omega)]
  rfl
theorem R24_Order_ok (g : Gr) (hg : g.small) : zk Tryz.prog zg7 [.agg g.cells] (· = zat (orderL g.E)) := by
  refine fn_x zqH rfl ?_
  unfold zlH
  have hB := hBig
  have hlen := g.E_len
  have hn := hg.1
  (repeat first | simp (disch := try exact dis1) only [evD, Nat.reduceBEq, Nat.reduceAdd, Nat.reduceLeDiff, Gr.cells] | with_reducible intro _ | ((with_reducible apply And.intro); omega))
  (refine zp (fun h => ?_) (fun h => ?_)) <;> (try simp only [dcd] at h)
  · (repeat first | simp (disch := try exact dis1) only [evD, Nat.reduceBEq, Nat.reduceAdd, Nat.reduceLeDiff, zio] | with_reducible intro _ | ((with_reducible apply And.intro); omega))
    refine ⟨_, ?_, rfl⟩
    have : orderL g.E = [] := by unfold orderL; rw [if_pos (by omega)]
    rw [this]
    exact zia (l := []) trivial rfl (Nat.zero_le _)
  have hres : orderL g.E = (dfs g.E g.E.length 0 ([], [])).2.reverse := by unfold orderL; rw [if_neg (by omega)]
  have h0 : DfsI g.E.length 0 0 ([], []) := ⟨⟨by simp, by simp⟩, by simp, by simp⟩
  have hd := ziP g.E_ok g.E.length 0 0 0 _ h0 (by omega) (by simp)
  have hdl := hd.nd.len
  have hdp := hd.post
  rw [hres]
  (repeat first | simp (disch := try exact dis1) only [evD, Nat.reduceBEq, Nat.reduceAdd, Nat.reduceLeDiff, Gr.two] | with_reducible intro _ | ((with_reducible apply And.intro); omega))
  refine zcz [] 2 _ (zlR g hg g.E.length 0 0 0 ([], []) 0 0 h0 (by omega) (by simp) (by omega)) rfl rfl (by (try simp only [evWB, Nat.reduceBEq, Nat.reduceAdd, Nat.reduceSub, Nat.reduceLeDiff, Nat.reduceLT, implies_true, Gr.cells]) <;> exact fin4) (by (try simp only [evWB, Nat.reduceBEq, Nat.reduceAdd, Nat.reduceSub, Nat.reduceLeDiff, Nat.reduceLT, implies_true, Gr.cells]) <;> exact fin4) ?_
  rintro v H' nx' ⟨g0', g1', rfl, rfl, rfl⟩
  generalize dfs g.E g.E.length 0 ([], []) = s at hdl hdp ⊢
  (repeat first | simp (disch := try exact dis1) only [evD, Nat.reduceBEq, Nat.reduceAdd, Nat.reduceLeDiff] | with_reducible intro _ | ((with_reducible apply And.intro); omega))
  refine zm (fun j : Nat => ([(3, .own 0 0 0 0 (s.2.reverse.take j).length), (4, zat s.2), (5, .int .i64 ((s.2.length : Int) - 1 - j))], [(0, .row 1 ((s.2.reverse.take j).map cN) 0)])) 1 (fun j => j ≤ s.2.length) (fun j => s.2.length - j) 0 (Nat.zero_le _) (Ent.tab [(0, 1, 0)] [3] rfl (by (try simp only [evWB, Nat.reduceBEq, Nat.reduceAdd, Nat.reduceSub, Nat.reduceLeDiff, Nat.reduceLT, implies_true, List.take_zero]) <;> exact fin4) (by (try simp only [evWB, Nat.reduceBEq, Nat.reduceAdd, Nat.reduceSub, Nat.reduceLeDiff, Nat.reduceLT, implies_true, List.take_zero]) <;> exact fin4)) ?_
  intro j hj wf
  unfold zij
  (repeat first | simp (disch := try exact dis1) only [evD, Nat.reduceBEq, Nat.reduceAdd, Nat.reduceLeDiff, zat] | with_reducible intro _ | ((with_reducible apply And.intro); omega))
  have hl : (s.2.reverse.take j).length = j := by simp; omega
  (refine zp (fun h2 => ?_) (fun h2 => ?_)) <;> (try simp only [dcd] at h2)
  · have hj' : j < s.2.length := by omega
    have hst := zoT hj'
    have e : ((s.2.length : Int) - 1 - j).toNat = s.2.length - 1 - j := by omega
    generalize s.2.reverse.take j = o at hl hst ⊢
    (repeat first | simp (disch := try exact dis1) only [evD, Nat.reduceBEq, Nat.reduceAdd, Nat.reduceLeDiff, e, zo (show s.2.length - 1 - j < s.2.length by omega)] | with_reducible intro _ | ((with_reducible apply And.intro); omega))
    exact ⟨j + 1, by omega, by omega, (Ent.tab [(0, 0, 1)] [] rfl (by (try simp only [evWB, Nat.reduceBEq, Nat.reduceAdd, Nat.reduceSub, Nat.reduceLeDiff, Nat.reduceLT, implies_true, hst]) <;> exact fin4) (by (try simp only [evWB, Nat.reduceBEq, Nat.reduceAdd, Nat.reduceSub, Nat.reduceLeDiff, Nat.reduceLT, implies_true, hst]) <;> exact fin4))⟩
  · unfold ziD
    (repeat first | simp (disch := try exact dis1) only [evD, Nat.reduceBEq, Nat.reduceAdd, Nat.reduceLeDiff, zio] | with_reducible intro _ | ((with_reducible apply And.intro); omega))
    refine ⟨_, ?_, rfl⟩
    rw [List.take_of_length_le (by simp; omega)]
    exact zia trivial rfl (by simp; omega)
theorem zAb {A : List (List Nat)} {i : Nat} (h : i < A.length) : suc A i = A[i] := by simp [suc, List.getD_eq_getElem?_getD, h]
end Go.Ab.Dm
namespace Go.Ab.Dm
def znI (P : List Nat) (m p : Nat) : Prop := ∃ A B, P = A ++ m :: B ∧ p ∈ B
theorem znI.left {P : List Nat} {m p : Nat} (h : znI P m p) (L : List Nat) : znI (L ++ P) m p := by
  obtain ⟨A, B, rfl, hp⟩ := h
  exact ⟨L ++ A, B, by simp, hp⟩
theorem znI.right {P : List Nat} {m p : Nat} (h : znI P m p) (R : List Nat) : znI (P ++ R) m p := by
  obtain ⟨A, B, rfl, hp⟩ := h
  exact ⟨A, B ++ R, by simp, by simp [hp]⟩
theorem znI.last {P : List Nat} {m k : Nat} (h : m ∈ P) : znI (P ++ [k]) m k := by
  obtain ⟨A, B, rfl⟩ := List.append_of_mem h
  exact ⟨A, B ++ [k], by simp, by simp⟩
structure Grew (E : Adj) (cs : List Nat) (s s' : List Nat × List Nat) (P Q : List Nat) : Prop where
  post : s'.2 = s.2 ++ P
  seen : s'.1 = s.1 ++ Q
  same : ∀ x, x ∈ P ↔ x ∈ Q
  nd : P.Nodup
  new : ∀ x ∈ P, x ∉ s.1
  closed : ∀ p ∈ P, ∀ c ∈ suc E p, c ∈ s'.1
  got : ∀ c ∈ cs, c ∈ s'.1
  reach : ∀ x ∈ P, ∃ c ∈ cs, RA E (fun _ => False) c x
  from' : ∀ m ∈ P, m ∈ cs ∨ ∃ p, m ∈ suc E p ∧ znI P m p
theorem RA.trans {E : Adj} {X : Nat → Prop} {a b c : Nat} (h1 : RA E X a b) (h2 : RA E X b c) : RA E X a c := by
  induction h2 with
  | refl => exact h1
  | step _ h3 h4 ih => exact ih.step h3 h4
theorem Grew.append {E : Adj} {cs ds : List Nat} {s s' s'' : List Nat × List Nat} {P Q P2 Q2 : List Nat} (h1 : Grew E cs s s' P Q) (h2 : Grew E ds s' s'' P2 Q2) : Grew E (cs ++ ds) s s'' (P ++ P2) (Q ++ Q2) := by
  have sub : ∀ x, x ∈ s'.1 → x ∈ s''.1 := fun x hx => by rw [h2.seen]; exact List.mem_append.2 (.inl hx)
  refine ⟨by rw [h2.post, h1.post, List.append_assoc], by rw [h2.seen, h1.seen, List.append_assoc], fun x => by simp only [List.mem_append, h1.same, h2.same], ?_, fun x hx => ?_, fun p hp c hc => ?_, fun c hc => ?_, fun x hx => ?_, fun m hm => ?_⟩
  · rw [List.nodup_append]
    refine ⟨h1.nd, h2.nd, fun a ha b hb e => ?_⟩
    subst e
    exact h2.new a hb (by rw [h1.seen]; exact List.mem_append.2 (.inr ((h1.same a).1 ha)))
  · rcases List.mem_append.1 hx with hx | hx
    · exact h1.new x hx
    · exact fun h => h2.new x hx (by rw [h1.seen]; exact List.mem_append.2 (.inl h))
  · rcases List.mem_append.1 hp with hp | hp
    · exact sub c (h1.closed p hp c hc)
    · exact h2.closed p hp c hc
  · rcases List.mem_append.1 hc with hc | hc
    · exact sub c (h1.got c hc)
    · exact h2.got c hc
  · rcases List.mem_append.1 hx with hx | hx
    · obtain ⟨c, hc, hr⟩ := h1.reach x hx
      exact ⟨c, by simp [hc], hr⟩
    · obtain ⟨c, hc, hr⟩ := h2.reach x hx
      exact ⟨c, by simp [hc], hr⟩
  · rcases List.mem_append.1 hm with hm | hm
    · rcases h1.from' m hm with h | ⟨p, hp, ha⟩
      · exact .inl (by simp [h])
      · exact .inr ⟨p, hp, ha.right _⟩
    · rcases h2.from' m hm with h | ⟨p, hp, ha⟩
      · exact .inl (by simp [h])
      · exact .inr ⟨p, hp, ha.left _⟩
theorem zpL {E : Adj} {f m d : Nat} (hok : E.ok) (ih : ∀ (k : Nat) (s : List Nat × List Nat), DfsI E.length m d s → k < E.length → k ∉ s.1 → ∃ P Q, Grew E [k] s (dfs E f k s) P Q) :
    ∀ (cs : List Nat) (t : List Nat × List Nat), (∀ c ∈ cs, c < E.length) → DfsI E.length m d t → ∃ P Q, Grew E cs t (cs.foldl (za2 E f) t) P Q
  | [], t, _, _ => ⟨[], [], by simp, by simp, by simp, by simp, by simp, by simp, by simp, by simp, by simp⟩
  | c :: cs, t, hc, ht => by
    have hstep : DfsI E.length m d (za2 E f t c) := by
      unfold za2
      split
      · exact ht
      · exact ziP hok f m d c t ht (hc c (by simp)) ‹_›
    obtain ⟨P2, Q2, h2⟩ := zpL hok ih cs (za2 E f t c) (fun d hd => hc d (by simp [hd])) hstep
    have h1 : ∃ P Q, Grew E [c] t (za2 E f t c) P Q := by
      unfold za2
      split
      · exact ⟨[], [], by simp, by simp, by simp, by simp, by simp, by simp, by simpa, by simp, by simp⟩
      · exact ih c t ht (hc c (by simp)) ‹_›
    obtain ⟨P, Q, h1⟩ := h1
    exact ⟨P ++ P2, Q ++ Q2, h1.append h2⟩
theorem zsG {E : Adj} (hok : E.ok) : ∀ (f m d k : Nat) (s : List Nat × List Nat), DfsI E.length m d s → k < E.length → k ∉ s.1 → E.length ≤ f + m → ∃ P Q, Grew E [k] s (dfs E f k s) (P ++ [k]) (k :: Q) ∧ ∀ x, x ∈ P ↔ x ∈ Q
  | 0, m, d, k, s, h, hk, hn, hf => by
    have := (h.nd.snoc hk hn).len
    have := h.le
    simp at *
    omega
  | f + 1, m, d, k, s, h, hk, hn, hf => by
    have hstart : DfsI E.length (m + 1) (d + 1) (s.1 ++ [k], s.2) := ⟨h.nd.snoc hk hn, by have := h.le; simp; omega, by have := h.post; simp; omega⟩
    obtain ⟨P, Q, g⟩ := zpL (f := f) (m := m + 1) (d := d + 1) hok (fun c t ht hc hn => by
      obtain ⟨P, Q, h, _⟩ := zsG hok f (m + 1) (d + 1) c t ht hc hn (by omega)
      exact ⟨_, _, h⟩) (suc E k) (s.1 ++ [k], s.2) (hok k) hstart
    refine ⟨P, Q, ?_, g.same⟩
    rw [zmu]
    have hkP : k ∉ P := fun hh => g.new k hh (by simp)
    refine ⟨by simp [g.post], by simp [g.seen], fun x => ?_, ?_, fun x hx => ?_, fun p hp c hc => ?_, fun c hc => ?_, fun x hx => ?_, fun x hx => ?_⟩
    · simp only [List.mem_append, List.mem_cons, List.not_mem_nil, or_false, g.same]
      exact Or.comm
    · rw [List.nodup_append]
      exact ⟨g.nd, by simp, fun a ha b hb e => by simp at hb; subst hb; subst e; exact hkP ha⟩
    · rcases List.mem_append.1 hx with hx | hx
      · exact fun hh => g.new x hx (by simp [hh])
      · simp at hx; subst hx; exact hn
    · rcases List.mem_append.1 hp with hp | hp
      · exact g.closed p hp c hc
      · simp at hp; subst hp; exact g.got c hc
    · simp at hc; subst hc
      show c ∈ _
      rw [g.seen]
      simp
    · rcases List.mem_append.1 hx with hx | hx
      · obtain ⟨c, hc, hr⟩ := g.reach x hx
        exact ⟨k, by simp, ((RA.refl id).step hc id).trans hr⟩
      · simp at hx; subst hx; exact ⟨x, by simp, .refl id⟩
    · rcases List.mem_append.1 hx with hx | hx
      · rcases g.from' x hx with hh | ⟨p, hp, ha⟩
        · exact .inr ⟨k, hh, znI.last hx⟩
        · exact .inr ⟨p, hp, ha.right _⟩
      · exact .inl hx
theorem zwY {l : List Nat} (h : l.Nodup) : l.reverse.Nodup := by
  unfold List.Nodup at *
  rw [List.pairwise_reverse]
  exact h.imp fun h e => h e.symm
structure Rpo (E : Adj) (r : Nat) (l : List Nat) : Prop where
  head : ∃ t, l = r :: t
  nd : l.Nodup
  lt : ∀ x ∈ l, x < E.length
  mem : ∀ x, x ∈ l ↔ RA E (fun _ => False) r x
  pred : ∀ x ∈ l, x ≠ r → ∃ p A B, l = A ++ x :: B ∧ p ∈ A ∧ x ∈ suc E p
theorem rpo {E : Adj} (hok : E.ok) {r : Nat} (hr : r < E.length) : Rpo E r (dfs E E.length r ([], [])).2.reverse := by
  have h0 : DfsI E.length 0 0 ([], []) := ⟨⟨by simp, by simp⟩, by simp, by simp⟩
  obtain ⟨P, Q, g, hs⟩ := zsG hok E.length 0 0 r ([], []) h0 hr (by simp) (by omega)
  have hp := g.post
  have hq := g.seen
  simp only [List.nil_append] at hp hq
  have hd := ziP hok E.length 0 0 r _ h0 hr (by simp)
  have hmem : ∀ x, x ∈ P ++ [r] ↔ RA E (fun _ => False) r x := by
    intro x
    constructor
    · intro hx
      obtain ⟨c, hc, hh⟩ := g.reach x hx
      simp at hc; subst hc; exact hh
    · intro hx
      induction hx with
      | refl => simp
      | step _ h3 _ ih =>
        have := g.closed _ ih _ h3
        rw [hq] at this
        exact (g.same _).2 this
  rw [hp]
  refine ⟨⟨P.reverse, by simp⟩, zwY g.nd, fun x hx => ?_, fun x => by rw [List.mem_reverse]; exact hmem x, fun x hx hxr => ?_⟩
  · rw [List.mem_reverse] at hx
    exact hd.nd.lt x (by rw [hq]; exact (g.same x).1 hx)
  · rw [List.mem_reverse] at hx
    rcases g.from' x hx with hh | ⟨p, hp, A, B, he, hpB⟩
    · simp at hh; exact absurd hh hxr
    · exact ⟨p, B.reverse, A.reverse, by rw [he]; simp, by simpa using hpB, hp⟩
inductive Ch (T : Nat → Option Nat) : Nat → Nat → Prop
  | refl (k : Nat) : Ch T k k
  | up {k j x : Nat} : T k = some j → Ch T j x → Ch T k x
structure Lay (A : Adj) (r : Nat) (l : List Nat) (f : Nat → Nat) : Prop where
  nd : l.Nodup
  root : r ∈ l
  pl0 : l.idxOf r = 0
  mem : ∀ x, x ∈ l ↔ RA A (fun _ => False) r x
  fm : ∀ k ∈ l, k ≠ r → f k ∈ l ∧ k ∈ suc A (f k) ∧ l.idxOf (f k) < l.idxOf k
section
variable {A : Adj} {r : Nat} {l : List Nat} {f : Nat → Nat} {T U : Nat → Option Nat}
def Pr (A : Adj) (l : List Nat) (p k : Nat) : Prop := p ∈ l ∧ k ∈ suc A p
structure WT (r : Nat) (l : List Nat) (T : Nat → Option Nat) : Prop where
  root : T r = none
  up : ∀ k j, T k = some j → k ∈ l ∧ j ∈ l ∧ l.idxOf j < l.idxOf k ∧ (j = r ∨ T j ≠ none)
def Hd (r : Nat) (T : Nat → Option Nat) (k : Nat) : Prop := k = r ∨ T k ≠ none
def Fst (l : List Nat) (T : Nat → Option Nat) (j p q : Nat) : Prop := Ch T p q ∧ l.idxOf q < j ∧ ∀ q2, Ch T p q2 → l.idxOf q2 < j → Ch T q q2
structure PassTo (A : Adj) (r : Nat) (l : List Nat) (T : Nat → Option Nat) (j : Nat) (U : Nat → Option Nat) : Prop where
  wt : WT r l U
  old : ∀ v, (v ∉ l ∨ j ≤ l.idxOf v) → U v = T v
  new : ∀ k ∈ l, k ≠ r → l.idxOf k < j → ∃ c, U k = some c ∧
    ∀ x, Ch U c x ↔ (∀ p, Pr A l p k → l.idxOf p < l.idxOf k → Ch U p x) ∧ (∀ p, Pr A l p k → l.idxOf k ≤ l.idxOf p → Hd r T p → ∃ q, Fst l T (l.idxOf k) p q ∧ Ch U q x)
end
section
variable {A : Adj} {r : Nat} {l : List Nat} {f : Nat → Nat} {T U V : Nat → Option Nat}
abbrev Pass (A : Adj) (r : Nat) (l : List Nat) (T U : Nat → Option Nat) : Prop := PassTo A r l T l.length U
inductive SA (r : Nat) (l : List Nat) (f : Nat → Nat) (a : Nat) : Nat → Prop
  | refl : SA r l f a a
  | step {b : Nat} : b ∈ l → b ≠ r → SA r l f a (f b) → SA r l f a b
structure Gd (A : Adj) (r : Nat) (l : List Nat) (f : Nat → Nat) (T U : Nat → Option Nat) : Prop where
  wt : WT r l T
  pass : Pass A r l T U
  anc : ∀ v y, v ∈ l → Hd r T v → Ch T v y → SA r l f y v
  mono : ∀ v y, v ∈ l → Hd r T v → Ch U v y → Ch T v y
def Dm (A : Adj) (r x k : Nat) : Prop := ¬ RA A (· = x) r k
def Sd (A : Adj) (r : Nat) (l : List Nat) (T : Nat → Option Nat) : Prop := ∀ k ∈ l, Hd r T k → ∀ x ∈ l, Dm A r x k → Ch T k x
structure DTree' (A : Adj) (r : Nat) (l : List Nat) (T : Nat → Option Nat) : Prop where
  wt : WT r l T
  held : ∀ k ∈ l, k ≠ r → T k ≠ none
  ch : ∀ k ∈ l, ∀ x ∈ l, Ch T k x ↔ Dm A r x k
end
def IsN (x : Int) : Nat → Prop := fun y => (y : Int) = x
structure FromI (E : Adj) (x : Int) (a i : Nat) (out : List Nat) : Prop where
  nd : NdL E.length out
  root : a ∈ out
  sound : ∀ b ∈ out, RA E (IsN x) a b
  closed : ∀ j (h : j < out.length), j < i → ∀ c ∈ suc E out[j], (c : Int) ≠ x → c ∈ out
theorem zrs {x : Int} {out : List Nat} {c b : Nat} : b ∈ zed x out c ↔ b ∈ out ∨ (b = c ∧ (c : Int) ≠ x) := by
  unfold zed
  split
  · rename_i h
    simp only [List.mem_append, List.mem_singleton]
    exact ⟨fun h2 => h2.imp id (fun h3 => ⟨h3, h.1⟩), fun h2 => h2.imp id (fun h3 => h3.1)⟩
  · rename_i h
    constructor
    · exact .inl
    · rintro (h2 | ⟨rfl, h2⟩)
      · exact h2
      · exact Classical.byContradiction fun h3 => h ⟨h2, h3⟩
theorem zkh {x : Int} {b : Nat} : ∀ {cs out : List Nat}, b ∈ cs.foldl (zed x) out ↔ b ∈ out ∨ (b ∈ cs ∧ (b : Int) ≠ x)
  | [], out => by simp
  | c :: cs, out => by
    rw [List.foldl_cons, zkh (cs := cs), zrs]
    constructor
    · rintro ((h | ⟨rfl, h⟩) | ⟨h, h2⟩)
      · exact .inl h
      · exact .inr ⟨by simp, h⟩
      · exact .inr ⟨by simp [h], h2⟩
    · rintro (h | ⟨h, h2⟩)
      · exact .inl (.inl h)
      · rcases List.mem_cons.1 h with rfl | h
        · exact .inl (.inr ⟨rfl, h2⟩)
        · exact .inr ⟨h, h2⟩
theorem zsC {x : Int} : ∀ (cs out : List Nat), ∃ t, cs.foldl (zed x) out = out ++ t
  | [], out => ⟨[], by simp⟩
  | c :: cs, out => by
    obtain ⟨t, ht⟩ := zsC (x := x) cs (zed x out c)
    rw [List.foldl_cons, ht]
    unfold zed
    split
    · exact ⟨c :: t, by simp⟩
    · exact ⟨t, rfl⟩
theorem ztA {E : Adj} (hE : E.ok) {x : Int} {a : Nat} : ∀ (f i : Nat) (out : List Nat), FromI E x a i out → E.length ≤ f + i → ∀ b, b ∈ zti E x f i out ↔ RA E (IsN x) a b := by
  have fin : ∀ (i : Nat) (out : List Nat), FromI E x a i out → out.length ≤ i → ∀ b, b ∈ out ↔ RA E (IsN x) a b := by
    intro i out h hl b
    refine ⟨h.sound b, fun hb => ?_⟩
    induction hb with
    | refl => exact h.root
    | step _ h2 h3 ih =>
      obtain ⟨j, hj, he⟩ := List.mem_iff_getElem.1 ih
      exact h.closed j hj (by omega) _ (by rw [he]; exact h2) h3
  intro f
  induction f with
  | zero =>
    intro i out h hf b
    exact fin i out h (by have := h.nd.len; omega) b
  | succ f ih =>
    intro i out h hf b
    simp only [zti]
    by_cases hi : i < out.length
    · rw [List.getElem?_eq_getElem hi]
      simp only
      refine ih (i + 1) _ ⟨h.nd.fold (fun c hc => hE _ c hc), zkh.2 (.inl h.root), fun b hb => ?_, fun j hj hji c hc hcx => ?_⟩ (by omega) b
      · rcases zkh.1 hb with hb | ⟨hb, hbx⟩
        · exact h.sound b hb
        · exact (h.sound _ (List.getElem_mem hi)).step hb hbx
      · obtain ⟨t, ht⟩ := zsC (x := x) (suc E out[i]) out
        have hjl : j < out.length := by omega
        have e : ((suc E out[i]).foldl (zed x) out)[j] = out[j] := by
          simp only [ht]
          exact List.getElem_append_left hjl
        rw [e] at hc
        by_cases hje : j = i
        · subst hje; exact zkh.2 (.inr ⟨hc, hcx⟩)
        · exact zkh.2 (.inl (h.closed j hjl (by omega) c hc hcx))
    · rw [List.getElem?_eq_none (by omega)]
      exact fin i out h (by omega) b
theorem zw8 {E : Adj} (hE : E.ok) {a : Nat} (ha : a < E.length) {x : Int} {b : Nat} : b ∈ zuV E a x ↔ RA E (IsN x) a b := by
  unfold zuV
  by_cases hx : (a : Int) = x
  · rw [if_pos (.inl hx)]
    constructor
    · intro h; cases h
    · intro h
      exfalso
      induction h with
      | refl h => exact h hx
      | step _ _ _ ih => exact ih
  · rw [if_neg (by omega)]
    refine ztA hE _ _ _ ⟨⟨by simp, fun b hb => ?_⟩, by simp, fun b hb => ?_, fun j _ h => absurd h (Nat.not_lt_zero _)⟩ (by omega) b
    · simp at hb; omega
    · simp at hb; subst hb; exact .refl hx
theorem zwL {E : Adj} (hE : E.ok) {a : Nat} (ha : a < E.length) {b : Nat} : b ∈ zuV E a (-1) ↔ RA E (fun _ => False) a b := by
  rw [zw8 hE ha]
  have : IsN (-1) = fun _ => False := by
    funext y
    refine eq_false fun h => ?_
    unfold IsN at h
    omega
  rw [this]
end Go.Ab.Dm
namespace Go.Ab.Dm
open Go.RowKit Go.Proofs
structure PredFn (fv : AV) (p : Int → Bool) : Prop where
  ex : ∃ f caps, fv = .fn (.func f) caps ∧ zdT Tryz.prog f = true ∧ zG caps = true ∧ ∀ x, zk Tryz.prog f ([.int .i64 x] ++ caps) (· = .bool (p x))
theorem zcj : ∀ {l : List AV}, zG l = true → l.all AV.flat = true
  | [], _ => rfl
  | a :: l, h => by
    simp only [zG, Bool.and_eq_true] at h
    simp only [List.all_cons, Bool.and_eq_true]
    refine ⟨?_, zcj h.2⟩
    cases a <;> first | rfl | exact absurd h.1 (by simp [AV.flat0])
theorem zoh {fv : AV} {p : Int → Bool} (hp : PredFn fv p) {x : Int} {H : AH} {nx : Nat} {k : AV → AH → Nat → Prop} (hk : k (.bool (p x)) H nx) : zkR Tryz.prog fv [.int .i64 x] H nx k := by
  obtain ⟨f, caps, rfl, hg, hf, hx⟩ := hp.ex
  rw [zgC]
  exact ⟨hg, ze (zh (hx x) (by simp only [List.cons_append, List.nil_append, List.all_cons, AV.flat, AV.flat0, Bool.true_and]; exact zcj hf)) hk⟩
theorem zo4 {fv : AV} {p : Int → Bool} (hp : PredFn fv p) {H H2 : AH} {σ : Nat → Nat → Option (Nat × Nat × Nat)} {D : Nat → Nat → Prop} {t : Bool} : Vw H H2 σ D t fv fv := by
  obtain ⟨f, caps, rfl, hg, hf, hx⟩ := hp.ex
  refine .fn _ _ _ _ rfl fun i a b h1 h2 => ?_
  rw [h1] at h2
  cases h2
  exact zcy (zbg hf h1)
theorem zjZ (l : List Int) (fv : AV) (p : Int → Bool) (hp : PredFn fv p) : zk Tryz.prog zX [za l, fv] (· = .int .i64 (match l.findIdx? p with | some i => (i : Int) | none => -1)) := by
  refine fn_x zcl rfl ?_
  unfold zbi
  have hB := hBig
  (repeat first | simp (disch := try exact dis1) only [evD, Nat.reduceBEq, Nat.reduceAdd, Nat.reduceLeDiff, za] | with_reducible intro _ | ((with_reducible apply And.intro); omega))
  refine zm (fun i : Nat => ([(0, za l), (1, fv), (7, .int .i64 l.length), (8, .int .i64 i)], [])) 0 (fun i => i ≤ l.length ∧ ∀ j (h : j < l.length), j < i → p l[j] = false) (fun i => l.length - i) 0 ⟨Nat.zero_le _, fun j _ h => by omega⟩ (Ent.keep rfl fin5) ?_
  intro i ⟨hi, hno⟩ wf
  unfold zaY
  (repeat first | simp (disch := try exact dis1) only [evD, Nat.reduceBEq, Nat.reduceAdd, Nat.reduceLeDiff, za] | with_reducible intro _ | ((with_reducible apply And.intro); omega))
  (refine zp (fun h => ?_) (fun h => ?_)) <;> (try simp only [dcd] at h)
  · have hi' : i < l.length := by omega
    (repeat first | simp (disch := try exact dis1) only [evD, Nat.reduceBEq, Nat.reduceAdd, Nat.reduceLeDiff, zo hi'] | with_reducible intro _ | ((with_reducible apply And.intro); omega))
    refine zoh hp ?_
    (repeat first | simp (disch := try exact dis1) only [evD, Nat.reduceBEq, Nat.reduceAdd, Nat.reduceLeDiff] | with_reducible intro _ | ((with_reducible apply And.intro); omega))
    (refine zp (fun h2 => ?_) (fun h2 => ?_)) <;> (try simp only [dcd] at h2)
    · (repeat first | simp (disch := try exact dis1) only [evD, Nat.reduceBEq, Nat.reduceAdd, Nat.reduceLeDiff, zae] | with_reducible intro _ | ((with_reducible apply And.intro); omega))
      have e : l.findIdx? p = some i := by
        rw [List.findIdx?_eq_some_iff_getElem]
        exact ⟨hi', h2, fun j hj => by rw [hno j (by omega) hj]; simp⟩
      rw [e]
      exact ⟨_, .int _ _ _, rfl⟩
    · (repeat first | simp (disch := try exact dis1) only [evD, Nat.reduceBEq, Nat.reduceAdd, Nat.reduceLeDiff] | with_reducible intro _ | ((with_reducible apply And.intro); omega))
      refine ⟨i + 1, ⟨by omega, fun j hj hji => ?_⟩, by omega, Ent.keep rfl fin5⟩
      by_cases hje : j = i
      · subst hje; simpa using h2
      · exact hno j hj (by omega)
  · unfold zaU
    (repeat first | simp (disch := try exact dis1) only [evD, Nat.reduceBEq, Nat.reduceAdd, Nat.reduceLeDiff, zae] | with_reducible intro _ | ((with_reducible apply And.intro); omega))
    have e : l.findIdx? p = none := by
      rw [List.findIdx?_eq_none_iff]
      intro x hx
      obtain ⟨j, hj, rfl⟩ := List.mem_iff_getElem.1 hx
      exact hno j hj (by omega)
    rw [e]
    exact ⟨_, .int _ _ _, rfl⟩
def cur (K l : List Int) : List Int := K ++ l.drop K.length
theorem zvT {K l : List Int} (h : K.length ≤ l.length) : (cur K l).length = l.length := by simp [cur]; omega
theorem zzJ {K l : List Int} {j : Nat} (h : K.length ≤ j) (hj : j < l.length) : (cur K l)[j]? = some l[j] := by
  unfold cur
  rw [List.getElem?_append_right h, List.getElem?_drop, show K.length + (j - K.length) = j by omega, List.getElem?_eq_getElem hj]
theorem zxF {K l : List Int} {j : Nat} (h : K.length ≤ j) (hj : j < l.length) : ((cur K l).map cI).getD j [] = [.int .i64 l[j]] := by
  simp [List.getD_eq_getElem?_getD, zzJ h hj]
theorem zz7 {K l : List Int} {v : Int} (h : K.length < l.length) : (cur K l).set K.length v = cur (K ++ [v]) l := by
  unfold cur
  rw [List.set_append_right _ _ (Nat.le_refl _), Nat.sub_self, List.drop_eq_getElem_cons h, List.set_cons_zero]
  simp
theorem zyp {K l : List Int} {v : Int} (h : K.length < l.length) : ((cur K l).map cI).set K.length [.int .i64 v] = (cur (K ++ [v]) l).map cI := by
  rw [← zz7 h, List.map_set]
theorem zi6 (l : List Int) (g : Nat) (fv : AV) (p : Int → Bool) (hp : PredFn fv p) (hl : l.length ≤ 1000) :
    zaf Tryz.prog zau [.own 0 0 g 0 l.length, fv] [(0, .row 1 (l.map cI) g)] 1
      (fun v H nx => ∃ m, v = .own 0 0 g 0 (l.filter fun x => !p x).length ∧ H = [(0, .row 1 (((l.filter fun x => !p x) ++ m).map cI) g)] ∧ nx = 1) := by
  refine ze4 (fn_x zfa rfl ?_)
  unfold zb8
  have hB := hBig
  (repeat first | simp (disch := try exact dis1) only [evD, Nat.reduceBEq, Nat.reduceAdd, Nat.reduceLeDiff] | with_reducible intro _ | ((with_reducible apply And.intro); omega))
  refine ze (z6 (D := fun r _ => r = 0) (zjZ l fv p hp) (.cons (zbj rfl rfl (by omega)) (.cons (zo4 hp) .nil)) (.inl rfl)) ?_
  cases hf : l.findIdx? p with
  | none =>
    have e : l.filter (fun x => !p x) = l := by
      rw [List.filter_eq_self]
      intro x hx
      rw [List.findIdx?_eq_none_iff] at hf
      simp [hf x hx]
    (repeat first | simp (disch := try exact dis1) only [evD, Nat.reduceBEq, Nat.reduceAdd, Nat.reduceLeDiff, za8] | with_reducible intro _ | ((with_reducible apply And.intro); omega))
    refine ⟨.own 0 0 g 0 l.length, [(0, .row 1 (l.map cI) g)], 1, ?_, [], by rw [e], by rw [e, List.append_nil], rfl⟩
    exact (Ent.tabB [(0, 0, 0)] [] rfl rfl rfl (by (try simp only [evWB, Nat.reduceBEq, Nat.reduceAdd, Nat.reduceSub, Nat.reduceLeDiff, Nat.reduceLT, implies_true]) <;> exact fin4) (by (try simp only [evWB, Nat.reduceBEq, Nat.reduceAdd, Nat.reduceSub, Nat.reduceLeDiff, Nat.reduceLT, implies_true]) <;> exact fin4))
  | some i0 =>
    rw [List.findIdx?_eq_some_iff_getElem] at hf
    obtain ⟨hi0, hpi, hno⟩ := hf
    (repeat first | simp (disch := try exact dis1) only [evD, Nat.reduceBEq, Nat.reduceAdd, Nat.reduceLeDiff] | with_reducible intro _ | ((with_reducible apply And.intro); omega))
    (refine zp (fun h => ?_) (fun h => ?_)) <;> (try simp only [dcd] at h)
    · omega
    (repeat first | simp (disch := try exact dis1) only [evD, Nat.reduceBEq, Nat.reduceAdd, Nat.reduceLeDiff] | with_reducible intro _ | ((with_reducible apply And.intro); omega))
    let K := fun j => (l.take j).filter fun x => !p x
    have hK0 : K (i0 + 1) = l.take i0 := by
      simp only [K]
      rw [zbY hi0, hpi]
      simp only [Bool.not_true, Bool.false_eq_true, if_false, List.append_nil]
      rw [List.filter_eq_self]
      intro x hx
      obtain ⟨j, hj, rfl⟩ := List.mem_iff_getElem.1 hx
      simp only [List.length_take] at hj
      rw [List.getElem_take]
      simpa using hno j (by omega)
    have hKl : ∀ j, i0 < j → j ≤ l.length → (K j).length < j := by
      intro j h1 h2
      induction j with
      | zero => omega
      | succ j ih =>
        by_cases hj : j = i0
        · subst hj; rw [hK0]; simp; omega
        · have := ih (by omega) (by omega)
          simp only [K] at this ⊢
          rw [zbY (show j < l.length by omega)]
          rw [List.length_append]
          split <;> simp <;> omega
    have hstart : cur (K (i0 + 1)) l = l := by
      rw [hK0]
      unfold cur
      rw [List.length_take, Nat.min_eq_left (by omega), List.take_append_drop]
    have hK0l : (K (i0 + 1)).length = i0 := by rw [hK0]; simp; omega
    refine zm (fun j : Nat => ([(0, .own 0 0 g 0 l.length), (1, fv), (5, .int .i64 (K j).length), (6, .int .i64 j)], [(0, .row 1 ((cur (K j) l).map cI) g)])) 1 (fun j => i0 < j ∧ j ≤ l.length) (fun j => l.length - j) (i0 + 1) ⟨by omega, by omega⟩ (Ent.tabB [(0, 0, 0)] [] rfl rfl rfl ?_ ?_) ?_
    · simp only [evWB, Nat.reduceBEq, Nat.reduceAdd, Nat.reduceSub, Nat.reduceLeDiff, Nat.reduceLT, implies_true, hstart]
    · simp only [evWB, Nat.reduceBEq, Nat.reduceAdd, Nat.reduceSub, Nat.reduceLeDiff, Nat.reduceLT, implies_true, hK0l]
      exact zo4 hp
    intro j ⟨hj1, hj2⟩ wf
    have hkl := hKl j hj1 hj2
    unfold zbD
    (repeat first | simp (disch := try exact dis1) only [evD, Nat.reduceBEq, Nat.reduceAdd, Nat.reduceLeDiff] | with_reducible intro _ | ((with_reducible apply And.intro); omega))
    (refine zp (fun h2 => ?_) (fun h2 => ?_)) <;> (try simp only [dcd] at h2)
    · have hj' : j < l.length := by omega
      have hst : K (j + 1) = K j ++ if (!p l[j]) = true then [l[j]] else [] := zbY hj'
      have hkl2 := hKl (j + 1) (by omega) (by omega)
      have hcl := zvT (K := K j) (l := l) (by omega)
      (repeat first | simp (disch := try exact dis1) only [evD, Nat.reduceBEq, Nat.reduceAdd, Nat.reduceLeDiff, zxF (K := K j) (l := l) (by omega) hj'] | with_reducible intro _ | ((with_reducible apply And.intro); omega))
      refine zoh hp ?_
      (repeat first | simp (disch := try exact dis1) only [evD, Nat.reduceBEq, Nat.reduceAdd, Nat.reduceLeDiff] | with_reducible intro _ | ((with_reducible apply And.intro); omega))
      (refine zp (fun h3 => ?_) (fun h3 => ?_)) <;> (try simp only [dcd] at h3)
      · rw [h3] at hst
        simp only [Bool.not_false, if_true] at hst
        (repeat first | simp (disch := try exact dis1) only [evD, Nat.reduceBEq, Nat.reduceAdd, Nat.reduceLeDiff] | with_reducible intro _ | ((with_reducible apply And.intro); omega))
        rw [zyp (by omega), ← hst]
        exact ⟨j + 1, ⟨by omega, by omega⟩, by omega, Ent.tabB [(0, 0, 0)] [] rfl rfl rfl (by simp only [evWB, Nat.reduceBEq, Nat.reduceAdd, Nat.reduceSub, Nat.reduceLeDiff, Nat.reduceLT, implies_true]) (by simp only [evWB, Nat.reduceBEq, Nat.reduceAdd, Nat.reduceSub, Nat.reduceLeDiff, Nat.reduceLT, implies_true, hst]; exact zo4 hp)⟩
      · have h3' : p l[j] = true := by simpa using h3
        rw [h3'] at hst
        simp only [Bool.not_true, Bool.false_eq_true, if_false, List.append_nil] at hst
        (repeat first | simp (disch := try exact dis1) only [evD, Nat.reduceBEq, Nat.reduceAdd, Nat.reduceLeDiff] | with_reducible intro _ | ((with_reducible apply And.intro); omega))
        rw [← hst]
        exact ⟨j + 1, ⟨by omega, by omega⟩, by omega, Ent.tabB [(0, 0, 0)] [] rfl rfl rfl (by simp only [evWB, Nat.reduceBEq, Nat.reduceAdd, Nat.reduceSub, Nat.reduceLeDiff, Nat.reduceLT, implies_true]) (by simp only [evWB, Nat.reduceBEq, Nat.reduceAdd, Nat.reduceSub, Nat.reduceLeDiff, Nat.reduceLT, implies_true]; exact zo4 hp)⟩
    · obtain rfl : j = l.length := by omega
      have hKe : K l.length = l.filter fun x => !p x := by simp only [K]; rw [List.take_length]
      have hcl := zvT (K := K l.length) (l := l) (by omega)
      unfold zbH
      have hz : (((l.length : Int) - (K l.length).length).toNat) = l.length - (K l.length).length := by omega
      have hclr : ((cur (K l.length) l).map cI).take (K l.length).length ++ List.replicate (l.length - (K l.length).length) [AV.int .i64 0] ++ ((cur (K l.length) l).map cI).drop ((K l.length).length + (l.length - (K l.length).length)) = (K l.length ++ List.replicate (l.length - (K l.length).length) 0).map cI := by
        rw [List.drop_of_length_le (by rw [List.length_map, hcl]; omega), List.append_nil, ← List.map_take, List.map_append, List.map_replicate]
        congr 2
        unfold cur
        rw [List.take_append_of_le_length (Nat.le_refl _), List.take_length]
      (repeat first | simp (disch := try exact dis1) only [evD, Nat.reduceBEq, Nat.reduceAdd, Nat.reduceLeDiff, za8, hz, hclr] | with_reducible intro _ | ((with_reducible apply And.intro); omega))
      refine ⟨.own 0 0 g 0 (l.filter fun x => !p x).length, [(0, .row 1 (((l.filter fun x => !p x) ++ List.replicate (l.length - (K l.length).length) 0).map cI) g)], 1, ?_, _, rfl, rfl, rfl⟩
      rw [← hKe]
      exact (Ent.tabB [(0, 0, 0)] [] rfl rfl rfl (by (try simp only [evWB, Nat.reduceBEq, Nat.reduceAdd, Nat.reduceSub, Nat.reduceLeDiff, Nat.reduceLT, implies_true, List.map_replicate]) <;> exact fin4) (by (try simp only [evWB, Nat.reduceBEq, Nat.reduceAdd, Nat.reduceSub, Nat.reduceLeDiff, Nat.reduceLT, implies_true, List.map_replicate]) <;> exact fin4))
theorem zvy (g : Gr) (x : Int) : zk Tryz.prog zbf [.int .i64 x, .iptr 2 fun j => g.cells.getD j .undef] (· = .bool (!zbW g.blocks.length x)) := by
  refine fn_x zjh rfl ?_
  unfold zeJ
  (repeat first | simp (disch := try exact dis1) only [evD, Nat.reduceBEq, Nat.reduceAdd, Nat.reduceLeDiff, Gr.cells] | with_reducible intro _ | ((with_reducible apply And.intro); omega))
  generalize h : decide (x < 0) = hb; cases hb <;> simp only [decide_eq_true_eq, decide_eq_false_iff_not, ne_eq, Classical.not_not] at h
  · (repeat first | simp (disch := try exact dis1) only [evD, Nat.reduceBEq, Nat.reduceAdd, Nat.reduceLeDiff, zcL] | with_reducible intro _ | ((with_reducible apply And.intro); omega))
    refine ⟨_, .bool _ _, ?_⟩
    have h0 : 0 ≤ x := by omega
    by_cases h2 : x < g.blocks.length
    · have : ¬ (g.blocks.length : Int) ≤ x := by omega
      simp [zbW, h0, h2, this]
    · have : (g.blocks.length : Int) ≤ x := by omega
      simp [zbW, h0, h2, this]
  · (repeat first | simp (disch := try exact dis1) only [evD, Nat.reduceBEq, Nat.reduceAdd, Nat.reduceLeDiff, zcL] | with_reducible intro _ | ((with_reducible apply And.intro); omega))
    refine ⟨_, .bool _ _, ?_⟩
    simp [zbW, h]
theorem zuw (g : Gr) : PredFn (.fn (.func zbf) [.iptr 2 fun j => g.cells.getD j .undef]) (fun x => !zbW g.blocks.length x) :=
  ⟨_, _, rfl, by kernel_rfl, rfl, zvy g⟩
theorem zmw (l : List Int) (hl : l.length ≤ 1000) : zaf Tryz.prog zB [za l] [] 0 (fun v H nx => v = .own 0 0 0 0 l.length ∧ H = [(0, .row 1 (l.map cI) 0)] ∧ nx = 1) := by
  refine ze4 (fn_x zbP rfl ?_)
  unfold za9
  have hB := hBig
  have hel : ∀ H, zdg 1 (encL 1 (fun n : Int => [AV.int .i64 n]) l) H = some (l.map fun n => [AV.int .i64 n]) := fun H => zoi (fun _ _ => rfl)
  (repeat first | simp (disch := try exact dis1) only [evD, Nat.reduceBEq, Nat.reduceAdd, Nat.reduceLeDiff, za, zpx] | with_reducible intro _ | ((with_reducible apply And.intro); omega))
  cases h0 : (l.length == 0) with
  | true =>
    have e : l = [] := List.eq_nil_of_length_eq_zero (by simpa using h0)
    subst e
    (repeat first | simp (disch := try exact dis1) only [evD, Nat.reduceBEq, Nat.reduceAdd, Nat.reduceLeDiff] | with_reducible intro _ | ((with_reducible apply And.intro); omega))
    rename_i b
    cases b
    · (repeat first | simp (disch := try exact dis1) only [evD, Nat.reduceBEq, Nat.reduceAdd, Nat.reduceLeDiff, hel, zE] | with_reducible intro _ | ((with_reducible apply And.intro); omega))
      refine ⟨.own 0 0 0 0 0, [(0, .row 1 [] 0)], 1, ?_, rfl, rfl, rfl⟩
      exact (Ent.tab [(0, 1, 1)] [] rfl (by (try simp only [evWB, Nat.reduceBEq, Nat.reduceAdd, Nat.reduceSub, Nat.reduceLeDiff, Nat.reduceLT, implies_true]) <;> exact fin4) (by (try simp only [evWB, Nat.reduceBEq, Nat.reduceAdd, Nat.reduceSub, Nat.reduceLeDiff, Nat.reduceLT, implies_true]) <;> exact fin4))
    · (repeat first | simp (disch := try exact dis1) only [evD, Nat.reduceBEq, Nat.reduceAdd, Nat.reduceLeDiff, zE] | with_reducible intro _ | ((with_reducible apply And.intro); omega))
      refine ⟨.own 0 0 0 0 0, [(0, .row 1 [] 0)], 1, ?_, rfl, rfl, rfl⟩
      exact (Ent.tab [(0, 1, 0)] [] rfl (by (try simp only [evWB, Nat.reduceBEq, Nat.reduceAdd, Nat.reduceSub, Nat.reduceLeDiff, Nat.reduceLT, implies_true]) <;> exact fin4) (by (try simp only [evWB, Nat.reduceBEq, Nat.reduceAdd, Nat.reduceSub, Nat.reduceLeDiff, Nat.reduceLT, implies_true]) <;> exact fin4))
  | false =>
    (repeat first | simp (disch := try exact dis1) only [evD, Nat.reduceBEq, Nat.reduceAdd, Nat.reduceLeDiff, hel, zE] | with_reducible intro _ | ((with_reducible apply And.intro); omega))
    refine ⟨.own 0 0 0 0 l.length, [(0, .row 1 (l.map cI) 0)], 1, ?_, rfl, rfl, rfl⟩
    exact (Ent.tab [(0, 1, 1)] [] rfl (by (try simp only [evWB, Nat.reduceBEq, Nat.reduceAdd, Nat.reduceSub, Nat.reduceLeDiff, Nat.reduceLT, implies_true]) <;> exact fin4) (by (try simp only [evWB, Nat.reduceBEq, Nat.reduceAdd, Nat.reduceSub, Nat.reduceLeDiff, Nat.reduceLT, implies_true]) <;> exact fin4))
theorem zvk {g : Gr} {k : Nat} (hk : k < g.blocks.length) : zat (suc g.E k) = za (g.blocks[k].targets.filter (zbW g.blocks.length)) := by
  rw [← encInts_nats]
  congr 1
  simp only [suc, Gr.E, zo hk, List.map_map]
  conv => rhs; rw [← List.map_id (List.filter _ _)]
  refine List.map_congr_left fun x hx => ?_
  simp only [List.mem_filter, zbW, Bool.and_eq_true, decide_eq_true_eq] at hx
  simp only [Function.comp, id]
  omega
theorem zx8 {H H2 : AH} {σ : Nat → Nat → Option (Nat × Nat × Nat)} {D : Nat → Nat → Prop} {t : Bool} {r q g : Nat} {l m : List Int} (hD : D r q) (hg : H.get r q = some (.row 1 ((l ++ m).map cI) g)) (hb : l.length ≤ big) :
    Vw H H2 σ D t (.own r q g 0 l.length) (za l) := by
  refine .frz t r q g 0 l.length 1 ((l ++ m).map cI) _ hD hg hb (by simp) (fun i j hi hj => ?_)
  obtain rfl : j = 0 := by omega
  rw [Nat.zero_add, zo (show i < (l ++ m).length by simp; omega), zo hi, List.getElem_append_left hi]
  exact .int _ _ _
theorem zkG (g : Gr) (hg : g.small) (k : Nat) (hk : k < g.blocks.length) : zk Tryz.prog zcv [.agg g.cells, .int .i64 k] (· = zat (suc g.E k)) := by
  have htl := hg.2 _ (List.getElem_mem hk)
  rw [zvk hk]
  refine fn_x zkp rfl ?_
  unfold zgd
  have hB := hBig
  have e : (g.blocks.map Blk.cells).getD k [] = g.blocks[k].cells := zdG (List.getElem?_eq_getElem hk)
  (repeat first | simp (disch := try exact dis1) only [evD, Nat.reduceBEq, Nat.reduceAdd, Nat.reduceLeDiff, Gr.cells, e, Blk.cells] | with_reducible intro _ | ((with_reducible apply And.intro); omega))
  generalize hbk : g.blocks[k] = b at htl ⊢
  (refine zp (fun h => ?_) (fun h => ?_)) <;> (try simp only [dcd] at h)
  · (repeat first | simp (disch := try exact dis1) only [evD, Nat.reduceBEq, Nat.reduceAdd, Nat.reduceLeDiff, zdo] | with_reducible intro _ | ((with_reducible apply And.intro); omega))
    refine ⟨_, ?_, rfl⟩
    have h0 : b.stmts = [] := List.eq_nil_of_length_eq_zero (by omega)
    have e : b.targets = [] := by simp [Blk.targets, h0]
    rw [e]
    exact zbj (l := []) trivial rfl (Nat.zero_le _)
  have h0 : 0 < b.stmts.length := by omega
  obtain ⟨s, hs⟩ : ∃ s, b.stmts[b.stmts.length - 1]? = some s := ⟨_, List.getElem?_eq_getElem (by omega)⟩
  have ht : b.targets = if s.op = 6 then [s.next] else if s.op = 7 then [s.next, s.els] else if s.op = 8 then s.cases else [] := by
    have : b.stmts.getLast? = some s := by rw [List.getLast?_eq_getElem?, hs]
    simp [Blk.targets, this]
  have e2 : (b.stmts.map Stm.cells).getD ((b.stmts.length : Int) - 1).toNat [] = s.cells := by
    rw [show ((b.stmts.length : Int) - 1).toNat = b.stmts.length - 1 by omega]
    exact zdG hs
  (repeat first | simp (disch := try exact dis1) only [evD, Nat.reduceBEq, Nat.reduceAdd, Nat.reduceLeDiff, e2, Stm.cells] | with_reducible intro _ | ((with_reducible apply And.intro); omega))
  refine zq7 (fun _ : Unit => ([(2, .iptr 2 fun j => g.cells.getD j .undef), (7, .own 0 0 0 0 b.targets.length)], [(0, .row 1 (b.targets.map cI) 0)])) 1 (fun _ => True) ?_ ?_
  · (repeat first | simp (disch := try exact dis1) only [evD, Nat.reduceBEq, Nat.reduceAdd, Nat.reduceLeDiff] | with_reducible intro _ | ((with_reducible apply And.intro); omega))
    (refine zp (fun h => ?_) (fun h => ?_)) <;> (try simp only [dcd] at h)
    · rw [if_pos h] at ht
      (repeat first | simp (disch := try exact dis1) only [evD, Nat.reduceBEq, Nat.reduceAdd, Nat.reduceLeDiff] | with_reducible intro _ | ((with_reducible apply And.intro); omega))
      refine ⟨(), ?_⟩
      rw [ht]
      exact (Ent.tab [(0, 3, 0)] [] rfl (by (try simp only [evWB, Nat.reduceBEq, Nat.reduceAdd, Nat.reduceSub, Nat.reduceLeDiff, Nat.reduceLT, implies_true, Gr.cells]) <;> exact fin4) (by (try simp only [evWB, Nat.reduceBEq, Nat.reduceAdd, Nat.reduceSub, Nat.reduceLeDiff, Nat.reduceLT, implies_true, Gr.cells]) <;> exact fin4))
    · rw [if_neg h] at ht
      (repeat first | simp (disch := try exact dis1) only [evD, Nat.reduceBEq, Nat.reduceAdd, Nat.reduceLeDiff] | with_reducible intro _ | ((with_reducible apply And.intro); omega))
      (refine zp (fun h => ?_) (fun h => ?_)) <;> (try simp only [dcd] at h)
      · rw [if_pos h] at ht
        (repeat first | simp (disch := try exact dis1) only [evD, Nat.reduceBEq, Nat.reduceAdd, Nat.reduceLeDiff] | with_reducible intro _ | ((with_reducible apply And.intro); omega))
        refine ⟨(), ?_⟩
        rw [ht]
        exact (Ent.tab [(0, 3, 0)] [] rfl (by (try simp only [evWB, Nat.reduceBEq, Nat.reduceAdd, Nat.reduceSub, Nat.reduceLeDiff, Nat.reduceLT, implies_true, Gr.cells]) <;> exact fin4) (by (try simp only [evWB, Nat.reduceBEq, Nat.reduceAdd, Nat.reduceSub, Nat.reduceLeDiff, Nat.reduceLT, implies_true, Gr.cells]) <;> exact fin4))
      · rw [if_neg h] at ht
        (repeat first | simp (disch := try exact dis1) only [evD, Nat.reduceBEq, Nat.reduceAdd, Nat.reduceLeDiff] | with_reducible intro _ | ((with_reducible apply And.intro); omega))
        (refine zp (fun h => ?_) (fun h => ?_)) <;> (try simp only [dcd] at h)
        · rw [if_pos h] at ht
          (repeat first | simp (disch := try exact dis1) only [evD, Nat.reduceBEq, Nat.reduceAdd, Nat.reduceLeDiff] | with_reducible intro _ | ((with_reducible apply And.intro); omega))
          refine zcz [] 0 _ (zmw s.cases (by rw [← ht]; exact htl)) rfl rfl (by (try simp only [evWB, Nat.reduceBEq, Nat.reduceAdd, Nat.reduceSub, Nat.reduceLeDiff, Nat.reduceLT, implies_true]) <;> exact fin4) (by (try simp only [evWB, Nat.reduceBEq, Nat.reduceAdd, Nat.reduceSub, Nat.reduceLeDiff, Nat.reduceLT, implies_true]) <;> exact fin4) ?_
          rintro v H' nx' ⟨rfl, rfl, rfl⟩
          (repeat first | simp (disch := try exact dis1) only [evD, Nat.reduceBEq, Nat.reduceAdd, Nat.reduceLeDiff] | with_reducible intro _ | ((with_reducible apply And.intro); omega))
          refine ⟨(), ?_⟩
          rw [ht]
          exact (Ent.tab [(0, 3, 0)] [] rfl (by (try simp only [evWB, Nat.reduceBEq, Nat.reduceAdd, Nat.reduceSub, Nat.reduceLeDiff, Nat.reduceLT, implies_true, Gr.cells]) <;> exact fin4) (by (try simp only [evWB, Nat.reduceBEq, Nat.reduceAdd, Nat.reduceSub, Nat.reduceLeDiff, Nat.reduceLT, implies_true, Gr.cells]) <;> exact fin4))
        · rw [if_neg h] at ht
          (repeat first | simp (disch := try exact dis1) only [evD, Nat.reduceBEq, Nat.reduceAdd, Nat.reduceLeDiff] | with_reducible intro _ | ((with_reducible apply And.intro); omega))
          refine ⟨(), ?_⟩
          rw [ht]
          exact (Ent.tab [(0, 2, 0)] [] rfl (by (try simp only [evWB, Nat.reduceBEq, Nat.reduceAdd, Nat.reduceSub, Nat.reduceLeDiff, Nat.reduceLT, implies_true, Gr.cells]) <;> exact fin4) (by (try simp only [evWB, Nat.reduceBEq, Nat.reduceAdd, Nat.reduceSub, Nat.reduceLeDiff, Nat.reduceLT, implies_true, Gr.cells]) <;> exact fin4))
  · rintro _ _ _
    unfold zev
    (repeat first | simp (disch := try exact dis1) only [evD, Nat.reduceBEq, Nat.reduceAdd, Nat.reduceLeDiff] | with_reducible intro _ | ((with_reducible apply And.intro); omega))
    refine zcz [(0, 0, 0)] 1 _ (zi6 b.targets 0 _ _ (zuw g) htl) rfl rfl (by simp only [evWB, Nat.reduceBEq, Nat.reduceAdd, Nat.reduceSub, Nat.reduceLeDiff, Nat.reduceLT, implies_true]) (by simp only [evWB, Nat.reduceBEq, Nat.reduceAdd, Nat.reduceSub, Nat.reduceLeDiff, Nat.reduceLT, implies_true]) ?_
    rintro v H' nx' ⟨m, rfl, rfl, rfl⟩
    (repeat first | simp (disch := try exact dis1) only [evD, Nat.reduceBEq, Nat.reduceAdd, Nat.reduceLeDiff, zdo] | with_reducible intro _ | ((with_reducible apply And.intro); omega))
    refine ⟨_, ?_, rfl⟩
    have := List.length_filter_le (zbW g.blocks.length) b.targets
    try simp only [Bool.not_not]
    exact zx8 (l := b.targets.filter (zbW g.blocks.length)) (m := m) trivial rfl (by omega)
def aLL (E : Adj) (n k : Nat) : List (List AV) := (List.range n).map fun i => [if i < k then zat (suc E i) else .nilsl]
theorem zAn {E : Adj} {n k : Nat} : (aLL E n k).length = n := by simp [aLL]
theorem zte {E : Adj} {n : Nat} : aLL E n 0 = List.replicate n [.nilsl] := by
  unfold aLL
  simp only [Nat.not_lt_zero, if_false]
  rw [List.map_const', List.length_range]
theorem zzp {E : Adj} {n k : Nat} : (aLL E n k).set k [zat (suc E k)] = aLL E n (k + 1) := by
  unfold aLL
  rw [zfb]
  refine List.map_congr_left fun i hi => ?_
  unfold updF
  split
  · rename_i h; subst h; rw [if_pos (by omega)]
  · show [if i < k then zat (suc E i) else AV.nilsl] = _
    by_cases h : i < k
    · rw [if_pos h, if_pos (by omega)]
    · rw [if_neg h, if_neg (by omega)]
theorem zsS {E : Adj} {n k : Nat} : zw (aLL E n k) := by
  intro c hc
  obtain ⟨i, _, rfl⟩ := List.mem_map.1 hc
  split <;> rfl
theorem zAa {E : Adj} {n : Nat} (hn : E.length = n) : aLL E n n = E.map cNs := by
  subst hn
  apply List.ext_getElem?
  intro i
  unfold aLL
  by_cases hi : i < E.length
  · simp [hi, suc, List.getD_eq_getElem?_getD]
  · simp [hi]
theorem zmg (g : Gr) (hg : g.small) : zk Tryz.prog zdk [.agg g.cells] (· = zl4 g.E) := by
  refine fn_x zmj rfl ?_
  unfold zhF
  have hB := hBig
  have hn := hg.1
  have hlen := g.E_len
  (repeat first | simp (disch := try exact dis1) only [evD, Nat.reduceBEq, Nat.reduceAdd, Nat.reduceLeDiff, Gr.cells] | with_reducible intro _ | ((with_reducible apply And.intro); omega))
  refine zm (fun k : Nat => ([(1, encP 2 g.cells), (3, .own 0 0 0 0 g.blocks.length), (11, .int .i64 g.blocks.length), (12, .int .i64 k)], [(0, .row 1 (aLL g.E g.blocks.length k) 0)])) 1 (fun k => k ≤ g.blocks.length) (fun k => g.blocks.length - k) 0 (Nat.zero_le _) (Ent.tab [(0, 1, 0)] [] rfl (by (try simp only [evWB, Nat.reduceBEq, Nat.reduceAdd, Nat.reduceSub, Nat.reduceLeDiff, Nat.reduceLT, implies_true, Gr.cells, zte]) <;> exact fin4) (by (try simp only [evWB, Nat.reduceBEq, Nat.reduceAdd, Nat.reduceSub, Nat.reduceLeDiff, Nat.reduceLT, implies_true, Gr.cells, zte]) <;> exact fin4)) ?_
  intro k hk wf
  unfold zfv
  (repeat first | simp (disch := try exact dis1) only [evD, Nat.reduceBEq, Nat.reduceAdd, Nat.reduceLeDiff, encP, Gr.cells] | with_reducible intro _ | ((with_reducible apply And.intro); omega))
  (refine zp (fun h => ?_) (fun h => ?_)) <;> (try simp only [dcd] at h)
  · (repeat first | simp (disch := try exact dis1) only [evD, Nat.reduceBEq, Nat.reduceAdd, Nat.reduceLeDiff, Gr.two] | with_reducible intro _ | ((with_reducible apply And.intro); omega))
    refine ze (zh (zkG g hg k (by omega)) rfl) ?_
    (repeat first | simp (disch := try exact dis1) only [evD, Nat.reduceBEq, Nat.reduceAdd, Nat.reduceLeDiff, zAn] | with_reducible intro _ | ((with_reducible apply And.intro); omega))
    have e : (aLL g.E g.blocks.length k).set k (zat (suc g.E k)).cells = aLL g.E g.blocks.length (k + 1) := zzp
    refine ⟨⟨by omega, rfl, rfl⟩, ?_⟩
    rw [e]
    (repeat first | simp (disch := try exact dis1) only [evD, Nat.reduceBEq, Nat.reduceAdd, Nat.reduceLeDiff] | with_reducible intro _ | ((with_reducible apply And.intro); omega))
    exact ⟨k + 1, by omega, by omega, (Ent.tab [(0, 0, 0)] [] rfl (by (try simp only [evWB, Nat.reduceBEq, Nat.reduceAdd, Nat.reduceSub, Nat.reduceLeDiff, Nat.reduceLT, implies_true, Gr.cells, zhw zsS]) <;> exact fin4) (by (try simp only [evWB, Nat.reduceBEq, Nat.reduceAdd, Nat.reduceSub, Nat.reduceLeDiff, Nat.reduceLT, implies_true, Gr.cells, zhw zsS]) <;> exact fin4))⟩
  · obtain rfl : k = g.blocks.length := by omega
    unfold zfw
    (repeat first | simp (disch := try exact dis1) only [evD, Nat.reduceBEq, Nat.reduceAdd, Nat.reduceLeDiff, zhL] | with_reducible intro _ | ((with_reducible apply And.intro); omega))
    refine ⟨_, ?_, rfl⟩
    rw [zAa hlen]
    have := vw_NN (H := [(0, .row 1 (g.E.map cNs) 0)]) (H2 := []) (σ := nos) (D := allR) (t := false) (r := 0) (q := 0) (g := 0) (l := g.E) trivial rfl (by omega)
    rwa [hlen] at this
structure Adj.small (A : Adj) : Prop where
  len : A.length ≤ 2000
  row : ∀ k, (suc A k).length ≤ 2000000
def keepP (l : List Nat) (j : Nat) : Bool := j == 0 || (l.getD j 0 != l.getD (j - 1) 0)
def keepL (l : List Nat) (n : Nat) : List Nat := (filR (keepP l) n).map (fun j => l.getD j 0)
theorem _root_.Go.Ab.Gr.E_small {g : Gr} (hg : g.small) : g.E.small := by
  refine ⟨by rw [g.E_len]; have := hg.1; omega, fun k => ?_⟩
  unfold suc Gr.E
  rw [List.getD_eq_getElem?_getD, List.getElem?_map]
  cases hb : g.blocks[k]? with
  | none => simp
  | some b =>
    simp only [Option.map_some, Option.getD_some, List.length_map]
    have h1 := List.length_filter_le (zbW g.blocks.length) b.targets
    have h2 := hg.2 b (List.mem_of_getElem? hb)
    omega
def inB (n : Nat) (l : List Nat) : List Bool := mapR (fun i => decide (i ∈ l)) n
theorem zpl {n : Nat} {l : List Nat} : (inB n l).length = n := zyN
theorem zzG {n i : Nat} {l : List Nat} (h : i < n) : ((inB n l).map cB).getD i [] = [.bool (decide (i ∈ l))] := by
  simp [inB, mapR, List.getD_eq_getElem?_getD, h]
theorem zuQ {n k : Nat} {l : List Nat} : ((inB n l).map cB).set k [.bool true] = (inB n (l ++ [k])).map cB := by
  unfold inB mapR
  rw [List.map_map, List.map_map, zfb]
  refine List.map_congr_left fun i hi => ?_
  unfold updF
  split
  · rename_i h; subst h; simp
  · rename_i h; simp [h]
theorem zo0 {n : Nat} : (inB n []).map cB = List.replicate n [.bool false] := by
  unfold inB mapR
  rw [List.map_map]
  have : (cB ∘ fun i => decide (i ∈ ([] : List Nat))) = fun _ => [AV.bool false] := by funext i; simp
  rw [this, List.map_const', List.length_range]
def zb0 (A : Adj) : List AV := [.ptr 1 0 0 0 0, .iptr 1 fun j => [zl4 A].getD j .undef, .ptr 3 0 0 0 0, .ptr 2 0 0 0 0]
def ordH (A : Adj) (s : List Nat × List Nat) (g : Nat) : AH := [(0, .row 1 ((inB A.length s.1).map cB) 0), (1, .row 1 [[.own 0 0 0 0 A.length]] 0), (2, .row 1 [[.own 4 0 g 0 s.2.length]] 0),
  (3, .row 1 [[.fn (.func zbh) (zb0 A)]] 0), (4, .row 1 (s.2.map cN) g)]
theorem zeL (A : Adj) (hA : A.small) (hok : A.ok) : ∀ (f : Nat) (k g : Nat) (s : List Nat × List Nat) (m d : Nat), DfsI A.length m d s → k < A.length → k ∉ s.1 → A.length ≤ f + m →
    zaf Tryz.prog zbh ([.int .i64 k] ++ zb0 A) (ordH A s g) 5 (fun v H nx => ∃ g', v = .tup [] ∧ H = ordH A (dfs A f k s) g' ∧ nx = 5)
  | 0, k, g, s, m, d, hs, hk, hn, hf => by
    have := (hs.nd.snoc hk hn).len
    have := hs.le
    simp at *
    omega
  | f + 1, k, g, s, m, d, hs, hk, hn, hf => by
    have ih := zeL A hA hok f
    have hB := hBig
    have hsl := hs.nd.len
    have hsp := hs.post
    have hAl := hA.len
    refine ze4 (fn_x zjo rfl ?_)
    unfold zeZ
    have hE : ∀ c ∈ suc A k, c < A.length := hok k
    have hstart : DfsI A.length (m + 1) (d + 1) (s.1 ++ [k], s.2) := ⟨hs.nd.snoc hk hn, by have := hs.le; simp; omega, by simp; omega⟩
    have hdfs := zmu A f k s
    have hrow := hA.row k
    rw [zAb hk] at hE hdfs hrow
    (repeat first | simp (disch := try exact dis1) only [evD, Nat.reduceBEq, Nat.reduceAdd, Nat.reduceLeDiff, zb0, ordH, zpl, zl4, zat, zo hk, zuQ] | with_reducible intro _ | ((with_reducible apply And.intro); omega))
    generalize hcs : A[k] = cs at hE hdfs hrow ⊢
    let S := fun i : Nat => (cs.take i).foldl (za2 A f) (s.1 ++ [k], s.2)
    refine zm (fun a : Nat × Nat => ([(0, .int .i64 k), (1, .ptr 1 0 0 0 0), (3, .ptr 3 0 0 0 0), (4, .ptr 2 0 0 0 0), (14, zat cs), (15, .int .i64 cs.length), (16, .int .i64 a.1)], ordH A (S a.1) a.2)) 5
      (fun a => a.1 ≤ cs.length) (fun a => cs.length - a.1) (0, g) (Nat.zero_le _) (Ent.tabB [(0, 0, 0), (1, 1, 0), (2, 2, 0), (3, 3, 0), (4, 4, 0)] [] rfl rfl rfl (by (try simp only [evWB, Nat.reduceBEq, Nat.reduceAdd, Nat.reduceSub, Nat.reduceLeDiff, Nat.reduceLT, implies_true, S, List.foldl_nil, ordH, zb0, zl4]) <;> exact fin4) (by (try simp only [evWB, Nat.reduceBEq, Nat.reduceAdd, Nat.reduceSub, Nat.reduceLeDiff, Nat.reduceLT, implies_true, S, List.foldl_nil, ordH, zb0, zl4]) <;> exact fin4)) ?_
    rintro ⟨i, a0⟩ hi wf
    simp only at hi
    unfold zdH
    (repeat first | simp (disch := try exact dis1) only [evD, Nat.reduceBEq, Nat.reduceAdd, Nat.reduceLeDiff, ordH, zat] | with_reducible intro _ | ((with_reducible apply And.intro); omega))
    have hS : DfsI A.length (m + 1) (d + 1) (S i) := zfl (ziP hok f (m + 1) (d + 1)) (cs.take i) _ (fun c hc => hE c (List.mem_of_mem_take hc)) hstart
    have hSl := hS.nd.len
    (refine zp (fun h => ?_) (fun h => ?_)) <;> (try simp only [dcd] at h)
    · have hi' : i < cs.length := by omega
      have hst : S (i + 1) = za2 A f (S i) cs[i] := zfq hi'
      have hc := hE cs[i] (List.getElem_mem hi')
      generalize S i = s1 at hS hSl hst ⊢
      (repeat first | simp (disch := try exact dis1) only [evD, Nat.reduceBEq, Nat.reduceAdd, Nat.reduceLeDiff, zo hi'] | with_reducible intro _ | ((with_reducible apply And.intro); omega))
      generalize cs[i] = c at hst hc ⊢
      (repeat first | simp (disch := try exact dis1) only [evD, Nat.reduceBEq, Nat.reduceAdd, Nat.reduceLeDiff, zpl, zzG hc] | with_reducible intro _ | ((with_reducible apply And.intro); omega))
      (refine zp (fun h2 => ?_) (fun h2 => ?_)) <;> (try simp only [dcd] at h2)
      · have e : za2 A f s1 c = dfs A f c s1 := by unfold za2; rw [if_neg h2]
        rw [e] at hst
        (repeat first | simp (disch := try exact dis1) only [evD, Nat.reduceBEq, Nat.reduceAdd, Nat.reduceLeDiff, zb0] | with_reducible intro _ | ((with_reducible apply And.intro); omega))
        refine ⟨by kernel_rfl, ?_⟩
        refine zcz [(0, 0, 0), (1, 1, 0), (2, 2, 0), (3, 3, 0), (4, 4, 0)] 5 _ (ih c a0 s1 (m + 1) (d + 1) hS hc h2 (by omega)) rfl rfl (by (try simp only [evWB, Nat.reduceBEq, Nat.reduceAdd, Nat.reduceSub, Nat.reduceLeDiff, Nat.reduceLT, implies_true, ordH, zb0]) <;> exact fin4) (by (try simp only [evWB, Nat.reduceBEq, Nat.reduceAdd, Nat.reduceSub, Nat.reduceLeDiff, Nat.reduceLT, implies_true, ordH, zb0]) <;> exact fin4) ?_
        rintro v H' nx' ⟨g', rfl, rfl, rfl⟩
        (repeat first | simp (disch := try exact dis1) only [evD, Nat.reduceBEq, Nat.reduceAdd, Nat.reduceLeDiff, ordH, zb0] | with_reducible intro _ | ((with_reducible apply And.intro); omega))
        exact ⟨(i + 1, g'), by simp only; omega, by simp only; omega, (Ent.tabB [(0, 0, 0), (1, 1, 0), (2, 2, 0), (3, 3, 0), (4, 4, 0)] [] rfl rfl rfl (by (try simp only [evWB, Nat.reduceBEq, Nat.reduceAdd, Nat.reduceSub, Nat.reduceLeDiff, Nat.reduceLT, implies_true, hst, ordH, zb0]) <;> exact fin4) (by (try simp only [evWB, Nat.reduceBEq, Nat.reduceAdd, Nat.reduceSub, Nat.reduceLeDiff, Nat.reduceLT, implies_true, hst, ordH, zb0]) <;> exact fin4))⟩
      · have e : za2 A f s1 c = s1 := by unfold za2; rw [if_pos h2]
        rw [e] at hst
        (repeat first | simp (disch := try exact dis1) only [evD, Nat.reduceBEq, Nat.reduceAdd, Nat.reduceLeDiff] | with_reducible intro _ | ((with_reducible apply And.intro); omega))
        exact ⟨(i + 1, a0), by simp only; omega, by simp only; omega, (Ent.tabB [(0, 0, 0), (1, 1, 0), (2, 2, 0), (3, 3, 0), (4, 4, 0)] [] rfl rfl rfl (by (try simp only [evWB, Nat.reduceBEq, Nat.reduceAdd, Nat.reduceSub, Nat.reduceLeDiff, Nat.reduceLT, implies_true, hst, ordH, zb0]) <;> exact fin4) (by (try simp only [evWB, Nat.reduceBEq, Nat.reduceAdd, Nat.reduceSub, Nat.reduceLeDiff, Nat.reduceLT, implies_true, hst, ordH, zb0]) <;> exact fin4))⟩
    · unfold zdv
      have hi' : cs.length ≤ i := by omega
      have hSe : S i = cs.foldl (za2 A f) (s.1 ++ [k], s.2) := by simp only [S]; rw [List.take_of_length_le hi']
      have := hS.post
      (repeat first | simp (disch := try exact dis1) only [evD, Nat.reduceBEq, Nat.reduceAdd, Nat.reduceLeDiff, zeO] | with_reducible intro _ | ((with_reducible apply And.intro); omega))
      refine ⟨.tup [], ordH A (dfs A (f + 1) k s) (a0 + 1), 5, ?_, a0 + 1, rfl, rfl, rfl⟩
      rw [hSe, hdfs]
      exact (Ent.tabB [(0, 0, 0), (1, 1, 0), (2, 2, 0), (3, 3, 0), (4, 4, 0)] [] rfl rfl rfl (by (try simp only [evWB, Nat.reduceBEq, Nat.reduceAdd, Nat.reduceSub, Nat.reduceLeDiff, Nat.reduceLT, implies_true, ordH, zb0]) <;> exact fin4) (by (try simp only [evWB, Nat.reduceBEq, Nat.reduceAdd, Nat.reduceSub, Nat.reduceLeDiff, Nat.reduceLT, implies_true, ordH, zb0]) <;> exact fin4))
def revP (l : List Nat) (i x : Nat) : Nat := if x < i ∨ l.length - i ≤ x then l.getD (l.length - 1 - x) 0 else l.getD x 0
def revL (l : List Nat) (i : Nat) : List Nat := (List.range l.length).map (revP l i)
theorem zxw {l : List Nat} {i : Nat} : (revL l i).length = l.length := by simp [revL]
theorem zp6 {l : List Nat} : revL l 0 = l := by
  apply List.ext_getElem?
  intro x
  unfold revL revP
  by_cases hx : x < l.length
  · have : ¬ l.length ≤ x := by omega
    simp [hx, List.getD_eq_getElem?_getD, this]
  · simp [hx]
theorem zx5 {l : List Nat} {i : Nat} (h : l.length ≤ 2 * i + 1) : revL l i = l.reverse := by
  apply List.ext_getElem?
  intro x
  unfold revL revP
  by_cases hx : x < l.length
  · rw [List.getElem?_reverse hx]
    simp only [List.getElem?_map, List.getElem?_range hx, Option.map_some]
    by_cases hc : x < i ∨ l.length - i ≤ x
    · rw [if_pos hc]
      rw [List.getD_eq_getElem?_getD, List.getElem?_eq_getElem (show l.length - 1 - x < l.length by omega)]
      rfl
    · rw [if_neg hc, show l.length - 1 - x = x by omega, List.getD_eq_getElem?_getD, List.getElem?_eq_getElem hx]
      rfl
  · simp [hx]
theorem zsW {l : List Nat} {i x : Nat} (hx : x < l.length) : ((revL l i).map cN).getD x [] = [.int .i64 (revP l i x : Int)] := by
  simp [revL, List.getD_eq_getElem?_getD, hx]
theorem zwj {l : List Nat} {i : Nat} (h : 2 * i + 1 < l.length) :
    (((revL l i).map cN).set i [.int .i64 (revP l i (l.length - 1 - i) : Int)]).set (l.length - 1 - i) [.int .i64 (revP l i i : Int)] = (revL l (i + 1)).map cN := by
  unfold revL
  rw [List.map_map, List.map_map, zfb, zfb]
  refine List.map_congr_left fun x hx => ?_
  have hx' := List.mem_range.1 hx
  unfold updF
  simp only [Function.comp]
  by_cases h1 : x = l.length - 1 - i
  · rw [if_pos h1]
    unfold revP
    rw [if_neg (by omega), if_pos (by omega), show l.length - 1 - x = i by omega]
  · rw [if_neg h1]
    by_cases h2 : x = i
    · rw [if_pos h2]
      unfold revP
      rw [if_neg (by omega), if_pos (by omega), h2]
    · rw [if_neg h2]
      unfold revP
      by_cases h3 : x < i ∨ l.length - i ≤ x
      · rw [if_pos h3, if_pos (by omega)]
      · rw [if_neg h3, if_neg (by omega)]
theorem zk5 (l : List Nat) (g : Nat) (hl : l.length ≤ 1000000) : zaf Tryz.prog za0 [.own 0 0 g 0 l.length] [(0, .row 1 (l.map cN) g)] 1
    (fun v H nx => v = .tup [] ∧ H = [(0, .row 1 (l.reverse.map cN) g)] ∧ nx = 1) := by
  refine ze4 (fn_x zgu rfl ?_)
  unfold zcQ
  have hB := hBig
  (repeat first | simp (disch := try exact dis1) only [evD, Nat.reduceBEq, Nat.reduceAdd, Nat.reduceLeDiff] | with_reducible intro _ | ((with_reducible apply And.intro); omega))
  refine zm (fun i : Nat => ([(0, .own 0 0 g 0 l.length), (2, .int .i64 i), (3, .int .i64 ((l.length : Int) - 1 - i))], [(0, .row 1 ((revL l i).map cN) g)])) 1 (fun i => 2 * i ≤ l.length + 1) (fun i => l.length + 1 - i) 0 (by omega) (Ent.tabB [(0, 0, 0)] [] rfl rfl rfl (by (try simp only [evWB, Nat.reduceBEq, Nat.reduceAdd, Nat.reduceSub, Nat.reduceLeDiff, Nat.reduceLT, implies_true, zp6]) <;> exact fin4) (by (try simp only [evWB, Nat.reduceBEq, Nat.reduceAdd, Nat.reduceSub, Nat.reduceLeDiff, Nat.reduceLT, implies_true, zp6]) <;> exact fin4)) ?_
  intro i hi wf
  unfold zb2
  (repeat first | simp (disch := try exact dis1) only [evD, Nat.reduceBEq, Nat.reduceAdd, Nat.reduceLeDiff] | with_reducible intro _ | ((with_reducible apply And.intro); omega))
  (refine zp (fun h => ?_) (fun h => ?_)) <;> (try simp only [dcd] at h)
  · have e : ((l.length : Int) - 1 - i).toNat = l.length - 1 - i := by omega
    (repeat first | simp (disch := try exact dis1) only [evD, Nat.reduceBEq, Nat.reduceAdd, Nat.reduceLeDiff, e, zxw, zsW (l := l) (i := i) (show l.length - 1 - i < l.length by omega), zsW (l := l) (i := i) (show i < l.length by omega), List.length_set] | with_reducible intro _ | ((with_reducible apply And.intro); omega))
    rw [zwj (by omega)]
    exact ⟨i + 1, by omega, by omega, (Ent.tabB [(0, 0, 0)] [] rfl rfl rfl (by (try simp only [evWB, Nat.reduceBEq, Nat.reduceAdd, Nat.reduceSub, Nat.reduceLeDiff, Nat.reduceLT, implies_true]) <;> exact fin4) (by (try simp only [evWB, Nat.reduceBEq, Nat.reduceAdd, Nat.reduceSub, Nat.reduceLeDiff, Nat.reduceLT, implies_true]) <;> exact fin4))⟩
  · (repeat first | simp (disch := try exact dis1) only [evD, Nat.reduceBEq, Nat.reduceAdd, Nat.reduceLeDiff, zcP] | with_reducible intro _ | ((with_reducible apply And.intro); omega))
    refine ⟨.tup [], [(0, .row 1 (l.reverse.map cN) g)], 1, ?_, rfl, rfl, rfl⟩
    rw [zx5 (by omega)]
    exact (Ent.tabB [(0, 0, 0)] [] rfl rfl rfl (by (try simp only [evWB, Nat.reduceBEq, Nat.reduceAdd, Nat.reduceSub, Nat.reduceLeDiff, Nat.reduceLT, implies_true]) <;> exact fin4) (by (try simp only [evWB, Nat.reduceBEq, Nat.reduceAdd, Nat.reduceSub, Nat.reduceLeDiff, Nat.reduceLT, implies_true]) <;> exact fin4))
def ordL (A : Adj) (r : Nat) : List Nat := (dfs A A.length r ([], [])).2.reverse
theorem zzF {A : Adj} (hok : A.ok) {r : Nat} (hr : r < A.length) : DfsI A.length 0 0 (dfs A A.length r ([], [])) :=
  ziP hok A.length 0 0 r _ ⟨⟨by simp, by simp⟩, by simp, by simp⟩ hr (by simp)
theorem zkI (A : Adj) (hA : A.small) (hok : A.ok) (r : Nat) (hr : r < A.length) : zk Tryz.prog zbG [zl4 A, .int .i64 r] (· = zat (ordL A r)) := by
  refine fn_x zgg rfl ?_
  unfold zdj
  have hB := hBig
  have hn := hA.len
  have hd := zzF hok hr
  have hdl := hd.nd.len
  have hdp := hd.post
  have h0 : DfsI A.length 0 0 ([], []) := ⟨⟨by simp, by simp⟩, by simp, by simp⟩
  (repeat first | simp (disch := try exact dis1) only [evD, Nat.reduceBEq, Nat.reduceAdd, Nat.reduceLeDiff, zl4] | with_reducible intro _ | ((with_reducible apply And.intro); omega))
  (refine zp (fun h => ?_) (fun h => ?_)) <;> (try simp only [dcd] at h)
  · omega
  (repeat first | simp (disch := try exact dis1) only [evD, Nat.reduceBEq, Nat.reduceAdd, Nat.reduceLeDiff] | with_reducible intro _ | ((with_reducible apply And.intro); omega))
  refine ⟨by kernel_rfl, ?_⟩
  refine zcz [(0, 1, 0), (1, 2, 0), (2, 3, 0), (3, 4, 0)] 5 _ (zeL A hA hok A.length r 0 ([], []) 0 0 h0 hr (by simp) (by omega)) rfl rfl (by (try simp only [evWB, Nat.reduceBEq, Nat.reduceAdd, Nat.reduceSub, Nat.reduceLeDiff, Nat.reduceLT, implies_true, ordH, zb0, zo0, zl4]) <;> exact fin4) (by (try simp only [evWB, Nat.reduceBEq, Nat.reduceAdd, Nat.reduceSub, Nat.reduceLeDiff, Nat.reduceLT, implies_true, ordH, zb0, zo0, zl4]) <;> exact fin4) ?_
  rintro v H' nx' ⟨g', rfl, rfl, rfl⟩
  unfold ordL
  generalize dfs A A.length r ([], []) = s at hdl hdp ⊢
  (repeat first | simp (disch := try exact dis1) only [evD, Nat.reduceBEq, Nat.reduceAdd, Nat.reduceLeDiff, ordH, zb0] | with_reducible intro _ | ((with_reducible apply And.intro); omega))
  refine zcz [(0, 9, 0)] 1 _ (zk5 s.2 g' (by omega)) rfl rfl (by (try simp only [evWB, Nat.reduceBEq, Nat.reduceAdd, Nat.reduceSub, Nat.reduceLeDiff, Nat.reduceLT, implies_true]) <;> exact fin4) (by (try simp only [evWB, Nat.reduceBEq, Nat.reduceAdd, Nat.reduceSub, Nat.reduceLeDiff, Nat.reduceLT, implies_true]) <;> exact fin4) ?_
  rintro v H' nx' ⟨rfl, rfl, rfl⟩
  (repeat first | simp (disch := try exact dis1) only [evD, Nat.reduceBEq, Nat.reduceAdd, Nat.reduceLeDiff, zdx] | with_reducible intro _ | ((with_reducible apply And.intro); omega))
  refine ⟨_, ?_, rfl⟩
  rw [show s.2.length = s.2.reverse.length by simp]
  exact zia trivial rfl (by simp; omega)
theorem zi9 (A : Adj) (r : Nat) (hr : A.length ≤ r) : zk Tryz.prog zbG [zl4 A, .int .i64 r] (· = zat []) := by
  refine fn_x zgg rfl ?_
  unfold zdj
  (repeat first | simp (disch := try exact dis1) only [evD, Nat.reduceBEq, Nat.reduceAdd, Nat.reduceLeDiff, zl4] | with_reducible intro _ | ((with_reducible apply And.intro); omega))
  (refine zp (fun h => ?_) (fun h => ?_)) <;> (try simp only [dcd] at h)
  · (repeat first | simp (disch := try exact dis1) only [evD, Nat.reduceBEq, Nat.reduceAdd, Nat.reduceLeDiff, zdx] | with_reducible intro _ | ((with_reducible apply And.intro); omega))
    refine ⟨_, ?_, rfl⟩
    exact zia (l := []) trivial rfl (Nat.zero_le _)
  · omega
theorem zkF (g : Gr) (hg : g.small) : zk Tryz.prog zaC [.agg g.cells] (· = zat (orderL g.E)) := by
  refine fn_x zkr rfl ?_
  unfold zfY
  (repeat first | simp (disch := try exact dis1) only [evD, Nat.reduceBEq, Nat.reduceAdd, Nat.reduceLeDiff, Gr.cells, Gr.two] | with_reducible intro _ | ((with_reducible apply And.intro); omega))
  refine ze (zh (zmg g hg) rfl) ?_
  (repeat first | simp (disch := try exact dis1) only [evD, Nat.reduceBEq, Nat.reduceAdd, Nat.reduceLeDiff] | with_reducible intro _ | ((with_reducible apply And.intro); omega))
  by_cases h0 : 0 < g.E.length
  · refine ze (zh (zkI g.E (Gr.E_small hg) g.E_ok 0 h0) rfl) ?_
    (repeat first | simp (disch := try exact dis1) only [evD, Nat.reduceBEq, Nat.reduceAdd, Nat.reduceLeDiff, zdI] | with_reducible intro _ | ((with_reducible apply And.intro); omega))
    refine ⟨_, .sl _ _ _ _, ?_⟩
    have : orderL g.E = ordL g.E 0 := by unfold orderL ordL; rw [if_neg (by omega)]
    rw [this]
    rfl
  · refine ze (zh (zi9 g.E 0 (by omega)) rfl) ?_
    (repeat first | simp (disch := try exact dis1) only [evD, Nat.reduceBEq, Nat.reduceAdd, Nat.reduceLeDiff, zdI] | with_reducible intro _ | ((with_reducible apply And.intro); omega))
    refine ⟨_, .sl _ _ _ _, ?_⟩
    have : orderL g.E = [] := by unfold orderL; rw [if_pos (by omega)]
    rw [this]
    rfl
end Go.Ab.Dm
