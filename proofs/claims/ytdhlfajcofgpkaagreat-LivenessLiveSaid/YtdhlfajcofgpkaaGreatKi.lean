/-
  Part 9 of the proof: how the calls of this program run, over values instead of memory, and what each function computes.
-/
import Derived.Test.YtdhlfajcofgpkaaGreatKh
set_option maxRecDepth 100000
set_option linter.unusedVariables false
set_option linter.unusedSimpArgs false
set_option linter.unnecessarySimpa false
set_option linter.unusedSectionVars false

namespace Go.Ab
open Go.RowKit Go.Proofs
structure SetS (c : Int) (ps : List (Int × Int)) : Prop where
  keys : (ps.map (·.1)).Nodup
  borns : (ps.map (·.2)).Nodup
  lt : ∀ p ∈ ps, p.2 < c
  top : c ≤ 1000000
  len : ps.length ≤ 1000000
theorem zrt {ps sel : List (Int × Int)} (h1 : sel.Nodup) (h2 : ps.Nodup) (h3 : ∀ p ∈ sel, p ∈ ps) (h4 : ∀ p ∈ ps, p ∈ sel) : sel.Perm ps :=
  List.perm_iff_count.2 fun a => by
    by_cases ha : a ∈ ps
    · rw [List.Nodup.count h1, List.Nodup.count h2, if_pos ha, if_pos (h4 a ha)]
    · rw [List.Nodup.count h1, List.Nodup.count h2, if_neg ha, if_neg (fun h => ha (h3 a h))]
theorem zkr (c : Int) (ps : List (Int × Int)) (hs : SetS c ps) : zS Tryz.prog ze [.mp 0 0] [(0, .row 3 ((setM c ps).map cm) 0)] 1
    (fun v H nx => v = za (zbS (ps.map (·.1))) ∧ H = [(0, .row 3 ((setM c ps).map cm) 0)] ∧ nx = 1) := by
  refine zbD (fn_x zdX rfl ?_)
  unfold zce
  have hB := hBig
  have htop := hs.top
  have hlen := hs.len
  (repeat first | simp (disch := try exact dis1) only [evD, Nat.reduceBEq, Nat.reduceAdd, Nat.reduceLeDiff, evM, zh, znH] | with_reducible intro _ | ((with_reducible apply And.intro); omega))
  refine zm (fun sel : List (Int × Int) => ([(3, .own 1 0 0 0 sel.length), (6, .it 2)], [(0, .row 3 ((setM c ps).map cm) 0), (1, .row 1 (sel.map fun p => cI p.1) 0), (2, .row 1 ([.mp 0 0] :: [.int .i64 c] :: [.int .i64 c] :: sel.map fun p => [.int .i64 p.2]) 0)])) 3
    (fun sel => sel.Nodup ∧ ∀ p ∈ sel, p ∈ ps) (fun sel => ps.length - sel.length) [] ⟨List.nodup_nil, fun p h => by cases h⟩ (Ent.tabB [(0, 0, 0), (1, 2, 0), (2, 3, 0)] [] rfl rfl rfl (by (try simp only [evWB, Nat.reduceBEq, Nat.reduceAdd, Nat.reduceSub, Nat.reduceLeDiff, Nat.reduceLT, implies_true, zh]) <;> (repeat' with_reducible apply And.intro) <;> first | (refine zb zc (by decide) ⟨rfl, rfl⟩ ?_; (try simp only [evWB, Nat.reduceBEq, Nat.reduceAdd, Nat.reduceSub, Nat.reduceLeDiff, Nat.reduceLT, implies_true, zh]) <;> (repeat' with_reducible apply And.intro) <;> first | (refine zb zc (by decide) ⟨rfl, rfl⟩ ?_; (try simp only [evWB, Nat.reduceBEq, Nat.reduceAdd, Nat.reduceSub, Nat.reduceLeDiff, Nat.reduceLT, implies_true, zh]) <;> exact fin6; done) | exact fin6; done) | exact fin6) (by (try simp only [evWB, Nat.reduceBEq, Nat.reduceAdd, Nat.reduceSub, Nat.reduceLeDiff, Nat.reduceLT, implies_true, zh]) <;> (repeat' with_reducible apply And.intro) <;> first | (refine zb zc (by decide) ⟨rfl, rfl⟩ ?_; (try simp only [evWB, Nat.reduceBEq, Nat.reduceAdd, Nat.reduceSub, Nat.reduceLeDiff, Nat.reduceLT, implies_true, zh]) <;> (repeat' with_reducible apply And.intro) <;> first | (refine zb zc (by decide) ⟨rfl, rfl⟩ ?_; (try simp only [evWB, Nat.reduceBEq, Nat.reduceAdd, Nat.reduceSub, Nat.reduceLeDiff, Nat.reduceLT, implies_true, zh]) <;> exact fin6; done) | exact fin6; done) | exact fin6)) ?_
  rintro sel ⟨hnd, hsub⟩ wf
  have hpn : ps.Nodup := zgW hs.keys
  have hsl : sel.length ≤ ps.length := List.Nodup.length_le_of_subset hnd hsub
  unfold zbu
  (repeat first | simp (disch := try exact dis1) only [evD, Nat.reduceBEq, Nat.reduceAdd, Nat.reduceLeDiff] | with_reducible intro _ | ((with_reducible apply And.intro); omega))
  refine zrh (ps := ps) (sel := sel) (c := c) rfl rfl (by omega) hs.lt hs.borns hsub (fun hall => ?_) (fun p hp hns => ?_)
  · have hperm := zrt hnd hpn hsub hall
    have hlen2 := hperm.length_eq
    (repeat first | simp (disch := try exact dis1) only [evD, Nat.reduceBEq, Nat.reduceAdd, Nat.reduceLeDiff] | with_reducible intro _ | ((with_reducible apply And.intro); omega))
    have hsort : zbS (sel.map (·.1)) = zbS (ps.map (·.1)) := zk9 (((zP _).trans (hperm.map _)).trans (zP _).symm) (zbl _) (zbl _)
    have hmm : (sel.map fun p => cI p.1) = (sel.map (·.1)).map fun n => [AV.int .i64 n] := by rw [List.map_map]; rfl
    rw [hmm]
    unfold zbr
    (repeat first | simp (disch := try exact dis1) only [evD, Nat.reduceBEq, Nat.reduceAdd, Nat.reduceLeDiff] | with_reducible intro _ | ((with_reducible apply And.intro); omega))
    have hsc := zkQ (H := [(0, .row 3 ((setM c ps).map cm) 0), (1, .row 1 ((sel.map (·.1)).map fun n => [AV.int .i64 n]) 0), (2, .row 1 ([.mp 0 0] :: [.int .i64 c] :: [.int .i64 c] :: sel.map fun p => [.int .i64 p.2]) 0)]) (nx := 3) (r := 1) (q := 0) (g := 0) (zs := sel.map (·.1)) rfl (by rw [List.length_map]; omega)
    rw [List.length_map] at hsc
    refine zjx hsc ?_
    rintro _ _ _ hres
    simp only [Prod.mk.injEq] at hres
    obtain ⟨rfl, rfl, rfl⟩ := hres
    have hl3 : sel.length = (zbS (ps.map (·.1))).length := by rw [(zP _).length_eq, List.length_map]; exact hlen2
    rw [hsort, hl3]
    generalize zbS (ps.map (·.1)) = so at hl3 ⊢
    (repeat first | simp (disch := try exact dis1) only [evD, Nat.reduceBEq, Nat.reduceAdd, Nat.reduceLeDiff, zb9] | with_reducible intro _ | ((with_reducible apply And.intro); omega))
    exact ⟨za so, [(0, .row 3 ((setM c ps).map cm) 0)], 1, (Ent.tabB [(0, 0, 0)] [1] rfl rfl rfl (by (try simp only [evWB, Nat.reduceBEq, Nat.reduceAdd, Nat.reduceSub, Nat.reduceLeDiff, Nat.reduceLT, implies_true, zh]) <;> (repeat' with_reducible apply And.intro) <;> first | (refine zb zc (by decide) ⟨rfl, rfl⟩ ?_; (try simp only [evWB, Nat.reduceBEq, Nat.reduceAdd, Nat.reduceSub, Nat.reduceLeDiff, Nat.reduceLT, implies_true, zh]) <;> (repeat' with_reducible apply And.intro) <;> first | (refine zb zc (by decide) ⟨rfl, rfl⟩ ?_; (try simp only [evWB, Nat.reduceBEq, Nat.reduceAdd, Nat.reduceSub, Nat.reduceLeDiff, Nat.reduceLT, implies_true, zh]) <;> exact fin6; done) | exact fin6; done) | exact fin6) (by (try simp only [evWB, Nat.reduceBEq, Nat.reduceAdd, Nat.reduceSub, Nat.reduceLeDiff, Nat.reduceLT, implies_true, zh]) <;> (repeat' with_reducible apply And.intro) <;> first | (refine zb zc (by decide) ⟨rfl, rfl⟩ ?_; (try simp only [evWB, Nat.reduceBEq, Nat.reduceAdd, Nat.reduceSub, Nat.reduceLeDiff, Nat.reduceLT, implies_true, zh]) <;> (repeat' with_reducible apply And.intro) <;> first | (refine zb zc (by decide) ⟨rfl, rfl⟩ ?_; (try simp only [evWB, Nat.reduceBEq, Nat.reduceAdd, Nat.reduceSub, Nat.reduceLeDiff, Nat.reduceLT, implies_true, zh]) <;> exact fin6; done) | exact fin6; done) | exact fin6)), rfl, rfl, rfl⟩
  · have hent := fun (H : AH) (nx : Nat) (hr) (hm) => zq7 (H := H) (nx := nx) (r := 2) (rm := 0) (qm := 0) (c := c) (since := c) (sel := sel) (p := p) hr hm hs.borns hp
    (repeat first | simp (disch := try exact dis1) only [evD, Nat.reduceBEq, Nat.reduceAdd, Nat.reduceLeDiff] | with_reducible intro _ | ((with_reducible apply And.intro); omega))
    rw [hent _ _ rfl rfl]
    (repeat first | simp (disch := try exact dis1) only [evD, Nat.reduceBEq, Nat.reduceAdd, Nat.reduceLeDiff] | with_reducible intro _ | ((with_reducible apply And.intro); omega))
    refine ⟨sel ++ [p], ⟨?_, ?_⟩, ?_, (Ent.tabB [(0, 0, 0), (1, 1, 1), (2, 2, 0)] [] rfl rfl rfl (by (try simp only [evWB, Nat.reduceBEq, Nat.reduceAdd, Nat.reduceSub, Nat.reduceLeDiff, Nat.reduceLT, implies_true, zh, List.length_append, List.length_singleton, List.map_append, List.map_cons, List.map_nil]) <;> (repeat' with_reducible apply And.intro) <;> first | (refine zb zc (by decide) ⟨rfl, rfl⟩ ?_; (try simp only [evWB, Nat.reduceBEq, Nat.reduceAdd, Nat.reduceSub, Nat.reduceLeDiff, Nat.reduceLT, implies_true, zh, List.length_append, List.length_singleton, List.map_append, List.map_cons, List.map_nil]) <;> (repeat' with_reducible apply And.intro) <;> first | (refine zb zc (by decide) ⟨rfl, rfl⟩ ?_; (try simp only [evWB, Nat.reduceBEq, Nat.reduceAdd, Nat.reduceSub, Nat.reduceLeDiff, Nat.reduceLT, implies_true, zh, List.length_append, List.length_singleton, List.map_append, List.map_cons, List.map_nil]) <;> exact fin6; done) | exact fin6; done) | exact fin6) (by (try simp only [evWB, Nat.reduceBEq, Nat.reduceAdd, Nat.reduceSub, Nat.reduceLeDiff, Nat.reduceLT, implies_true, zh, List.length_append, List.length_singleton, List.map_append, List.map_cons, List.map_nil]) <;> (repeat' with_reducible apply And.intro) <;> first | (refine zb zc (by decide) ⟨rfl, rfl⟩ ?_; (try simp only [evWB, Nat.reduceBEq, Nat.reduceAdd, Nat.reduceSub, Nat.reduceLeDiff, Nat.reduceLT, implies_true, zh, List.length_append, List.length_singleton, List.map_append, List.map_cons, List.map_nil]) <;> (repeat' with_reducible apply And.intro) <;> first | (refine zb zc (by decide) ⟨rfl, rfl⟩ ?_; (try simp only [evWB, Nat.reduceBEq, Nat.reduceAdd, Nat.reduceSub, Nat.reduceLeDiff, Nat.reduceLT, implies_true, zh, List.length_append, List.length_singleton, List.map_append, List.map_cons, List.map_nil]) <;> exact fin6; done) | exact fin6; done) | exact fin6))⟩
    · rw [List.nodup_append]
      exact ⟨hnd, by simp, fun a ha b hb e => hns (by rw [List.mem_singleton] at hb; rw [← hb, ← e]; exact ha)⟩
    · intro a ha
      rcases List.mem_append.1 ha with ha | ha
      · exact hsub a ha
      · rw [List.mem_singleton] at ha; rw [ha]; exact hp
    · have : sel.length < ps.length := by
        have := List.Nodup.length_le_of_subset (List.nodup_cons.2 ⟨hns, hnd⟩) (show ∀ a ∈ p :: sel, a ∈ ps from fun a ha => by
          rcases List.mem_cons.1 ha with rfl | ha
          · exact hp
          · exact hsub a ha)
        simp only [List.length_cons] at this
        omega
      rw [List.length_append, List.length_singleton]
      omega
def famS (n : Nat) (S : Nat → Int × List (Int × Int)) : AObj := .fam 3 (fi cm n (fun i => setM (S i).1 (S i).2) (fun _ => 0))
theorem zwI {n k : Nat} {S : Nat → Int × List (Int × Int)} (hk : k < n) {t : AH} : AH.get ((0, famS n S) :: t) 0 (k + 1) = some (.row 3 ((setM (S k).1 (S k).2).map cm) 0) := by
  unfold AH.get famS
  simp only [AH.look, za5, cond_true, Option.bind_some, AObj.part, zkP hk, Option.map_some]
theorem zbN (n k : Nat) (hk : k < n) (S : Nat → Int × List (Int × Int)) (hs : SetS (S k).1 (S k).2) : zS Tryz.prog ze [.mp 0 (k + 1)] [(0, famS n S)] 1
    (fun v H nx => v = za (zbS ((S k).2.map (·.1))) ∧ H = [(0, famS n S)] ∧ nx = 1) := by
  refine zbD (fn_x zdX rfl ?_)
  unfold zce
  have hB := hBig
  have htop := hs.top
  have hlen := hs.len
  have hg := @zwI n k S hk
  unfold famS at hg ⊢
  generalize hc : (S k).1 = c at *
  generalize hps : (S k).2 = ps at *
  (repeat first | simp (disch := try exact dis1) only [evD, Nat.reduceBEq, Nat.reduceAdd, Nat.reduceLeDiff, evM, zkP hk, hc, hps, zh, znH] | with_reducible intro _ | ((with_reducible apply And.intro); omega))
  refine zm (fun sel : List (Int × Int) => ([(3, .own 1 0 0 0 sel.length), (6, .it 2)], [(0, .fam 3 (fi cm n (fun i => setM (S i).1 (S i).2) (fun _ => 0))), (1, .row 1 (sel.map fun p => cI p.1) 0), (2, .row 1 ([.mp 0 (k + 1)] :: [.int .i64 c] :: [.int .i64 c] :: sel.map fun p => [.int .i64 p.2]) 0)])) 3
    (fun sel => sel.Nodup ∧ ∀ p ∈ sel, p ∈ ps) (fun sel => ps.length - sel.length) [] ⟨List.nodup_nil, fun p h => by cases h⟩ (Ent.tabB [(0, 0, 0), (1, 2, 0), (2, 3, 0)] [] rfl rfl rfl (by (try simp only [evWB, Nat.reduceBEq, Nat.reduceAdd, Nat.reduceSub, Nat.reduceLeDiff, Nat.reduceLT, implies_true, zh]) <;> (repeat' with_reducible apply And.intro) <;> first | (refine zb zc (by decide) ⟨rfl, rfl⟩ ?_; (try simp only [evWB, Nat.reduceBEq, Nat.reduceAdd, Nat.reduceSub, Nat.reduceLeDiff, Nat.reduceLT, implies_true, zh]) <;> (repeat' with_reducible apply And.intro) <;> first | (refine zb zc (by decide) ⟨rfl, rfl⟩ ?_; (try simp only [evWB, Nat.reduceBEq, Nat.reduceAdd, Nat.reduceSub, Nat.reduceLeDiff, Nat.reduceLT, implies_true, zh]) <;> exact fin6; done) | exact fin6; done) | exact fin6) (by (try simp only [evWB, Nat.reduceBEq, Nat.reduceAdd, Nat.reduceSub, Nat.reduceLeDiff, Nat.reduceLT, implies_true, zh]) <;> (repeat' with_reducible apply And.intro) <;> first | (refine zb zc (by decide) ⟨rfl, rfl⟩ ?_; (try simp only [evWB, Nat.reduceBEq, Nat.reduceAdd, Nat.reduceSub, Nat.reduceLeDiff, Nat.reduceLT, implies_true, zh]) <;> (repeat' with_reducible apply And.intro) <;> first | (refine zb zc (by decide) ⟨rfl, rfl⟩ ?_; (try simp only [evWB, Nat.reduceBEq, Nat.reduceAdd, Nat.reduceSub, Nat.reduceLeDiff, Nat.reduceLT, implies_true, zh]) <;> exact fin6; done) | exact fin6; done) | exact fin6)) ?_
  rintro sel ⟨hnd, hsub⟩ wf
  have hpn : ps.Nodup := zgW hs.keys
  have hsl : sel.length ≤ ps.length := List.Nodup.length_le_of_subset hnd hsub
  unfold zbu
  (repeat first | simp (disch := try exact dis1) only [evD, Nat.reduceBEq, Nat.reduceAdd, Nat.reduceLeDiff] | with_reducible intro _ | ((with_reducible apply And.intro); omega))
  refine zrh (ps := ps) (sel := sel) (c := c) rfl hg (by omega) hs.lt hs.borns hsub (fun hall => ?_) (fun p hp hns => ?_)
  · have hperm := zrt hnd hpn hsub hall
    have hlen2 := hperm.length_eq
    (repeat first | simp (disch := try exact dis1) only [evD, Nat.reduceBEq, Nat.reduceAdd, Nat.reduceLeDiff] | with_reducible intro _ | ((with_reducible apply And.intro); omega))
    have hsort : zbS (sel.map (·.1)) = zbS (ps.map (·.1)) := zk9 (((zP _).trans (hperm.map _)).trans (zP _).symm) (zbl _) (zbl _)
    have hmm : (sel.map fun p => cI p.1) = (sel.map (·.1)).map fun n => [AV.int .i64 n] := by rw [List.map_map]; rfl
    rw [hmm]
    unfold zbr
    (repeat first | simp (disch := try exact dis1) only [evD, Nat.reduceBEq, Nat.reduceAdd, Nat.reduceLeDiff] | with_reducible intro _ | ((with_reducible apply And.intro); omega))
    have hsc := zkQ (H := [(0, .fam 3 (fi cm n (fun i => setM (S i).1 (S i).2) (fun _ => 0))), (1, .row 1 ((sel.map (·.1)).map fun n => [AV.int .i64 n]) 0), (2, .row 1 ([.mp 0 (k + 1)] :: [.int .i64 c] :: [.int .i64 c] :: sel.map fun p => [.int .i64 p.2]) 0)]) (nx := 3) (r := 1) (q := 0) (g := 0) (zs := sel.map (·.1)) rfl (by rw [List.length_map]; omega)
    rw [List.length_map] at hsc
    refine zjx hsc ?_
    rintro _ _ _ hres
    simp only [Prod.mk.injEq] at hres
    obtain ⟨rfl, rfl, rfl⟩ := hres
    have hl3 : sel.length = (zbS (ps.map (·.1))).length := by rw [(zP _).length_eq, List.length_map]; exact hlen2
    rw [hsort, hl3]
    generalize zbS (ps.map (·.1)) = so at hl3 ⊢
    (repeat first | simp (disch := try exact dis1) only [evD, Nat.reduceBEq, Nat.reduceAdd, Nat.reduceLeDiff, zb9] | with_reducible intro _ | ((with_reducible apply And.intro); omega))
    exact ⟨za so, [(0, .fam 3 (fi cm n (fun i => setM (S i).1 (S i).2) (fun _ => 0)))], 1, (Ent.tabB [(0, 0, 0)] [1] rfl rfl rfl (by (try simp only [evWB, Nat.reduceBEq, Nat.reduceAdd, Nat.reduceSub, Nat.reduceLeDiff, Nat.reduceLT, implies_true, zh]) <;> (repeat' with_reducible apply And.intro) <;> first | (refine zb zc (by decide) ⟨rfl, rfl⟩ ?_; (try simp only [evWB, Nat.reduceBEq, Nat.reduceAdd, Nat.reduceSub, Nat.reduceLeDiff, Nat.reduceLT, implies_true, zh]) <;> (repeat' with_reducible apply And.intro) <;> first | (refine zb zc (by decide) ⟨rfl, rfl⟩ ?_; (try simp only [evWB, Nat.reduceBEq, Nat.reduceAdd, Nat.reduceSub, Nat.reduceLeDiff, Nat.reduceLT, implies_true, zh]) <;> exact fin6; done) | exact fin6; done) | exact fin6) (by (try simp only [evWB, Nat.reduceBEq, Nat.reduceAdd, Nat.reduceSub, Nat.reduceLeDiff, Nat.reduceLT, implies_true, zh]) <;> (repeat' with_reducible apply And.intro) <;> first | (refine zb zc (by decide) ⟨rfl, rfl⟩ ?_; (try simp only [evWB, Nat.reduceBEq, Nat.reduceAdd, Nat.reduceSub, Nat.reduceLeDiff, Nat.reduceLT, implies_true, zh]) <;> (repeat' with_reducible apply And.intro) <;> first | (refine zb zc (by decide) ⟨rfl, rfl⟩ ?_; (try simp only [evWB, Nat.reduceBEq, Nat.reduceAdd, Nat.reduceSub, Nat.reduceLeDiff, Nat.reduceLT, implies_true, zh]) <;> exact fin6; done) | exact fin6; done) | exact fin6)), rfl, rfl, rfl⟩
  · have hent := fun (H : AH) (nx : Nat) (hr) (hm) => zq7 (H := H) (nx := nx) (r := 2) (rm := 0) (qm := k + 1) (c := c) (since := c) (sel := sel) (p := p) hr hm hs.borns hp
    (repeat first | simp (disch := try exact dis1) only [evD, Nat.reduceBEq, Nat.reduceAdd, Nat.reduceLeDiff] | with_reducible intro _ | ((with_reducible apply And.intro); omega))
    rw [hent _ _ rfl hg]
    (repeat first | simp (disch := try exact dis1) only [evD, Nat.reduceBEq, Nat.reduceAdd, Nat.reduceLeDiff] | with_reducible intro _ | ((with_reducible apply And.intro); omega))
    refine ⟨sel ++ [p], ⟨?_, ?_⟩, ?_, (Ent.tabB [(0, 0, 0), (1, 1, 1), (2, 2, 0)] [] rfl rfl rfl (by (try simp only [evWB, Nat.reduceBEq, Nat.reduceAdd, Nat.reduceSub, Nat.reduceLeDiff, Nat.reduceLT, implies_true, zh, List.length_append, List.length_singleton, List.map_append, List.map_cons, List.map_nil]) <;> (repeat' with_reducible apply And.intro) <;> first | (refine zb zc (by decide) ⟨rfl, rfl⟩ ?_; (try simp only [evWB, Nat.reduceBEq, Nat.reduceAdd, Nat.reduceSub, Nat.reduceLeDiff, Nat.reduceLT, implies_true, zh, List.length_append, List.length_singleton, List.map_append, List.map_cons, List.map_nil]) <;> (repeat' with_reducible apply And.intro) <;> first | (refine zb zc (by decide) ⟨rfl, rfl⟩ ?_; (try simp only [evWB, Nat.reduceBEq, Nat.reduceAdd, Nat.reduceSub, Nat.reduceLeDiff, Nat.reduceLT, implies_true, zh, List.length_append, List.length_singleton, List.map_append, List.map_cons, List.map_nil]) <;> exact fin6; done) | exact fin6; done) | exact fin6) (by (try simp only [evWB, Nat.reduceBEq, Nat.reduceAdd, Nat.reduceSub, Nat.reduceLeDiff, Nat.reduceLT, implies_true, zh, List.length_append, List.length_singleton, List.map_append, List.map_cons, List.map_nil]) <;> (repeat' with_reducible apply And.intro) <;> first | (refine zb zc (by decide) ⟨rfl, rfl⟩ ?_; (try simp only [evWB, Nat.reduceBEq, Nat.reduceAdd, Nat.reduceSub, Nat.reduceLeDiff, Nat.reduceLT, implies_true, zh, List.length_append, List.length_singleton, List.map_append, List.map_cons, List.map_nil]) <;> (repeat' with_reducible apply And.intro) <;> first | (refine zb zc (by decide) ⟨rfl, rfl⟩ ?_; (try simp only [evWB, Nat.reduceBEq, Nat.reduceAdd, Nat.reduceSub, Nat.reduceLeDiff, Nat.reduceLT, implies_true, zh, List.length_append, List.length_singleton, List.map_append, List.map_cons, List.map_nil]) <;> exact fin6; done) | exact fin6; done) | exact fin6))⟩
    · rw [List.nodup_append]
      exact ⟨hnd, by simp, fun a ha b hb e => hns (by rw [List.mem_singleton] at hb; rw [← hb, ← e]; exact ha)⟩
    · intro a ha
      rcases List.mem_append.1 ha with ha | ha
      · exact hsub a ha
      · rw [List.mem_singleton] at ha; rw [ha]; exact hp
    · have : sel.length < ps.length := by
        have := List.Nodup.length_le_of_subset (List.nodup_cons.2 ⟨hns, hnd⟩) (show ∀ a ∈ p :: sel, a ∈ ps from fun a ha => by
          rcases List.mem_cons.1 ha with rfl | ha
          · exact hp
          · exact hsub a ha)
        simp only [List.length_cons] at this
        omega
      rw [List.length_append, List.length_singleton]
      omega
abbrev MS := Int × List (Int × Int)
def MS.keys (s : MS) : List Int := s.2.map (·.1)
def MS.ok (s : MS) : Prop := SetS s.1 s.2
def add1 (s : MS) (v : Int) : MS := if v ∈ s.keys then s else (s.1 + 1, s.2 ++ [(v, s.1)])
def addL (s : MS) (l : List Int) : MS := l.foldl add1 s
theorem zuF {s : MS} {v : Int} : (add1 s v).keys = if v ∈ s.keys then s.keys else s.keys ++ [v] := by
  unfold add1
  split
  · rfl
  · simp [MS.keys]
theorem zq2 {s : MS} {v : Int} : s.2.length ≤ (add1 s v).2.length ∧ (add1 s v).1 ≤ s.1 + 1 ∧ (add1 s v).2.length ≤ s.2.length + 1 := by
  unfold add1
  split
  · exact ⟨Nat.le_refl _, by omega, by omega⟩
  · exact ⟨by simp, by simp, by simp⟩
theorem SetS.add {c : Int} {ps : List (Int × Int)} (h : SetS c ps) {v : Int} (hv : v ∉ ps.map (·.1)) (ht : c < 1000000) (hl : ps.length < 1000000) : SetS (c + 1) (ps ++ [(v, c)]) := by
  refine ⟨?_, ?_, fun p hp => ?_, by omega, by simp; omega⟩
  · rw [List.map_append, List.nodup_append]
    exact ⟨h.keys, by simp, fun a ha b hb e => hv (by simp only [List.map_cons, List.map_nil, List.mem_singleton] at hb; rw [← hb, ← e]; exact ha)⟩
  · rw [List.map_append, List.nodup_append]
    refine ⟨h.borns, by simp, fun a ha b hb e => ?_⟩
    simp only [List.map_cons, List.map_nil, List.mem_singleton] at hb
    obtain ⟨p, hp, hpe⟩ := List.mem_map.1 ha
    have := h.lt p hp
    omega
  · rcases List.mem_append.1 hp with hp | hp
    · have := h.lt p hp; omega
    · rw [List.mem_singleton] at hp; rw [hp]; simp only; omega
theorem zx0 {s : MS} {v : Int} (h : s.ok) (ht : s.1 < 1000000) (hl : s.2.length < 1000000) : (add1 s v).ok := by
  unfold add1
  split
  · exact h
  · rename_i hv; exact SetS.add h hv ht hl
theorem zcF : ∀ {l : List Int} {s : MS}, s.2.length ≤ (addL s l).2.length ∧ (addL s l).1 ≤ s.1 + l.length ∧ (addL s l).2.length ≤ s.2.length + l.length
  | [], s => ⟨Nat.le_refl _, by simp [addL], by simp [addL]⟩
  | v :: l, s => by
    have h1 := zq2 (s := s) (v := v)
    have h2 := zcF (l := l) (s := add1 s v)
    show s.2.length ≤ (addL (add1 s v) l).2.length ∧ (addL (add1 s v) l).1 ≤ s.1 + _ ∧ (addL (add1 s v) l).2.length ≤ _
    simp only [List.length_cons]
    exact ⟨by omega, by omega, by omega⟩
theorem zih : ∀ {l : List Int} {s : MS}, s.ok → s.1 + l.length ≤ 1000000 → s.2.length + l.length ≤ 1000000 → (addL s l).ok
  | [], s, h, _, _ => h
  | v :: l, s, h, h1, h2 => by
    simp only [List.length_cons] at h1 h2
    have h3 := zq2 (s := s) (v := v)
    exact zih (l := l) (zx0 h (by omega) (by omega)) (by omega) (by omega)
theorem zds {y : Int} : ∀ {l : List Int} {s : MS}, y ∈ (addL s l).keys ↔ y ∈ s.keys ∨ y ∈ l
  | [], s => by simp [addL]
  | v :: l, s => by
    show y ∈ (addL (add1 s v) l).keys ↔ _
    rw [zds, zuF]
    split
    · rename_i h
      constructor
      · rintro (h1 | h1)
        · exact .inl h1
        · exact .inr (List.mem_cons_of_mem _ h1)
      · rintro (h1 | h1)
        · exact .inl h1
        · rcases List.mem_cons.1 h1 with rfl | h1
          · exact .inl h
          · exact .inr h1
    · rw [List.mem_append, List.mem_singleton, List.mem_cons, or_assoc]
theorem zow {s : MS} {l : List Int} {i : Nat} (h : i < l.length) : addL s (l.take (i + 1)) = add1 (addL s (l.take i)) l[i] := by
  unfold addL
  rw [List.take_add_one, List.getElem?_eq_getElem h, List.foldl_append]
  rfl
theorem zro {p : Int × Int} {ps : List (Int × Int)} : (enL (ps ++ [p])).map cm = (enL ps).map cm ++ [[.int .i64 p.1, .bool true, .int .i64 p.2]] := by simp [enL, cm]
theorem zuH {c v : Int} {ps : List (Int × Int)} : [AV.int .i64 (c + 1), .undef, .undef] :: ((enL ps).map cm ++ [[.int .i64 v, .bool true, .int .i64 c]]) = (setM (c + 1) (ps ++ [(v, c)])).map cm := by
  simp [setM, enL, cm]
theorem zfz (s : MS) (l : List Int) (hs : s.ok) (h1 : s.1 + l.length ≤ 1000000) (h2 : s.2.length + l.length ≤ 1000000) : zS Tryz.prog zr [.mp 0 0, za l] [(0, .row 3 ((setM s.1 s.2).map cm) 0)] 1
    (fun v H nx => v = .bool (decide (s.2.length < (addL s l).2.length)) ∧ H = [(0, .row 3 ((setM (addL s l).1 (addL s l).2).map cm) 0)] ∧ nx = 1) := by
  refine zbD (fn_x zet rfl ?_)
  unfold zcy
  have hB := hBig
  (repeat first | simp (disch := try exact dis1) only [evD, Nat.reduceBEq, Nat.reduceAdd, Nat.reduceLeDiff, za] | with_reducible intro _ | ((with_reducible apply And.intro); omega))
  refine zm (fun i : Nat => ([(0, .mp 0 0), (5, .bool (decide (s.2.length < (addL s (l.take i)).2.length))), (8, za l), (9, .int .i64 l.length), (10, .int .i64 i)], [(0, .row 3 ((setM (addL s (l.take i)).1 (addL s (l.take i)).2).map cm) 0)])) 1
    (fun i => i ≤ l.length) (fun i => l.length - i) 0 (Nat.zero_le _) (by rw [List.take_zero, show addL s [] = s from rfl, dF (Nat.lt_irrefl _)]; exact (Ent.tabB [(0, 0, 0)] [] rfl rfl rfl (by (try simp only [evWB, Nat.reduceBEq, Nat.reduceAdd, Nat.reduceSub, Nat.reduceLeDiff, Nat.reduceLT, implies_true, zh, za]) <;> exact fin6) (by (try simp only [evWB, Nat.reduceBEq, Nat.reduceAdd, Nat.reduceSub, Nat.reduceLeDiff, Nat.reduceLT, implies_true, zh, za]) <;> exact fin6))) ?_
  rintro i hi wf
  unfold zbx
  by_cases hl : i < l.length
  · have hgl := zt (f := cI) (d := []) hl
    have hb := zcF (l := l.take i) (s := s)
    rw [List.length_take] at hb
    have hnx := zow (s := s) hl
    generalize addL s (l.take i) = si at hb hnx ⊢
    obtain ⟨c, ps⟩ := si
    simp only at hb hnx ⊢
    by_cases hk : l[i] ∈ ps.map (·.1)
    · obtain ⟨j, hj, hje, hf⟩ := zix hk
      have e1 : add1 (c, ps) l[i] = (c, ps) := if_pos hk
      rw [e1] at hnx
      (repeat first | simp (disch := try exact dis1) only [evD, Nat.reduceBEq, Nat.reduceAdd, Nat.reduceLeDiff, dT, hgl, za, zh, hf] | with_reducible intro _ | ((with_reducible apply And.intro); omega))
      exact ⟨i + 1, by omega, by omega, (Ent.tabB [(0, 0, 0)] [] rfl rfl rfl (by (try simp only [evWB, Nat.reduceBEq, Nat.reduceAdd, Nat.reduceSub, Nat.reduceLeDiff, Nat.reduceLT, implies_true, zh, za, hnx]) <;> exact fin6) (by (try simp only [evWB, Nat.reduceBEq, Nat.reduceAdd, Nat.reduceSub, Nat.reduceLeDiff, Nat.reduceLT, implies_true, zh, za, hnx]) <;> exact fin6))⟩
    · have hf := zhv hk
      have e1 : add1 (c, ps) l[i] = (c + 1, ps ++ [(l[i], c)]) := if_neg hk
      rw [e1] at hnx
      (repeat first | simp (disch := try exact dis1) only [evD, Nat.reduceBEq, Nat.reduceAdd, Nat.reduceLeDiff, dT, hgl, za, zh, hf] | with_reducible intro _ | ((with_reducible apply And.intro); omega))
      have hd : decide (s.2.length < ps.length + 1) = true := dT (by omega)
      exact ⟨i + 1, by omega, by omega, (Ent.tabB [(0, 0, 0)] [] rfl rfl rfl (by (try simp only [evWB, Nat.reduceBEq, Nat.reduceAdd, Nat.reduceSub, Nat.reduceLeDiff, Nat.reduceLT, implies_true, zh, za, hnx, zro, List.length_append, List.length_singleton, hd]) <;> exact fin6) (by (try simp only [evWB, Nat.reduceBEq, Nat.reduceAdd, Nat.reduceSub, Nat.reduceLeDiff, Nat.reduceLT, implies_true, zh, za, hnx, zro, List.length_append, List.length_singleton, hd]) <;> exact fin6))⟩
  · (repeat first | simp (disch := try exact dis1) only [evD, Nat.reduceBEq, Nat.reduceAdd, Nat.reduceLeDiff, dF] | with_reducible intro _ | ((with_reducible apply And.intro); omega))
    unfold zby
    (repeat first | simp (disch := try exact dis1) only [evD, Nat.reduceBEq, Nat.reduceAdd, Nat.reduceLeDiff, zcz] | with_reducible intro _ | ((with_reducible apply And.intro); omega))
    rw [List.take_of_length_le (by omega)]
    exact ⟨_, _, _, (Ent.tabB [(0, 0, 0)] [] rfl rfl rfl (by (try simp only [evWB, Nat.reduceBEq, Nat.reduceAdd, Nat.reduceSub, Nat.reduceLeDiff, Nat.reduceLT, implies_true, zh]) <;> exact fin6) (by (try simp only [evWB, Nat.reduceBEq, Nat.reduceAdd, Nat.reduceSub, Nat.reduceLeDiff, Nat.reduceLT, implies_true, zh]) <;> exact fin6)), rfl, rfl, rfl⟩
theorem zxQ {n k : Nat} {S : Nat → MS} {a : MS} {m : List MC} (h : m = setM a.1 a.2) : (fi cm n (fun i => setM (S i).1 (S i).2) (fun _ => 0)).set k (m.map cm, 0) = fi cm n (fun i => setM (updF S k a i).1 (updF S k a i).2) (fun _ => 0) := by
  rw [fi_set, h]
  congr 1
  · funext i
    unfold updF
    split <;> rfl
  · funext i
    unfold updF
    split <;> rfl
theorem zvx {n k : Nat} {S : Nat → MS} {c v : Int} {ps : List (Int × Int)} : (fi cm n (fun i => setM (S i).1 (S i).2) (fun _ => 0)).set k ([AV.int .i64 (c + 1), .undef, .undef] :: ((enL ps).map cm ++ [[.int .i64 v, .bool true, .int .i64 c]]), 0) =
    fi cm n (fun i => setM (updF S k (c + 1, ps ++ [(v, c)]) i).1 (updF S k (c + 1, ps ++ [(v, c)]) i).2) (fun _ => 0) := by
  rw [zuH]
  exact zxQ rfl
theorem zmf {α : Type} {S : Nat → α} {k : Nat} {a b : α} : updF (updF S k a) k b = updF S k b := by
  funext i
  unfold updF
  split <;> rfl
theorem zos {α : Type} {S : Nat → α} {k : Nat} : updF S k (S k) = S := by
  funext i
  unfold updF
  split
  · rename_i h; rw [h]
  · rfl
theorem zlf (n k : Nat) (hk : k < n) (S : Nat → MS) (l : List Int) (hs : (S k).ok) (h1 : (S k).1 + l.length ≤ 1000000) (h2 : (S k).2.length + l.length ≤ 1000000) : zS Tryz.prog zr [.mp 0 (k + 1), za l] [(0, famS n S)] 1
    (fun v H nx => v = .bool (decide ((S k).2.length < (addL (S k) l).2.length)) ∧ H = [(0, famS n (updF S k (addL (S k) l)))] ∧ nx = 1) := by
  refine zbD (fn_x zet rfl ?_)
  unfold zcy famS
  have hB := hBig
  (repeat first | simp (disch := try exact dis1) only [evD, Nat.reduceBEq, Nat.reduceAdd, Nat.reduceLeDiff, za] | with_reducible intro _ | ((with_reducible apply And.intro); omega))
  refine zm (fun i : Nat => ([(0, .mp 0 (k + 1)), (5, .bool (decide ((S k).2.length < (addL (S k) (l.take i)).2.length))), (8, za l), (9, .int .i64 l.length), (10, .int .i64 i)], [(0, .fam 3 (fi cm n (fun j => setM (updF S k (addL (S k) (l.take i)) j).1 (updF S k (addL (S k) (l.take i)) j).2) (fun _ => 0)))])) 1
    (fun i => i ≤ l.length) (fun i => l.length - i) 0 (Nat.zero_le _) (by rw [List.take_zero, show addL (S k) [] = S k from rfl, dF (Nat.lt_irrefl _), zos]; exact (Ent.tabB [(0, 0, 0)] [] rfl rfl rfl (by (try simp only [evWB, Nat.reduceBEq, Nat.reduceAdd, Nat.reduceSub, Nat.reduceLeDiff, Nat.reduceLT, implies_true, za]) <;> (repeat' with_reducible apply And.intro) <;> first | (refine zb zc (by decide) ⟨rfl, rfl⟩ ?_; (try simp only [evWB, Nat.reduceBEq, Nat.reduceAdd, Nat.reduceSub, Nat.reduceLeDiff, Nat.reduceLT, implies_true, za]) <;> (repeat' with_reducible apply And.intro) <;> first | (refine zb zc (by decide) ⟨rfl, rfl⟩ ?_; (try simp only [evWB, Nat.reduceBEq, Nat.reduceAdd, Nat.reduceSub, Nat.reduceLeDiff, Nat.reduceLT, implies_true, za]) <;> exact fin6; done) | exact fin6; done) | exact fin6) (by (try simp only [evWB, Nat.reduceBEq, Nat.reduceAdd, Nat.reduceSub, Nat.reduceLeDiff, Nat.reduceLT, implies_true, za]) <;> (repeat' with_reducible apply And.intro) <;> first | (refine zb zc (by decide) ⟨rfl, rfl⟩ ?_; (try simp only [evWB, Nat.reduceBEq, Nat.reduceAdd, Nat.reduceSub, Nat.reduceLeDiff, Nat.reduceLT, implies_true, za]) <;> (repeat' with_reducible apply And.intro) <;> first | (refine zb zc (by decide) ⟨rfl, rfl⟩ ?_; (try simp only [evWB, Nat.reduceBEq, Nat.reduceAdd, Nat.reduceSub, Nat.reduceLeDiff, Nat.reduceLT, implies_true, za]) <;> exact fin6; done) | exact fin6; done) | exact fin6))) ?_
  rintro i hi wf
  unfold zbx
  by_cases hl : i < l.length
  · have hgl := zt (f := cI) (d := []) hl
    have hb := zcF (l := l.take i) (s := S k)
    rw [List.length_take] at hb
    have hnx := zow (s := S k) hl
    generalize addL (S k) (l.take i) = si at hb hnx ⊢
    obtain ⟨c, ps⟩ := si
    simp only at hb hnx ⊢
    by_cases hm : l[i] ∈ ps.map (·.1)
    · obtain ⟨j, hj, hje, hf⟩ := zix hm
      have e1 : add1 (c, ps) l[i] = (c, ps) := if_pos hm
      rw [e1] at hnx
      (repeat first | simp (disch := try exact dis1) only [evD, Nat.reduceBEq, Nat.reduceAdd, Nat.reduceLeDiff, dT, hgl, za, zkP hk, zgU, zh, hf] | with_reducible intro _ | ((with_reducible apply And.intro); omega))
      exact ⟨i + 1, by omega, by omega, (Ent.tabB [(0, 0, 0)] [] rfl rfl rfl (by (try simp only [evWB, Nat.reduceBEq, Nat.reduceAdd, Nat.reduceSub, Nat.reduceLeDiff, Nat.reduceLT, implies_true, za, hnx]) <;> (repeat' with_reducible apply And.intro) <;> first | (refine zb zc (by decide) ⟨rfl, rfl⟩ ?_; (try simp only [evWB, Nat.reduceBEq, Nat.reduceAdd, Nat.reduceSub, Nat.reduceLeDiff, Nat.reduceLT, implies_true, za, hnx]) <;> (repeat' with_reducible apply And.intro) <;> first | (refine zb zc (by decide) ⟨rfl, rfl⟩ ?_; (try simp only [evWB, Nat.reduceBEq, Nat.reduceAdd, Nat.reduceSub, Nat.reduceLeDiff, Nat.reduceLT, implies_true, za, hnx]) <;> exact fin6; done) | exact fin6; done) | exact fin6) (by (try simp only [evWB, Nat.reduceBEq, Nat.reduceAdd, Nat.reduceSub, Nat.reduceLeDiff, Nat.reduceLT, implies_true, za, hnx]) <;> (repeat' with_reducible apply And.intro) <;> first | (refine zb zc (by decide) ⟨rfl, rfl⟩ ?_; (try simp only [evWB, Nat.reduceBEq, Nat.reduceAdd, Nat.reduceSub, Nat.reduceLeDiff, Nat.reduceLT, implies_true, za, hnx]) <;> (repeat' with_reducible apply And.intro) <;> first | (refine zb zc (by decide) ⟨rfl, rfl⟩ ?_; (try simp only [evWB, Nat.reduceBEq, Nat.reduceAdd, Nat.reduceSub, Nat.reduceLeDiff, Nat.reduceLT, implies_true, za, hnx]) <;> exact fin6; done) | exact fin6; done) | exact fin6))⟩
    · have hf := zhv hm
      have e1 : add1 (c, ps) l[i] = (c + 1, ps ++ [(l[i], c)]) := if_neg hm
      rw [e1] at hnx
      (repeat first | simp (disch := try exact dis1) only [evD, Nat.reduceBEq, Nat.reduceAdd, Nat.reduceLeDiff, dT, hgl, za, zkP hk, zgU, zh, hf, zvx, zmf] | with_reducible intro _ | ((with_reducible apply And.intro); omega))
      have hd : decide ((S k).2.length < ps.length + 1) = true := dT (by omega)
      exact ⟨i + 1, by omega, by omega, (Ent.tabB [(0, 0, 0)] [] rfl rfl rfl (by (try simp only [evWB, Nat.reduceBEq, Nat.reduceAdd, Nat.reduceSub, Nat.reduceLeDiff, Nat.reduceLT, implies_true, za, hnx, List.length_append, List.length_singleton, hd]) <;> (repeat' with_reducible apply And.intro) <;> first | (refine zb zc (by decide) ⟨rfl, rfl⟩ ?_; (try simp only [evWB, Nat.reduceBEq, Nat.reduceAdd, Nat.reduceSub, Nat.reduceLeDiff, Nat.reduceLT, implies_true, za, hnx, List.length_append, List.length_singleton, hd]) <;> (repeat' with_reducible apply And.intro) <;> first | (refine zb zc (by decide) ⟨rfl, rfl⟩ ?_; (try simp only [evWB, Nat.reduceBEq, Nat.reduceAdd, Nat.reduceSub, Nat.reduceLeDiff, Nat.reduceLT, implies_true, za, hnx, List.length_append, List.length_singleton, hd]) <;> exact fin6; done) | exact fin6; done) | exact fin6) (by (try simp only [evWB, Nat.reduceBEq, Nat.reduceAdd, Nat.reduceSub, Nat.reduceLeDiff, Nat.reduceLT, implies_true, za, hnx, List.length_append, List.length_singleton, hd]) <;> (repeat' with_reducible apply And.intro) <;> first | (refine zb zc (by decide) ⟨rfl, rfl⟩ ?_; (try simp only [evWB, Nat.reduceBEq, Nat.reduceAdd, Nat.reduceSub, Nat.reduceLeDiff, Nat.reduceLT, implies_true, za, hnx, List.length_append, List.length_singleton, hd]) <;> (repeat' with_reducible apply And.intro) <;> first | (refine zb zc (by decide) ⟨rfl, rfl⟩ ?_; (try simp only [evWB, Nat.reduceBEq, Nat.reduceAdd, Nat.reduceSub, Nat.reduceLeDiff, Nat.reduceLT, implies_true, za, hnx, List.length_append, List.length_singleton, hd]) <;> exact fin6; done) | exact fin6; done) | exact fin6))⟩
  · (repeat first | simp (disch := try exact dis1) only [evD, Nat.reduceBEq, Nat.reduceAdd, Nat.reduceLeDiff, dF] | with_reducible intro _ | ((with_reducible apply And.intro); omega))
    unfold zby
    (repeat first | simp (disch := try exact dis1) only [evD, Nat.reduceBEq, Nat.reduceAdd, Nat.reduceLeDiff, zcz] | with_reducible intro _ | ((with_reducible apply And.intro); omega))
    rw [List.take_of_length_le (by omega)]
    exact ⟨_, _, _, (Ent.tabB [(0, 0, 0)] [] rfl rfl rfl (by (try simp only [evWB, Nat.reduceBEq, Nat.reduceAdd, Nat.reduceSub, Nat.reduceLeDiff, Nat.reduceLT, implies_true]) <;> (repeat' with_reducible apply And.intro) <;> first | (refine zb zc (by decide) ⟨rfl, rfl⟩ ?_; (try simp only [evWB, Nat.reduceBEq, Nat.reduceAdd, Nat.reduceSub, Nat.reduceLeDiff, Nat.reduceLT, implies_true]) <;> (repeat' with_reducible apply And.intro) <;> first | (refine zb zc (by decide) ⟨rfl, rfl⟩ ?_; (try simp only [evWB, Nat.reduceBEq, Nat.reduceAdd, Nat.reduceSub, Nat.reduceLeDiff, Nat.reduceLT, implies_true]) <;> exact fin6; done) | exact fin6; done) | exact fin6) (by (try simp only [evWB, Nat.reduceBEq, Nat.reduceAdd, Nat.reduceSub, Nat.reduceLeDiff, Nat.reduceLT, implies_true]) <;> (repeat' with_reducible apply And.intro) <;> first | (refine zb zc (by decide) ⟨rfl, rfl⟩ ?_; (try simp only [evWB, Nat.reduceBEq, Nat.reduceAdd, Nat.reduceSub, Nat.reduceLeDiff, Nat.reduceLT, implies_true]) <;> (repeat' with_reducible apply And.intro) <;> first | (refine zb zc (by decide) ⟨rfl, rfl⟩ ?_; (try simp only [evWB, Nat.reduceBEq, Nat.reduceAdd, Nat.reduceSub, Nat.reduceLeDiff, Nat.reduceLT, implies_true]) <;> exact fin6; done) | exact fin6; done) | exact fin6)), rfl, rfl, rfl⟩
theorem zmt {l : List Int} {i : Nat} (h : i ≤ l.length) {H : AH} : zc1 1 (.sl 1 i fun a j => ((l.map fun n => [AV.int .i64 n]).getD (Int.toNat 0 + a) []).getD j .undef) H = some ((l.take i).map cI) := by
  simp only [zc1, show Nat.beq 1 1 = true from rfl, cond_true, Option.some.injEq]
  apply List.ext_getElem
  · simp <;> omega
  · intro k h1 h2
    simp only [List.length_map, List.length_range] at h1
    have hk : k < l.length := by omega
    simp only [List.getElem_map, List.getElem_range, tab, Int.toNat_zero, Nat.zero_add, List.getElem_take]
    rw [zt hk]
    try rfl
theorem zmP {l : List Int} {i : Nat} (h : i ≤ l.length) {H : AH} : zc1 1 (.sl 1 (l.length - i) fun a j => ((l.map fun n => [AV.int .i64 n]).getD (i + a) []).getD j .undef) H = some ((l.drop i).map cI) := by
  simp only [zc1, show Nat.beq 1 1 = true from rfl, cond_true, Option.some.injEq]
  apply List.ext_getElem
  · simp <;> omega
  · intro k h1 h2
    simp only [List.length_map, List.length_range] at h1
    have hk : i + k < l.length := by omega
    simp only [List.getElem_map, List.getElem_range, tab, List.getElem_drop]
    rw [zt hk]
    try rfl
theorem zti {sz n : Nat} {f : Nat → Nat → AV} : lenV (.sl sz n f) = some n := rfl
theorem zsY {sz n : Nat} {f : Nat → Nat → AV} {H : AH} : fits H (.sl sz n f) = True := rfl
theorem ztf {n : Int} : ∀ {i : Nat} {l : List Int}, (∀ j, (h : j < l.length) → j < i → l[j] < n) → insU n l = l.take i ++ insU n (l.drop i)
  | 0, l, _ => by simp
  | i + 1, [], _ => by simp
  | i + 1, x :: l, h => by
    have h0 := h 0 (by simp) (by omega)
    simp only [List.getElem_cons_zero] at h0
    rw [insU, if_pos h0, List.take_succ_cons, List.drop_succ_cons, List.cons_append, ← ztf (i := i) fun j hj hji => h (j + 1) (by simpa using hj) (by omega)]
theorem zqY {n : Int} : ∀ {l : List Int}, (insU n l).length ≤ l.length + 1
  | [] => by simp [insU]
  | x :: l => by
    unfold insU
    split
    · have := zqY (n := n) (l := l)
      simp only [List.length_cons]; omega
    · split <;> simp
theorem zi2 (l : List Int) (n : Int) (hl : l.length ≤ 1000000) : zD Tryz.prog ze0 [za l, .int .i64 n] (· = za (insU n l)) := by
  refine fn_x znj rfl ?_
  unfold ziU
  have hB := hBig
  (repeat first | simp (disch := try exact dis1) only [evD, Nat.reduceBEq, Nat.reduceAdd, Nat.reduceLeDiff, za] | with_reducible intro _ | ((with_reducible apply And.intro); omega))
  refine zm (fun i : Nat => ([(0, za l), (1, .int .i64 n), (5, .int .i64 i)], [])) 0 (fun i => i ≤ l.length ∧ ∀ j, (h : j < l.length) → j < i → l[j] < n) (fun i => l.length - i) 0 ⟨Nat.zero_le _, fun j _ h => by omega⟩ (Ent.tab [] [] rfl (by (try simp only [evWB, Nat.reduceBEq, Nat.reduceAdd, Nat.reduceSub, Nat.reduceLeDiff, Nat.reduceLT, implies_true, za]) <;> exact fin2) (by (try simp only [evWB, Nat.reduceBEq, Nat.reduceAdd, Nat.reduceSub, Nat.reduceLeDiff, Nat.reduceLT, implies_true, za]) <;> exact fin2)) ?_
  rintro i ⟨hi, hlt⟩ wf
  unfold zgq
  have hat := ztf hlt
  by_cases hil : i < l.length
  · have hgl := zt (f := cI) (d := []) hil
    by_cases hx : l[i] < n
    · (repeat first | simp (disch := try exact dis1) only [evD, Nat.reduceBEq, Nat.reduceAdd, Nat.reduceLeDiff, dT, za, hgl] | with_reducible intro _ | ((with_reducible apply And.intro); omega))
      refine ⟨i + 1, ⟨by omega, fun j hj hji => ?_⟩, by omega, Ent.keep rfl fin5⟩
      by_cases hje : j = i
      · subst hje; exact hx
      · exact hlt j hj (by omega)
    · rw [List.drop_eq_getElem_cons hil, insU, if_neg hx] at hat
      (repeat first | simp (disch := try exact dis1) only [evD, Nat.reduceBEq, Nat.reduceAdd, Nat.reduceLeDiff, dT, dF, za, hgl] | with_reducible intro _ | ((with_reducible apply And.intro); omega))
      unfold zdN
      by_cases he : l[i] = n
      · rw [if_pos he, ← List.drop_eq_getElem_cons hil, List.take_append_drop] at hat
        rw [hat]
        (repeat first | simp (disch := try exact dis1) only [evD, Nat.reduceBEq, Nat.reduceAdd, Nat.reduceLeDiff, dT, za, hgl, zeb] | with_reducible intro _ | ((with_reducible apply And.intro); omega))
        exact ⟨_, zJ rfl, rfl⟩
      · rw [if_neg he, ← List.drop_eq_getElem_cons hil] at hat
        have hll := congrArg List.length hat
        simp only [List.length_append, List.length_cons, List.length_take, List.length_drop] at hll
        rw [hat]
        have e1 := fun H => zmt (H := H) hi
        have e2 := fun H => zmP (H := H) hi
        have k1 : (l.take i).length = i := by rw [List.length_take]; omega
        have k2 : ((l.take i).map cI).take i = (l.take i).map cI := List.take_of_length_le (by rw [List.length_map]; omega)
        have k3 : (((l.take i).map cI) ++ [[AV.int .i64 n]]).take (i + 1) = ((l.take i).map cI) ++ [[AV.int .i64 n]] := List.take_of_length_le (by simp; omega)
        have k4 : (((l.take i).map cI) ++ [[AV.int .i64 n]]).length = i + 1 := by simp; omega
        have t1 : ((i : Int) - 0).toNat = i := by omega
        have t2 : ((l.length : Int) - (i : Int)).toNat = l.length - i := by omega
        (repeat first | simp (disch := try exact dis1) only [evD, Nat.reduceBEq, Nat.reduceAdd, Nat.reduceLeDiff, dT, dF, za, hgl, zld, zkX, e1, e2, zti, zsY, t1, t2, k1, k2, k3, k4, zeb] | with_reducible intro _ | ((with_reducible apply And.intro); omega))
        have er : (l.take i).map cI ++ [[AV.int .i64 n]] ++ (l.drop i).map cI = (l.take i ++ n :: l.drop i).map cI := by simp
        have el : i + 1 + (l.length - i) = (l.take i ++ n :: l.drop i).length := by rw [List.length_append, List.length_cons, List.length_drop, k1]; omega
        rw [er, el]
        exact ⟨_, zV trivial rfl (by rw [← el]; omega), rfl⟩
  · obtain rfl : i = l.length := by omega
    rw [List.take_length, List.drop_length, insU] at hat
    (repeat first | simp (disch := try exact dis1) only [evD, Nat.reduceBEq, Nat.reduceAdd, Nat.reduceLeDiff, dF, za] | with_reducible intro _ | ((with_reducible apply And.intro); omega))
    unfold zdN
    rw [hat]
    have e1 := fun H => zmt (H := H) hi
    have e2 := fun H => zmP (H := H) hi
    have k3 : ((l.map cI) ++ [[AV.int .i64 n]]).take (l.length + 1) = (l.map cI) ++ [[AV.int .i64 n]] := List.take_of_length_le (by simp)
    have k4 : ((l.map cI) ++ [[AV.int .i64 n]]).length = l.length + 1 := by simp
    have t1 : ((l.length : Int) - 0).toNat = l.length := by omega
    have t2 : ((l.length : Int) - (l.length : Int)).toNat = l.length - l.length := by omega
    (repeat first | simp (disch := try exact dis1) only [evD, Nat.reduceBEq, Nat.reduceAdd, Nat.reduceLeDiff, dF, za, zld, zkX, e1, e2, zti, zsY, t1, t2, k3, k4, zeb] | with_reducible intro _ | ((with_reducible apply And.intro); omega))
    have er : l.map cI ++ [[AV.int .i64 n]] ++ (l.drop l.length).map cI = (l ++ [n]).map cI := by simp
    have el : l.length + 1 + (l.length - l.length) = (l ++ [n]).length := by simp
    rw [er, el]
    exact ⟨_, zV trivial rfl (by rw [← el]; omega), rfl⟩
theorem zlr {a b : List Int} {i : Nat} (h : i < b.length) : zaD a (b.take (i + 1)) = insU b[i] (zaD a (b.take i)) := by
  unfold zaD
  rw [List.take_add_one, List.getElem?_eq_getElem h, List.foldl_append]
  rfl
theorem zdg {a : List Int} : ∀ {b : List Int}, (zaD a b).length ≤ a.length + b.length := by
  intro b
  induction b generalizing a with
  | nil => simp [zaD]
  | cons x b ih =>
    have h1 := ih (a := insU x a)
    have h2 := zqY (n := x) (l := a)
    show (zaD (insU x a) b).length ≤ _
    simp only [List.length_cons]
    omega
theorem zfb (a b : List Int) (hl : a.length + b.length ≤ 1000000) : zD Tryz.prog zdq [za a, za b] (· = za (zaD a b)) := by
  refine fn_x zov rfl ?_
  unfold zjS
  have hu0 : zaD a [] = a := rfl
  have hB := hBig
  (repeat first | simp (disch := try exact dis1) only [evD, Nat.reduceBEq, Nat.reduceAdd, Nat.reduceLeDiff, za] | with_reducible intro _ | ((with_reducible apply And.intro); omega))
  refine zm (fun i : Nat => ([(0, za (zaD a (b.take i))), (1, za b), (5, .int .i64 i)], [])) 0 (fun i => i ≤ b.length) (fun i => b.length - i) 0 (Nat.zero_le _) (Ent.tab [] [] rfl (by (try simp only [evWB, Nat.reduceBEq, Nat.reduceAdd, Nat.reduceSub, Nat.reduceLeDiff, Nat.reduceLT, implies_true, za, List.take_zero, hu0]) <;> exact fin2) (by (try simp only [evWB, Nat.reduceBEq, Nat.reduceAdd, Nat.reduceSub, Nat.reduceLeDiff, Nat.reduceLT, implies_true, za, List.take_zero, hu0]) <;> exact fin2)) ?_
  rintro i hi wf
  unfold zgE
  by_cases hil : i < b.length
  · have hgl := zt (f := cI) (d := []) hil
    have hlen := zdg (a := a) (b := b.take i)
    rw [List.length_take] at hlen
    have hnx := zlr (a := a) hil
    generalize zaD a (b.take i) = u at hlen hnx ⊢
    (repeat first | simp (disch := try exact dis1) only [evD, Nat.reduceBEq, Nat.reduceAdd, Nat.reduceLeDiff, dT, za, hgl] | with_reducible intro _ | ((with_reducible apply And.intro); omega))
    refine zn (zo (zi2 u b[i] (by omega)) rfl) ?_
    (repeat first | simp (disch := try exact dis1) only [evD, Nat.reduceBEq, Nat.reduceAdd, Nat.reduceLeDiff] | with_reducible intro _ | ((with_reducible apply And.intro); omega))
    exact ⟨i + 1, by omega, by omega, (Ent.tab [] [] rfl (by (try simp only [evWB, Nat.reduceBEq, Nat.reduceAdd, Nat.reduceSub, Nat.reduceLeDiff, Nat.reduceLT, implies_true, za, hnx]) <;> exact fin2) (by (try simp only [evWB, Nat.reduceBEq, Nat.reduceAdd, Nat.reduceSub, Nat.reduceLeDiff, Nat.reduceLT, implies_true, za, hnx]) <;> exact fin2))⟩
  · (repeat first | simp (disch := try exact dis1) only [evD, Nat.reduceBEq, Nat.reduceAdd, Nat.reduceLeDiff, dF, za] | with_reducible intro _ | ((with_reducible apply And.intro); omega))
    unfold zg3
    (repeat first | simp (disch := try exact dis1) only [evD, Nat.reduceBEq, Nat.reduceAdd, Nat.reduceLeDiff, zj0] | with_reducible intro _ | ((with_reducible apply And.intro); omega))
    rw [List.take_of_length_le (by omega)]
    exact ⟨_, zJ rfl, rfl⟩
mutual
theorem zfx : ∀ e : Ex, (zcN e).length ≤ zbq e
  | .mk op _ v _ l => by
    have h := zmm (if op = 2 then [v] else []) l
    rw [zcN, zbq]
    have : (if op = 2 then [v] else ([] : List Int)).length ≤ 1 := by split <;> simp
    omega
theorem zmm : ∀ (a : List Int) (l : List Ex), (zeF a l).length ≤ a.length + zw l
  | a, [] => by rw [zeF, zw]; simp
  | a, x :: l => by
    have h1 := zmm (zaD a (zcN x)) l
    have h2 := zdg (a := a) (b := zcN x)
    have h3 := zfx x
    rw [zeF, zw]
    omega
end
theorem zf7 {l : List Ex} {i : Nat} (h : i < l.length) : zw (l.drop i) = zbq l[i] + zw (l.drop (i + 1)) := by
  rw [List.drop_eq_getElem_cons h, zw]
theorem zqe : ∀ (k : Nat) (e : Ex), zbq e ≤ k → k ≤ 100000 → zD Tryz.prog zhx [.agg (encX e)] (· = za (zcN e)) := by
  intro k
  induction k with
  | zero => intro e h; obtain ⟨_, _, _, _, l⟩ := e; rw [zbq] at h; omega
  | succ k ih =>
  intro e hk hk2
  obtain ⟨op, nn, v, w, l⟩ := e
  refine fn_x zqD rfl ?_
  unfold zla
  have hB := hBig
  rw [zbq] at hk
  rw [zcf, zcN]
  generalize hR : zeF (if op = 2 then [v] else []) l = R
  have main : ∀ (K : Kn) (H : AH) (nx : Nat), Ent 0 K H nx [(1, encP 5 [.int .i64 op, .int .u32 nn, .int .i64 v, .int .i64 w, encL 5 encX l]), (3, za (if op = 2 then [v] else [])), (4, .int .i64 0)] [] 0 →
      zhD Tryz.prog 0 zfi (za3 0 (seqQ Tryz.prog 0 zfn (retK zii fun v' H' x => ∃ a, Frz H' v' a ∧ a = za R))) K H nx := by
    intro K H nx hent
    refine zm (fun s : Nat × List Int => ([(1, encP 5 [.int .i64 op, .int .u32 nn, .int .i64 v, .int .i64 w, encL 5 encX l]), (3, za s.2), (4, .int .i64 s.1)], [])) 0
      (fun s => s.1 ≤ l.length ∧ zeF s.2 (l.drop s.1) = R ∧ s.2.length + zw (l.drop s.1) ≤ 100001) (fun s => l.length - s.1) (0, if op = 2 then [v] else []) ⟨Nat.zero_le _, hR, ?_⟩ hent ?_
    · have : (if op = 2 then [v] else ([] : List Int)).length ≤ 1 := by split <;> simp
      simp only [List.drop_zero]
      omega
    rintro ⟨i, x⟩ ⟨hi, hgo, hsz⟩ wf
    simp only at hi hgo hsz
    unfold zfi
    by_cases hil : i < l.length
    case neg =>
      rw [List.drop_of_length_le (by omega), zeF] at hgo
      subst hgo
      (repeat first | simp (disch := try exact dis1) only [evD, Nat.reduceBEq, Nat.reduceAdd, Nat.reduceLeDiff, fldP, dF] | with_reducible intro _ | ((with_reducible apply And.intro); omega))
      unfold zfn
      (repeat first | simp (disch := try exact dis1) only [evD, Nat.reduceBEq, Nat.reduceAdd, Nat.reduceLeDiff, zii] | with_reducible intro _ | ((with_reducible apply And.intro); omega))
      exact ⟨_, zJ rfl, rfl⟩
    have hm := zcR (List.getElem_mem hil)
    have hsd := zf7 hil
    rw [List.drop_eq_getElem_cons hil, zeF] at hgo
    have hvl := zfx l[i]
    (repeat first | simp (disch := try exact dis1) only [evD, Nat.reduceBEq, Nat.reduceAdd, Nat.reduceLeDiff, fldP, dT, zt hil, zbp, zaQ] | with_reducible intro _ | ((with_reducible apply And.intro); omega))
    refine zn (zo (ih l[i] (by omega) (by omega)) (flX rfl)) ?_
    generalize zcN l[i] = u at hgo hvl ⊢
    (repeat first | simp (disch := try exact dis1) only [evD, Nat.reduceBEq, Nat.reduceAdd, Nat.reduceLeDiff] | with_reducible intro _ | ((with_reducible apply And.intro); omega))
    have hu0 : zaD x [] = x := rfl
    refine zm (fun j : Nat => ([(1, encP 5 [.int .i64 op, .int .u32 nn, .int .i64 v, .int .i64 w, encL 5 encX l]), (3, za (zaD x (u.take j))), (4, .int .i64 i), (5, za u), (6, .int .i64 j)], [])) 0 (fun j => j ≤ u.length) (fun j => u.length - j) 0 (Nat.zero_le _) (Ent.tab [] [] rfl (by (try simp only [evWB, Nat.reduceBEq, Nat.reduceAdd, Nat.reduceSub, Nat.reduceLeDiff, Nat.reduceLT, implies_true, za, List.take_zero, hu0]) <;> exact fin2) (by (try simp only [evWB, Nat.reduceBEq, Nat.reduceAdd, Nat.reduceSub, Nat.reduceLeDiff, Nat.reduceLT, implies_true, za, List.take_zero, hu0]) <;> exact fin2)) ?_
    rintro j hj wf2
    unfold zhS
    by_cases hjl : j < u.length
    · have hgl := zt (f := cI) (d := []) hjl
      have hlen := zdg (a := x) (b := u.take j)
      rw [List.length_take] at hlen
      have hnx := zlr (a := x) hjl
      generalize zaD x (u.take j) = y at hlen hnx ⊢
      (repeat first | simp (disch := try exact dis1) only [evD, Nat.reduceBEq, Nat.reduceAdd, Nat.reduceLeDiff, dT, za, hgl] | with_reducible intro _ | ((with_reducible apply And.intro); omega))
      refine zn (zo (zi2 y u[j] (by omega)) rfl) ?_
      (repeat first | simp (disch := try exact dis1) only [evD, Nat.reduceBEq, Nat.reduceAdd, Nat.reduceLeDiff] | with_reducible intro _ | ((with_reducible apply And.intro); omega))
      exact ⟨j + 1, by omega, by omega, (Ent.tab [] [] rfl (by (try simp only [evWB, Nat.reduceBEq, Nat.reduceAdd, Nat.reduceSub, Nat.reduceLeDiff, Nat.reduceLT, implies_true, za, hnx]) <;> exact fin2) (by (try simp only [evWB, Nat.reduceBEq, Nat.reduceAdd, Nat.reduceSub, Nat.reduceLeDiff, Nat.reduceLT, implies_true, za, hnx]) <;> exact fin2))⟩
    · rw [List.take_of_length_le (by omega)]
      have hlen := zdg (a := x) (b := u)
      (repeat first | simp (disch := try exact dis1) only [evD, Nat.reduceBEq, Nat.reduceAdd, Nat.reduceLeDiff, dF, za] | with_reducible intro _ | ((with_reducible apply And.intro); omega))
      unfold zhN
      (repeat first | simp (disch := try exact dis1) only [evD, Nat.reduceBEq, Nat.reduceAdd, Nat.reduceLeDiff] | with_reducible intro _ | ((with_reducible apply And.intro); omega))
      exact ⟨(i + 1, zaD x u), ⟨by simp only; omega, hgo, by simp only; omega⟩, by simp only; omega, (Ent.tab [] [] rfl (by (try simp only [evWB, Nat.reduceBEq, Nat.reduceAdd, Nat.reduceSub, Nat.reduceLeDiff, Nat.reduceLT, implies_true, za]) <;> exact fin2) (by (try simp only [evWB, Nat.reduceBEq, Nat.reduceAdd, Nat.reduceSub, Nat.reduceLeDiff, Nat.reduceLT, implies_true, za]) <;> exact fin2))⟩
  by_cases h2 : op = 2
  · rw [if_pos h2] at main hR
    (repeat first | simp (disch := try exact dis1) only [evD, Nat.reduceBEq, Nat.reduceAdd, Nat.reduceLeDiff, fldP, dT] | with_reducible intro _ | ((with_reducible apply And.intro); omega))
    have hv1 : ∀ {H HH : AH} {σ : Nat → Nat → Option (Nat × Nat × Nat)}, H.get 1 0 = some (.row 1 [[.int .i64 v]] 1) → Vw H HH σ (inD [1]) true (.own 1 0 1 0 1) (encL 1 (fun n => [.int .i64 n]) [v]) := fun h => zV (l := [v]) rfl h (by simp [big])
    refine main _ _ _ (Ent.tab [] [1] rfl trivial ⟨zJ rfl, hv1 rfl, .int _ _ _, trivial⟩)
  · rw [if_neg h2] at main hR
    (repeat first | simp (disch := try exact dis1) only [evD, Nat.reduceBEq, Nat.reduceAdd, Nat.reduceLeDiff, fldP, dF] | with_reducible intro _ | ((with_reducible apply And.intro); omega))
    have hv1 : ∀ {H HH : AH} {σ : Nat → Nat → Option (Nat × Nat × Nat)}, H.get 1 0 = some (.row 1 [] 0) → Vw H HH σ (inD [1]) true (.own 1 0 0 0 0) (encL 1 (fun n => [.int .i64 n]) []) := fun h => zV (l := []) rfl h (by simp [big])
    refine main _ _ _ (Ent.tab [] [1] rfl trivial ⟨zJ rfl, hv1 rfl, .int _ _ _, trivial⟩)
theorem zls (s : St) (hs : zw s.e ≤ 100000) : zD Tryz.prog zhr [.agg s.cells] (· = za (zb6 s)) := by
  refine fn_x zpK rfl ?_
  unfold zkB
  have hB := hBig
  obtain ⟨op, var, width, next, els, tgt, l, cs⟩ := s
  unfold zb6
  simp only at hs ⊢
  generalize hR : zh8 [] l = R
  have hv1 : ∀ {H HH : AH} {σ : Nat → Nat → Option (Nat × Nat × Nat)}, H.get 1 0 = some (.row 1 [] 0) → Vw H HH σ (inD [1]) true (.own 1 0 0 0 0) (encL 1 (fun n => [.int .i64 n]) []) := fun h => zV (l := []) rfl h (by simp [big])
  (repeat first | simp (disch := try exact dis1) only [evD, Nat.reduceBEq, Nat.reduceAdd, Nat.reduceLeDiff, fldP, St.cells, za] | with_reducible intro _ | ((with_reducible apply And.intro); omega))
  refine zm (fun t : Nat × List Int => ([(1, encP 8 (St.cells ⟨op, var, width, next, els, tgt, l, cs⟩)), (3, za t.2), (4, .int .i64 t.1)], [])) 0
    (fun t => t.1 ≤ l.length ∧ zh8 t.2 (l.drop t.1) = R ∧ t.2.length + zw (l.drop t.1) ≤ 100001) (fun t => l.length - t.1) (0, []) ⟨Nat.zero_le _, hR, by simp only [List.length_nil, List.drop_zero]; omega⟩ (Ent.tab [] [1] rfl trivial ⟨zJ rfl, hv1 rfl, .int _ _ _, trivial⟩) ?_
  rintro ⟨i, x⟩ ⟨hi, hgo, hsz⟩ wf
  simp only at hi hgo hsz
  unfold zhZ
  by_cases hil : i < l.length
  case neg =>
    rw [List.drop_of_length_le (by omega), zh8] at hgo
    subst hgo
    (repeat first | simp (disch := try exact dis1) only [evD, Nat.reduceBEq, Nat.reduceAdd, Nat.reduceLeDiff, fldP, dF, St.cells] | with_reducible intro _ | ((with_reducible apply And.intro); omega))
    unfold zh1
    (repeat first | simp (disch := try exact dis1) only [evD, Nat.reduceBEq, Nat.reduceAdd, Nat.reduceLeDiff, zlM] | with_reducible intro _ | ((with_reducible apply And.intro); omega))
    exact ⟨_, zJ rfl, rfl⟩
  have hm := zcR (List.getElem_mem hil)
  have hsd := zf7 hil
  rw [List.drop_eq_getElem_cons hil, zh8] at hgo
  have hvl := zfx l[i]
  have hul := zdg (a := x) (b := zcN l[i])
  (repeat first | simp (disch := try exact dis1) only [evD, Nat.reduceBEq, Nat.reduceAdd, Nat.reduceLeDiff, fldP, dT, St.cells, zt hil, zbp, zaQ] | with_reducible intro _ | ((with_reducible apply And.intro); omega))
  refine zn (zo (zqe _ l[i] (Nat.le_refl _) (by omega)) (flX rfl)) ?_
  (repeat first | simp (disch := try exact dis1) only [evD, Nat.reduceBEq, Nat.reduceAdd, Nat.reduceLeDiff] | with_reducible intro _ | ((with_reducible apply And.intro); omega))
  refine zn (zo (zfb x (zcN l[i]) (by omega)) rfl) ?_
  (repeat first | simp (disch := try exact dis1) only [evD, Nat.reduceBEq, Nat.reduceAdd, Nat.reduceLeDiff] | with_reducible intro _ | ((with_reducible apply And.intro); omega))
  exact ⟨(i + 1, zaD x (zcN l[i])), ⟨by simp only; omega, hgo, by simp only; omega⟩, by simp only; omega, (Ent.tab [] [] rfl (by (try simp only [evWB, Nat.reduceBEq, Nat.reduceAdd, Nat.reduceSub, Nat.reduceLeDiff, Nat.reduceLT, implies_true, za, St.cells]) <;> exact fin2) (by (try simp only [evWB, Nat.reduceBEq, Nat.reduceAdd, Nat.reduceSub, Nat.reduceLeDiff, Nat.reduceLT, implies_true, za, St.cells]) <;> exact fin2))⟩
theorem zk0 (s : St) : zD Tryz.prog zhp [.agg s.cells] (· = za (zfu s)) := by
  refine fn_x zpC rfl ?_
  unfold zlB
  have hB := hBig
  obtain ⟨op, var, width, next, els, tgt, l, cs⟩ := s
  unfold zfu
  simp only
  by_cases h : op = 1 ∨ op = 3
  · rw [if_pos h]
    rcases h with rfl | rfl
    · (repeat first | simp (disch := try exact dis1) only [evD, Nat.reduceBEq, Nat.reduceAdd, Nat.reduceLeDiff, dT, dF, fldP, za, St.cells, zga] | with_reducible intro _ | ((with_reducible apply And.intro); omega))
      exact ⟨_, zV (l := [var]) trivial rfl (by simp only [List.length_singleton]; omega), rfl⟩
    · (repeat first | simp (disch := try exact dis1) only [evD, Nat.reduceBEq, Nat.reduceAdd, Nat.reduceLeDiff, dT, dF, fldP, za, St.cells, zga] | with_reducible intro _ | ((with_reducible apply And.intro); omega))
      exact ⟨_, zV (l := [var]) trivial rfl (by simp only [List.length_singleton]; omega), rfl⟩
  · rw [if_neg h]
    (repeat first | simp (disch := try exact dis1) only [evD, Nat.reduceBEq, Nat.reduceAdd, Nat.reduceLeDiff, dT, dF, fldP, za, St.cells, zga] | with_reducible intro _ | ((with_reducible apply And.intro); omega))
    exact ⟨_, zV (l := []) trivial rfl (by simp only [List.length_nil]; omega), rfl⟩
theorem zgn (s : St) : zD Tryz.prog zbZ [.agg s.cells] (· = za (zfu s)) := by
  refine fn_x zj7 rfl ?_
  unfold zgv
  have hB := hBig
  obtain ⟨op, var, width, next, els, tgt, l, cs⟩ := s
  unfold zfu
  simp only
  by_cases h : op = 1 ∨ op = 3
  · rw [if_pos h]
    rcases h with rfl | rfl
    · (repeat first | simp (disch := try exact dis1) only [evD, Nat.reduceBEq, Nat.reduceAdd, Nat.reduceLeDiff, dT, dF, fldP, za, St.cells, zcm] | with_reducible intro _ | ((with_reducible apply And.intro); omega))
      exact ⟨_, zV (l := [var]) trivial rfl (by simp only [List.length_singleton]; omega), rfl⟩
    · (repeat first | simp (disch := try exact dis1) only [evD, Nat.reduceBEq, Nat.reduceAdd, Nat.reduceLeDiff, dT, dF, fldP, za, St.cells, zcm] | with_reducible intro _ | ((with_reducible apply And.intro); omega))
      exact ⟨_, zV (l := [var]) trivial rfl (by simp only [List.length_singleton]; omega), rfl⟩
  · rw [if_neg h]
    (repeat first | simp (disch := try exact dis1) only [evD, Nat.reduceBEq, Nat.reduceAdd, Nat.reduceLeDiff, dT, dF, fldP, za, St.cells, zcm] | with_reducible intro _ | ((with_reducible apply And.intro); omega))
    exact ⟨_, zV (l := []) trivial rfl (by simp only [List.length_nil]; omega), rfl⟩
theorem ziZ (s : St) : zD Tryz.prog zdp [.agg s.cells] (· = .bool (zf6 s)) := by
  refine fn_x ziJ rfl ?_
  unfold ze3
  have hB := hBig
  obtain ⟨op, var, width, next, els, tgt, l, cs⟩ := s
  unfold zf6
  simp only
  by_cases h9 : op = 9
  · (repeat first | simp (disch := try exact dis1) only [evD, Nat.reduceBEq, Nat.reduceAdd, Nat.reduceLeDiff, dT, dF, fldP, za, St.cells, zbC] | with_reducible intro _ | ((with_reducible apply And.intro); omega))
    exact ⟨_, .bool _ _, rfl⟩
  by_cases h10 : op = 10
  · (repeat first | simp (disch := try exact dis1) only [evD, Nat.reduceBEq, Nat.reduceAdd, Nat.reduceLeDiff, dT, dF, fldP, za, St.cells, zbC] | with_reducible intro _ | ((with_reducible apply And.intro); omega))
    exact ⟨_, .bool _ _, rfl⟩
  (repeat first | simp (disch := try exact dis1) only [evD, Nat.reduceBEq, Nat.reduceAdd, Nat.reduceLeDiff, dT, dF, fldP, za, St.cells, zbC] | with_reducible intro _ | ((with_reducible apply And.intro); omega))
  exact ⟨_, .bool _ _, congrArg AV.bool (decide_eq_decide.2 (by omega))⟩
mutual
theorem zq1 : ∀ e : Ex, (occX e).length ≤ zbq e
  | .mk op _ v _ l => by
    have h := zlc l
    rw [occX, zbq, List.length_append]
    have : (if op = 2 then [v] else ([] : List Int)).length ≤ 1 := by split <;> simp
    omega
theorem zlc : ∀ l : List Ex, (zb8 l).length ≤ zw l
  | [] => by rw [zb8, zw]; simp
  | x :: l => by
    have h1 := zlc l
    have h2 := zq1 x
    rw [zb8, zw, List.length_append]
    omega
end
theorem zjX : ∀ l m : List Ex, zb8 (l ++ m) = zb8 l ++ zb8 m
  | [], m => by rw [zb8]; rfl
  | x :: l, m => by rw [List.cons_append, zb8, zb8, zjX l m, List.append_assoc]
theorem ztF : ∀ e : Ex, 1 ≤ zbq e
  | .mk _ _ _ _ _ => by rw [zbq]; omega
theorem zhw : ∀ l : List Ex, l.length ≤ zw l
  | [] => by rw [zw]; simp
  | x :: l => by rw [List.length_cons, zw]; have := zhw l; have := ztF x; omega
theorem zd7 : ∀ l m : List Ex, zw (l ++ m) = zw l + zw m
  | [], m => by rw [zw]; simp
  | x :: l, m => by rw [List.cons_append, zw, zw, zd7 l m]; omega
def visH (xs : List Int) (g : Nat) : AH := [(0, .row 1 [[.own 1 0 g 0 xs.length]] 0), (1, .row 1 (xs.map cI) g)]
def zh4 (op v : Int) : List Int := if op = 2 then [v] else []
theorem zso {op v : Int} : (zh4 op v).length ≤ 1 := by unfold zh4; split <;> simp
theorem zlZ (op n v w : Int) (l : List Ex) (xs : List Int) (g : Nat) (hx : xs.length ≤ 200000) :
    zS Tryz.prog zeo [.agg (encX (.mk op n v w l)), .ptr 0 0 0 0 0] (visH xs g) 2 (fun r H nx => ∃ g', r = .tup [] ∧ H = visH (xs ++ zh4 op v) g' ∧ nx = 2) := by
  refine zbD (fn_x zoG rfl ?_)
  unfold zjF
  have hB := hBig
  rw [zcf]
  unfold zh4
  by_cases h : op = 2
  · rw [if_pos h]
    (repeat first | simp (disch := try exact dis1) only [evD, Nat.reduceBEq, Nat.reduceAdd, Nat.reduceLeDiff, visH, dT h] | with_reducible intro _ | ((with_reducible apply And.intro); omega))
    (repeat first | simp (disch := try exact dis1) only [evD, Nat.reduceBEq, Nat.reduceAdd, Nat.reduceLeDiff, zgM] | with_reducible intro _ | ((with_reducible apply And.intro); omega))
    exact ⟨.tup [], visH (xs ++ [v]) (g + 1), 2, (Ent.tabB [(0, 0, 0), (1, 1, 0)] [] rfl rfl rfl (by (try simp only [evWB, Nat.reduceBEq, Nat.reduceAdd, Nat.reduceSub, Nat.reduceLeDiff, Nat.reduceLT, implies_true, visH]) <;> exact fin1) (by (try simp only [evWB, Nat.reduceBEq, Nat.reduceAdd, Nat.reduceSub, Nat.reduceLeDiff, Nat.reduceLT, implies_true, visH]) <;> exact fin1)), g + 1, rfl, rfl, rfl⟩
  · rw [if_neg h]
    (repeat first | simp (disch := try exact dis1) only [evD, Nat.reduceBEq, Nat.reduceAdd, Nat.reduceLeDiff, visH, dF h, zgM] | with_reducible intro _ | ((with_reducible apply And.intro); omega))
    refine ⟨.tup [], visH xs g, 2, ?_, g, rfl, rfl, rfl⟩
    exact (Ent.tabB [(0, 0, 0), (1, 1, 0)] [] rfl rfl rfl (by (try simp only [evWB, Nat.reduceBEq, Nat.reduceAdd, Nat.reduceSub, Nat.reduceLeDiff, Nat.reduceLT, implies_true, visH]) <;> exact fin1) (by (try simp only [evWB, Nat.reduceBEq, Nat.reduceAdd, Nat.reduceSub, Nat.reduceLeDiff, Nat.reduceLT, implies_true, visH]) <;> exact fin1))
def visF : AV := .fn (.func zeo) [.ptr 0 0 0 0 0]
theorem zng : ∀ (k : Nat) (e : Ex) (xs : List Int) (g : Nat), zbq e ≤ k → xs.length + zbq e ≤ 100000 →
    zS Tryz.prog zhu [.agg (encX e), visF] (visH xs g) 2 (fun r H nx => ∃ g', r = .tup [] ∧ H = visH (xs ++ occX e) g' ∧ nx = 2) := by
  intro k
  induction k with
  | zero => intro e xs g h; obtain ⟨_, _, _, _, l⟩ := e; rw [zbq] at h; omega
  | succ k ih =>
  intro e xs g hk hx
  obtain ⟨op, n, v, w, l⟩ := e
  rw [zbq] at hk hx
  refine zbD (fn_x zo8 rfl ?_)
  unfold zlg
  have hB := hBig
  have hlen := zhw l
  have h1 := zlZ op n v w l xs g (by omega)
  have hv1 := zso (op := op) (v := v)
  rw [zcf] at h1 ⊢
  (repeat first | simp (disch := try exact dis1) only [evD, Nat.reduceBEq, Nat.reduceAdd, Nat.reduceLeDiff, visF, visH] | with_reducible intro _ | ((with_reducible apply And.intro); omega))
  refine ⟨by kernel_rfl, ?_⟩
  refine zL [(0, 0, 0), (1, 1, 0)] 2 _ (h1) rfl rfl (by (try simp only [evWB, Nat.reduceBEq, Nat.reduceAdd, Nat.reduceSub, Nat.reduceLeDiff, Nat.reduceLT, implies_true, visH]) <;> exact fin1) (by (try simp only [evWB, Nat.reduceBEq, Nat.reduceAdd, Nat.reduceSub, Nat.reduceLeDiff, Nat.reduceLT, implies_true, visH]) <;> exact fin1) ?_
  rintro r H' nx' ⟨g', rfl, rfl, rfl⟩
  (repeat first | simp (disch := try exact dis1) only [evD, Nat.reduceBEq, Nat.reduceAdd, Nat.reduceLeDiff, visH] | with_reducible intro _ | ((with_reducible apply And.intro); omega))
  have hocc : occX (.mk op n v w l) = zh4 op v ++ zb8 l := by rw [occX]; rfl
  rw [hocc]
  refine zm (fun a : Nat × Nat => ([(1, .fn (.func zeo) [.ptr 0 0 0 0 0]), (10, encL 5 encX l), (11, .int .i64 l.length), (12, .int .i64 a.1)], visH (xs ++ (zh4 op v ++ zb8 (l.take a.1))) a.2)) 2
    (fun a => a.1 ≤ l.length) (fun a => l.length - a.1) (0, g') (Nat.zero_le _) (Ent.tabB [(0, 0, 0), (1, 1, 0)] [] rfl rfl rfl (by (try simp only [evWB, Nat.reduceBEq, Nat.reduceAdd, Nat.reduceSub, Nat.reduceLeDiff, Nat.reduceLT, implies_true, List.take_zero, zb8, List.append_nil, visH]) <;> exact fin1) (by (try simp only [evWB, Nat.reduceBEq, Nat.reduceAdd, Nat.reduceSub, Nat.reduceLeDiff, Nat.reduceLT, implies_true, List.take_zero, zb8, List.append_nil, visH]) <;> exact fin1)) ?_
  rintro ⟨i, gi⟩ hi wf
  simp only at hi
  unfold zh0
  (repeat first | simp (disch := try exact dis1) only [evD, Nat.reduceBEq, Nat.reduceAdd, Nat.reduceLeDiff, visH] | with_reducible intro _ | ((with_reducible apply And.intro); omega))
  (refine zao (fun h => ?_) (fun h => ?_)) <;> (try simp only [dcd] at h)
  · have hi' : i < l.length := by omega
    have htk : zb8 (l.take (i + 1)) = zb8 (l.take i) ++ occX l[i] := by
      rw [List.take_add_one, List.getElem?_eq_getElem hi', zjX]
      congr 1
      show zb8 [l[i]] = _
      rw [zb8, zb8, List.append_nil]
    have hs : zw l = zw (l.take i) + zw (l.drop i) := by rw [← zd7, List.take_append_drop]
    have hs2 := zf7 hi'
    have ho := zlc (l.take i)
    have hc := ih l[i] (xs ++ (zh4 op v ++ zb8 (l.take i))) gi (by omega) (by simp only [List.length_append]; omega)
    have e1 : xs ++ (zh4 op v ++ zb8 (l.take i)) ++ occX l[i] = xs ++ (zh4 op v ++ zb8 (l.take (i + 1))) := by rw [htk]; simp
    rw [e1] at hc
    (repeat first | simp (disch := try exact dis1) only [evD, Nat.reduceBEq, Nat.reduceAdd, Nat.reduceLeDiff, zt hi'] | with_reducible intro _ | ((with_reducible apply And.intro); omega))
    generalize l[i] = x at hc ⊢
    obtain ⟨o2, n2, v2, w2, l2⟩ := x
    simp only [zcf] at hc ⊢
    (repeat first | simp (disch := try exact dis1) only [evD, Nat.reduceBEq, Nat.reduceAdd, Nat.reduceLeDiff] | with_reducible intro _ | ((with_reducible apply And.intro); omega))
    refine zL [(0, 0, 0), (1, 1, 0)] 2 _ (hc) rfl rfl (by (try simp only [evWB, Nat.reduceBEq, Nat.reduceAdd, Nat.reduceSub, Nat.reduceLeDiff, Nat.reduceLT, implies_true, visH, visF]) <;> exact fin1) (by (try simp only [evWB, Nat.reduceBEq, Nat.reduceAdd, Nat.reduceSub, Nat.reduceLeDiff, Nat.reduceLT, implies_true, visH, visF]) <;> exact fin1) ?_
    rintro r H' nx' ⟨g2, rfl, rfl, rfl⟩
    (repeat first | simp (disch := try exact dis1) only [evD, Nat.reduceBEq, Nat.reduceAdd, Nat.reduceLeDiff, visH] | with_reducible intro _ | ((with_reducible apply And.intro); omega))
    exact ⟨(i + 1, g2), by simp only; omega, by simp only; omega, (Ent.tabB [(0, 0, 0), (1, 1, 0)] [] rfl rfl rfl (by (try simp only [evWB, Nat.reduceBEq, Nat.reduceAdd, Nat.reduceSub, Nat.reduceLeDiff, Nat.reduceLT, implies_true, visH]) <;> exact fin1) (by (try simp only [evWB, Nat.reduceBEq, Nat.reduceAdd, Nat.reduceSub, Nat.reduceLeDiff, Nat.reduceLT, implies_true, visH]) <;> exact fin1))⟩
  · have hi' : l.length ≤ i := by omega
    (repeat first | simp (disch := try exact dis1) only [evD, Nat.reduceBEq, Nat.reduceAdd, Nat.reduceLeDiff, zkW] | with_reducible intro _ | ((with_reducible apply And.intro); omega))
    refine ⟨.tup [], visH (xs ++ (zh4 op v ++ zb8 l)) gi, 2, ?_, gi, rfl, rfl, rfl⟩
    rw [List.take_of_length_le hi']
    exact (Ent.tabB [(0, 0, 0), (1, 1, 0)] [] rfl rfl rfl (by (try simp only [evWB, Nat.reduceBEq, Nat.reduceAdd, Nat.reduceSub, Nat.reduceLeDiff, Nat.reduceLT, implies_true, visH]) <;> exact fin1) (by (try simp only [evWB, Nat.reduceBEq, Nat.reduceAdd, Nat.reduceSub, Nat.reduceLeDiff, Nat.reduceLT, implies_true, visH]) <;> exact fin1))
theorem zmi {l : List Int} (hs : l.Pairwise (· ≤ ·)) : ∀ n, n ≤ l.length → Asc (zaf l n) ∧ ∀ x, x ∈ zaf l n ↔ ∃ j, ∃ h : j < l.length, j < n ∧ l[j] = x
  | 0, _ => by
    refine ⟨List.Pairwise.nil, fun x => ⟨fun h => ?_, fun ⟨j, _, h, _⟩ => absurd h (Nat.not_lt_zero _)⟩⟩
    have : zaf l 0 = [] := rfl
    rw [this] at h
    cases h
  | n + 1, hn => by
    obtain ⟨h1, h2⟩ := zmi hs n (by omega)
    have hp := List.pairwise_iff_getElem.1 hs
    cases hk : ze5 l n with
    | true =>
      rw [zjj (by omega) hk]
      refine ⟨List.pairwise_append.2 ⟨h1, List.pairwise_singleton _ _, fun a ha b hb => ?_⟩, fun x => ?_⟩
      · obtain ⟨j, hj, hjn, rfl⟩ := (h2 a).1 ha
        rw [List.mem_singleton] at hb
        subst hb
        have hne : l[n] ≠ l[n - 1] := by
          have := zfq (l := l) (j := n) (by omega) (by omega)
          rw [hk] at this
          simpa using this.symm
        have a1 := hp (n - 1) n (by omega) (by omega) (by omega)
        rcases Nat.lt_or_ge j (n - 1) with h3 | h3
        · have := hp j (n - 1) hj (by omega) h3
          omega
        · obtain rfl : j = n - 1 := by omega
          omega
      · rw [List.mem_append, List.mem_singleton, h2]
        constructor
        · rintro (⟨j, hj, hjn, rfl⟩ | rfl)
          · exact ⟨j, hj, by omega, rfl⟩
          · exact ⟨n, by omega, by omega, rfl⟩
        · rintro ⟨j, hj, hjn, rfl⟩
          rcases Nat.lt_or_ge j n with h3 | h3
          · exact .inl ⟨j, hj, h3, rfl⟩
          · obtain rfl : j = n := by omega
            exact .inr rfl
    | false =>
      rw [zlO hk]
      refine ⟨h1, fun x => ?_⟩
      rw [h2]
      constructor
      · rintro ⟨j, hj, hjn, rfl⟩
        exact ⟨j, hj, by omega, rfl⟩
      · rintro ⟨j, hj, hjn, rfl⟩
        rcases Nat.lt_or_ge j n with h3 | h3
        · exact ⟨j, hj, h3, rfl⟩
        · obtain rfl : j = n := by omega
          have h0 : 1 ≤ j := by
            rcases Nat.eq_zero_or_pos j with rfl | h
            · cases hk
            · exact h
          have := zfq (l := l) (j := j) h0 hj
          rw [hk] at this
          have he : l[j] = l[j - 1] := by simpa using this.symm
          exact ⟨j - 1, by omega, by omega, he.symm⟩
theorem zoY (l m : List Int) (hm : Asc m) (h : ∀ x, x ∈ m ↔ x ∈ l) : zdr (zbS l) = m := by
  obtain ⟨h1, h2⟩ := zmi (zbl l) (zbS l).length (Nat.le_refl _)
  refine znz h1 hm fun x => ?_
  rw [h, ← (zP l).mem_iff]
  show x ∈ zaf _ _ ↔ _
  rw [h2, List.mem_iff_getElem]
  exact ⟨fun ⟨j, hj, _, e⟩ => ⟨j, hj, e⟩, fun ⟨j, hj, e⟩ => ⟨j, hj, hj, e⟩⟩
theorem zrG (e : Ex) (hk : zbq e ≤ 100000) : zD Tryz.prog zkK [.agg (encX e)] (· = za (zcN e)) := by
  refine fn_x zsA rfl ?_
  unfold zmG
  have hB := hBig
  have hc := zng (zbq e) e [] 0 (Nat.le_refl _) (by simp only [List.length_nil]; omega)
  have hl := zq1 e
  have hcs := zoY (occX e) (zcN e) (ztd e) fun x => zip e
  rw [List.nil_append] at hc
  generalize occX e = xs at hc hl hcs
  generalize zcN e = vs at hcs ⊢
  obtain ⟨op, n, v, w, l⟩ := e
  simp only [zcf] at hc ⊢
  (repeat first | simp (disch := try exact dis1) only [evD, Nat.reduceBEq, Nat.reduceAdd, Nat.reduceLeDiff] | with_reducible intro _ | ((with_reducible apply And.intro); omega))
  refine zL [(0, 1, 0)] 2 _ (hc) rfl rfl (by (try simp only [evWB, Nat.reduceBEq, Nat.reduceAdd, Nat.reduceSub, Nat.reduceLeDiff, Nat.reduceLT, implies_true, visH, visF]) <;> exact fin1) (by (try simp only [evWB, Nat.reduceBEq, Nat.reduceAdd, Nat.reduceSub, Nat.reduceLeDiff, Nat.reduceLT, implies_true, visH, visF]) <;> exact fin1) ?_
  rintro r H' nx' ⟨g', rfl, rfl, rfl⟩
  (repeat first | simp (disch := try exact dis1) only [evD, Nat.reduceBEq, Nat.reduceAdd, Nat.reduceLeDiff, visH] | with_reducible intro _ | ((with_reducible apply And.intro); omega))
  refine zjx (zkQ (zs := xs) rfl (by omega)) ?_
  rintro _ _ _ hres
  simp only [Prod.mk.injEq] at hres
  obtain ⟨rfl, rfl, rfl⟩ := hres
  have hsl : (zbS xs).length = xs.length := (zP xs).length_eq
  have hcl := zrI (l := zbS xs) (n := (zbS xs).length)
  rw [← hsl]
  generalize zbS xs = ss at hcs hsl hcl ⊢
  (repeat first | simp (disch := try exact dis1) only [evD, Nat.reduceBEq, Nat.reduceAdd, Nat.reduceLeDiff] | with_reducible intro _ | ((with_reducible apply And.intro); omega))
  refine zL [(0, 3, 0)] 1 _ (znt ss g' (by omega)) rfl rfl (by (try simp only [evWB, Nat.reduceBEq, Nat.reduceAdd, Nat.reduceSub, Nat.reduceLeDiff, Nat.reduceLT, implies_true]) <;> exact fin1) (by (try simp only [evWB, Nat.reduceBEq, Nat.reduceAdd, Nat.reduceSub, Nat.reduceLeDiff, Nat.reduceLT, implies_true]) <;> exact fin1) ?_
  rintro _ _ _ ⟨m, rfl, rfl, rfl⟩
  have hcl2 : (zdr ss).length ≤ ss.length := hcl
  rw [hcs] at hcl2 ⊢
  (repeat first | simp (disch := try exact dis1) only [evD, Nat.reduceBEq, Nat.reduceAdd, Nat.reduceLeDiff, zmC] | with_reducible intro _ | ((with_reducible apply And.intro); omega))
  refine ⟨_, ?_, rfl⟩
  exact zwl (m := m) trivial rfl (by omega)
theorem ziQ {c : Int} {ps : List (Int × Int)} (h : SetS c ps) {m : List Int} (hm : Asc m) (he : ∀ x, x ∈ m ↔ x ∈ ps.map (·.1)) : zbS (ps.map (·.1)) = m := by
  refine znz ?_ hm fun x => ?_
  · have h1 := zbl (ps.map (·.1))
    have h2 : (zbS (ps.map (·.1))).Nodup := (zP _).nodup_iff.2 h.keys
    refine List.Pairwise.imp₂ (fun a b hle hne => ?_) h1 h2
    omega
  · rw [he, (zP _).mem_iff]
theorem renM {ρ : Nat → Nat} {l : List MC} {g : Nat} : AObj.ren ρ (.row 3 (l.map cm) g) = .row 3 (l.map cm) g := by
  simp only [AObj.ren]
  rw [zfU (zg zc)]
theorem renF {ρ : Nat → Nat} {n : Nat} {S : Nat → MS} : AObj.ren ρ (famS n S) = famS n S := by
  unfold famS fi
  simp only [AObj.ren, List.map_map]
  congr 1
  refine List.map_congr_left fun i _ => ?_
  show (List.map _ _, _) = _
  rw [zfU (zg zc)]
theorem renE {ρ : Nat → Nat} {l : List Int} : AV.ren ρ (za l) = za l := zk5 rfl
def zfL (s : MS) (l : List Ex) : MS := l.foldl (fun a x => addL a (zcN x)) s
theorem zrE {s : MS} {l : List Ex} {i : Nat} (h : i < l.length) : zfL s (l.take (i + 1)) = addL (zfL s (l.take i)) (zcN l[i]) := by
  unfold zfL
  rw [List.take_add_one, List.getElem?_eq_getElem h, List.foldl_append]
  rfl
theorem zoE {y : Int} : ∀ {l : List Ex} {s : MS}, y ∈ (zfL s l).keys ↔ y ∈ s.keys ∨ y ∈ zb8 l
  | [], s => by rw [zb8]; simp [zfL]
  | x :: l, s => by
    show y ∈ (zfL (addL s (zcN x)) l).keys ↔ _
    rw [zoE, zds, zip, zb8, List.mem_append, or_assoc]
theorem zra : ∀ {l : List Ex} {s : MS}, s.ok → s.1 + zw l ≤ 1000000 → s.2.length + zw l ≤ 1000000 → (zfL s l).ok ∧ (zfL s l).1 ≤ s.1 + zw l ∧ (zfL s l).2.length ≤ s.2.length + zw l
  | [], s, h, _, _ => by
    rw [zw]
    exact ⟨h, by show s.1 ≤ _; omega, by show s.2.length ≤ _; omega⟩
  | x :: l, s, h, h1, h2 => by
    rw [zw] at h1 h2 ⊢
    have hb := zcF (l := zcN x) (s := s)
    have hv := zfx x
    have h3 := zih (l := zcN x) h (by omega) (by omega)
    obtain ⟨h4, h5, h6⟩ := zra (l := l) h3 (by omega) (by omega)
    exact ⟨h4, by show (zfL (addL s (zcN x)) l).1 ≤ _; omega, by show (zfL (addL s (zcN x)) l).2.length ≤ _; omega⟩
theorem zli : MS.ok (0, []) := ⟨List.nodup_nil, List.nodup_nil, (fun _ h => nomatch h), by simp, by simp⟩
theorem zkJ {l : List Ex} {i : Nat} : zw (l.take i) ≤ zw l := by
  have : zw l = zw (l.take i) + zw (l.drop i) := by rw [← zd7, List.take_append_drop]
  omega
theorem zdK (s : St) (hs : zw s.e ≤ 100000) : zD Tryz.prog zbU [.agg s.cells] (· = za (zb6 s)) := by
  refine fn_x zkd rfl ?_
  unfold zgx
  have hB := hBig
  obtain ⟨op, var, width, next, els, tgt, l, cs⟩ := s
  simp only at hs
  have hasc := zt0 ⟨op, var, width, next, els, tgt, l, cs⟩
  have hmem : ∀ x, x ∈ zb6 ⟨op, var, width, next, els, tgt, l, cs⟩ ↔ x ∈ (zfL (0, []) l).2.map (·.1) := fun x => by
    show x ∈ zh8 [] l ↔ x ∈ (zfL (0, []) l).keys
    rw [zoj, zoE]
    simp [MS.keys]
  have hok := fun i => zra (l := l.take i) (s := (0, [])) zli (by have := zkJ (l := l) (i := i); simp only; omega) (by have := zkJ (l := l) (i := i); simp only [List.length_nil]; omega)
  generalize zb6 ⟨op, var, width, next, els, tgt, l, cs⟩ = R at hasc hmem ⊢
  (repeat first | simp (disch := try exact dis1) only [evD, Nat.reduceBEq, Nat.reduceAdd, Nat.reduceLeDiff, fldP, St.cells, za] | with_reducible intro _ | ((with_reducible apply And.intro); omega))
  refine zm (fun i : Nat => ([(3, .mp 0 0), (8, encL 5 encX l), (9, .int .i64 l.length), (10, .int .i64 i)], [(0, .row 3 ((setM (zfL (0, []) (l.take i)).1 (zfL (0, []) (l.take i)).2).map cm) 0)])) 1
    (fun i => i ≤ l.length) (fun i => l.length - i) 0 (Nat.zero_le _) (by rw [List.take_zero, show zfL (0, []) [] = (0, []) from rfl]; exact (Ent.tab [(0, 1, 0)] [] rfl (by (try simp only [evWB, Nat.reduceBEq, Nat.reduceAdd, Nat.reduceSub, Nat.reduceLeDiff, Nat.reduceLT, implies_true, zh]) <;> exact fin6) (by (try simp only [evWB, Nat.reduceBEq, Nat.reduceAdd, Nat.reduceSub, Nat.reduceLeDiff, Nat.reduceLT, implies_true, zh]) <;> exact fin6))) ?_
  rintro i hi wf
  unfold zeE
  by_cases hil : i < l.length
  · have hsd := zf7 hil
    have hst : zw l = zw (l.take i) + zw (l.drop i) := by rw [← zd7, List.take_append_drop]
    obtain ⟨h1, h2, h3⟩ := hok i
    have hvl := zfx l[i]
    have htk := zrE (s := (0, [])) hil
    (repeat first | simp (disch := try exact dis1) only [evD, Nat.reduceBEq, Nat.reduceAdd, Nat.reduceLeDiff, fldP, dT, zt hil, zbp, zaQ, zh] | with_reducible intro _ | ((with_reducible apply And.intro); omega))
    refine zn (zo (zrG l[i] (by omega)) (flX rfl)) ?_
    generalize zcN l[i] = u at hvl htk ⊢
    generalize zfL (0, []) (l.take i) = a at h1 h2 h3 htk ⊢
    simp only [List.length_nil, Nat.zero_add, Int.zero_add] at h2 h3
    (repeat first | simp (disch := try exact dis1) only [evD, Nat.reduceBEq, Nat.reduceAdd, Nat.reduceLeDiff] | with_reducible intro _ | ((with_reducible apply And.intro); omega))
    refine zL [(0, 0, 0)] 1 _ (zfz a u h1 (by omega) (by omega)) rfl rfl (by (try simp only [evWB, Nat.reduceBEq, Nat.reduceAdd, Nat.reduceSub, Nat.reduceLeDiff, Nat.reduceLT, implies_true, zh]) <;> exact fin6) (by (try simp only [evWB, Nat.reduceBEq, Nat.reduceAdd, Nat.reduceSub, Nat.reduceLeDiff, Nat.reduceLT, implies_true, zh]) <;> exact fin6) ?_
    rintro _ _ _ ⟨rfl, rfl, rfl⟩
    (repeat first | simp (disch := try exact dis1) only [evD, Nat.reduceBEq, Nat.reduceAdd, Nat.reduceLeDiff, renM] | with_reducible intro _ | ((with_reducible apply And.intro); omega))
    exact ⟨i + 1, by omega, by omega, (Ent.tab [(0, 0, 0)] [] rfl (by (try simp only [evWB, Nat.reduceBEq, Nat.reduceAdd, Nat.reduceSub, Nat.reduceLeDiff, Nat.reduceLT, implies_true, zh, htk]) <;> exact fin6) (by (try simp only [evWB, Nat.reduceBEq, Nat.reduceAdd, Nat.reduceSub, Nat.reduceLeDiff, Nat.reduceLT, implies_true, zh, htk]) <;> exact fin6))⟩
  · (repeat first | simp (disch := try exact dis1) only [evD, Nat.reduceBEq, Nat.reduceAdd, Nat.reduceLeDiff, dF] | with_reducible intro _ | ((with_reducible apply And.intro); omega))
    unfold zeq
    obtain ⟨h1, h2, h3⟩ := hok l.length
    have hso := ziQ (c := (zfL (0, []) l).1) (ps := (zfL (0, []) l).2) (by rw [List.take_length] at h1; exact h1) hasc hmem
    rw [List.take_length] at h1 h2 h3
    rw [List.take_of_length_le (by omega)]
    generalize zfL (0, []) l = a at h1 h2 h3 hso ⊢
    (repeat first | simp (disch := try exact dis1) only [evD, Nat.reduceBEq, Nat.reduceAdd, Nat.reduceLeDiff, zh] | with_reducible intro _ | ((with_reducible apply And.intro); omega))
    refine zL [(0, 0, 0)] 1 _ (zkr a.1 a.2 h1) rfl rfl (by (try simp only [evWB, Nat.reduceBEq, Nat.reduceAdd, Nat.reduceSub, Nat.reduceLeDiff, Nat.reduceLT, implies_true, zh]) <;> exact fin6) (by (try simp only [evWB, Nat.reduceBEq, Nat.reduceAdd, Nat.reduceSub, Nat.reduceLeDiff, Nat.reduceLT, implies_true, zh]) <;> exact fin6) ?_
    rintro _ _ _ ⟨rfl, rfl, rfl⟩
    rw [hso]
    (repeat first | simp (disch := try exact dis1) only [evD, Nat.reduceBEq, Nat.reduceAdd, Nat.reduceLeDiff, renM, renE, zgw] | with_reducible intro _ | ((with_reducible apply And.intro); omega))
    exact ⟨_, zJ rfl, rfl⟩
def del1 (s : MS) (v : Int) : MS := (s.1, s.2.filter fun p => p.1 != v)
def delL (s : MS) (l : List Int) : MS := l.foldl del1 s
theorem ztI {s : MS} {l : List Int} {i : Nat} (h : i < l.length) : delL s (l.take (i + 1)) = del1 (delL s (l.take i)) l[i] := by
  unfold delL
  rw [List.take_add_one, List.getElem?_eq_getElem h, List.foldl_append]
  rfl
theorem zoN {s : MS} {v : Int} (h : v ∉ s.2.map (·.1)) : del1 s v = s := by
  unfold del1
  rw [List.filter_eq_self.2 fun p hp => ?_]
  simp only [bne_iff_ne, ne_eq]
  exact fun e => h (List.mem_map.2 ⟨p, hp, e⟩)
theorem zjJ {v : Int} : ∀ {ps : List (Int × Int)} {j : Nat}, (ps.map (·.1)).Nodup → (h : j < ps.length) → ps[j].1 = v → ps.eraseIdx j = ps.filter fun p => p.1 != v
  | p :: ps, 0, hn, _, he => by
    simp only [List.map_cons, List.nodup_cons] at hn
    simp only [List.getElem_cons_zero] at he
    have h1 := zoN (s := ((0 : Int), ps)) (v := v) (by rw [← he]; exact hn.1)
    have h2 : ps.filter (fun p => p.1 != v) = ps := congrArg Prod.snd h1
    rw [List.eraseIdx_cons_zero, List.filter_cons, he, h2]
    simp
  | p :: ps, j + 1, hn, hj, he => by
    simp only [List.map_cons, List.nodup_cons] at hn
    simp only [List.getElem_cons_succ] at he
    have hj' : j < ps.length := by simpa using hj
    have hne : p.1 ≠ v := fun e => hn.1 (List.mem_map.2 ⟨ps[j], List.getElem_mem hj', by rw [he, e]⟩)
    rw [List.eraseIdx_cons_succ, List.filter_cons, zjJ hn.2 hj' he]
    simp [hne]
theorem SetS.filter {c : Int} {ps : List (Int × Int)} (h : SetS c ps) (f : Int × Int → Bool) : SetS c (ps.filter f) := by
  have hsub : (ps.filter f).Sublist ps := List.filter_sublist
  exact ⟨h.keys.sublist (hsub.map _), h.borns.sublist (hsub.map _), fun p hp => h.lt p (hsub.mem hp), h.top, Nat.le_trans hsub.length_le h.len⟩
theorem zqy : ∀ {l : List Int} {s : MS}, s.ok → (delL s l).ok ∧ (delL s l).1 = s.1 ∧ (delL s l).2.length ≤ s.2.length
  | [], s, h => ⟨h, rfl, Nat.le_refl _⟩
  | v :: l, s, h => by
    obtain ⟨h1, h2, h3⟩ := zqy (l := l) (s := del1 s v) (SetS.filter h _)
    exact ⟨h1, h2, Nat.le_trans h3 (List.length_filter_le _ _)⟩
theorem zm5 {y : Int} : ∀ {l : List Int} {s : MS}, y ∈ (delL s l).keys ↔ y ∈ s.keys ∧ y ∉ l
  | [], s => by simp [delL]
  | v :: l, s => by
    show y ∈ (delL (del1 s v) l).keys ↔ _
    rw [zm5]
    have : y ∈ (del1 s v).keys ↔ y ∈ s.keys ∧ y ≠ v := by
      simp only [MS.keys, del1, List.mem_map, List.mem_filter, bne_iff_ne, ne_eq]
      constructor
      · rintro ⟨p, ⟨h1, h2⟩, rfl⟩; exact ⟨⟨p, h1, rfl⟩, h2⟩
      · rintro ⟨⟨p, h1, rfl⟩, h2⟩; exact ⟨p, ⟨h1, h2⟩, rfl⟩
    rw [this, List.mem_cons, not_or, and_assoc]
theorem znQ {α β : Type} {f : α → β} : ∀ {l : List α} {j : Nat}, (l.map f).eraseIdx j = (l.eraseIdx j).map f
  | [], _ => rfl
  | _ :: _, 0 => rfl
  | a :: l, j + 1 => congrArg (f a :: ·) (znQ (l := l) (j := j))
theorem zsV {ps : List (Int × Int)} {j : Nat} : ((enL ps).map cm).eraseIdx j = (enL (ps.eraseIdx j)).map cm := by
  unfold enL
  rw [List.map_map, List.map_map, znQ]
def zc2 (exit : List Int) (s : St) (a : MS) : MS :=
  let b := addL (delL a (zfu s)) (zb6 s)
  if zf6 s = true then addL b exit else b
theorem ziz (s : St) : (zb6 s).length ≤ zw s.e := by
  have : ∀ (l : List Ex) (a : List Int), (zh8 a l).length ≤ a.length + zw l := by
    intro l
    induction l with
    | nil => intro a; rw [zh8, zw]; simp
    | cons x l ih =>
      intro a
      rw [zh8, zw]
      have h1 := ih (zaD a (zcN x))
      have h2 := zdg (a := a) (b := zcN x)
      have h3 := zfx x
      omega
  have := this s.e []
  show (zh8 [] s.e).length ≤ _
  simpa using this
theorem zqP {exit : List Int} {s : St} {a : MS} (h : a.ok) (h1 : a.1 + zw s.e + exit.length ≤ 1000000) (h2 : a.2.length + zw s.e + exit.length ≤ 1000000) :
    (zc2 exit s a).ok ∧ (zc2 exit s a).1 ≤ a.1 + zw s.e + exit.length ∧ (zc2 exit s a).2.length ≤ a.2.length + zw s.e + exit.length := by
  obtain ⟨d1, d2, d3⟩ := zqy (l := zfu s) h
  have hu := ziz s
  have u1 := zcF (l := zb6 s) (s := delL a (zfu s))
  have u2 := zih (l := zb6 s) d1 (by omega) (by omega)
  unfold zc2
  simp only
  split
  · have e1 := zcF (l := exit) (s := addL (delL a (zfu s)) (zb6 s))
    have e2 := zih (l := exit) u2 (by omega) (by omega)
    exact ⟨e2, by omega, by omega⟩
  · exact ⟨u2, by omega, by omega⟩
theorem zlH {exit : List Int} {s : St} {a : MS} {l : List Int} (h : ∀ x, x ∈ a.keys ↔ x ∈ l) (y : Int) : y ∈ (zc2 exit s a).keys ↔ y ∈ zcu exit s l := by
  unfold zc2
  simp only
  rw [zeH]
  split
  · rename_i hl
    rw [zds, zds, zm5, h]
    simp [hl, or_assoc]
  · rename_i hl
    rw [zds, zm5, h]
    simp [hl]
theorem zgj (a : MS) (s : St) (exit : List Int) (ha : a.ok) (hsz : zw s.e ≤ 100000) (h1 : a.1 + zw s.e + exit.length ≤ 1000000) (h2 : a.2.length + zw s.e + exit.length ≤ 1000000) :
    zS Tryz.prog zcT [.mp 0 0, .agg s.cells, za exit] [(0, .row 3 ((setM a.1 a.2).map cm) 0)] 1
    (fun v H nx => v = .tup [] ∧ H = [(0, .row 3 ((setM (zc2 exit s a).1 (zc2 exit s a).2).map cm) 0)] ∧ nx = 1) := by
  refine zbD (fn_x zki rfl ?_)
  unfold zgf
  have hB := hBig
  have hdef := zgn s
  have huse := zdK s hsz
  have hlv := ziZ s
  have hb : zc2 exit s a = if zf6 s = true then addL (addL (delL a (zfu s)) (zb6 s)) exit else addL (delL a (zfu s)) (zb6 s) := rfl
  have hu := ziz s
  rw [hb]
  generalize zc2 exit s a = bs at hb
  generalize zfu s = ds at hdef ⊢
  generalize zb6 s = us at huse hu ⊢
  generalize zf6 s = lv at hlv ⊢
  have hok := fun i => zqy (l := ds.take i) ha
  obtain ⟨op, var, width, next, els, tgt, l, cs⟩ := s
  simp only at h1 h2 hu
  (repeat first | simp (disch := try exact dis1) only [evD, Nat.reduceBEq, Nat.reduceAdd, Nat.reduceLeDiff, St.cells, za] | with_reducible intro _ | ((with_reducible apply And.intro); omega))
  refine zn (zo hdef rfl) ?_
  (repeat first | simp (disch := try exact dis1) only [evD, Nat.reduceBEq, Nat.reduceAdd, Nat.reduceLeDiff, za] | with_reducible intro _ | ((with_reducible apply And.intro); omega))
  refine zm (fun i : Nat => ([(0, .mp 0 0), (2, za exit), (4, encP 8 (St.cells ⟨op, var, width, next, els, tgt, l, cs⟩)), (9, za ds), (10, .int .i64 ds.length), (11, .int .i64 i)], [(0, .row 3 ((setM (delL a (ds.take i)).1 (delL a (ds.take i)).2).map cm) 0)])) 1
    (fun i => i ≤ ds.length) (fun i => ds.length - i) 0 (Nat.zero_le _) (by rw [List.take_zero, show delL a [] = a from rfl]; exact (Ent.tabB [(0, 0, 0)] [] rfl rfl rfl (by (try simp only [evWB, Nat.reduceBEq, Nat.reduceAdd, Nat.reduceSub, Nat.reduceLeDiff, Nat.reduceLT, implies_true, zh, za, St.cells]) <;> exact fin6) (by (try simp only [evWB, Nat.reduceBEq, Nat.reduceAdd, Nat.reduceSub, Nat.reduceLeDiff, Nat.reduceLT, implies_true, zh, za, St.cells]) <;> exact fin6))) ?_
  rintro i hi wf
  unfold zeP
  by_cases hil : i < ds.length
  · have hgl := zt (f := cI) (d := []) hil
    have htk := ztI (s := a) hil
    obtain ⟨g1, g2, g3⟩ := hok i
    generalize delL a (ds.take i) = b at g1 g2 g3 htk ⊢
    obtain ⟨c, ps⟩ := b
    by_cases hm : ds[i] ∈ ps.map (·.1)
    · obtain ⟨j, hj, hje, hf⟩ := zix hm
      have e1 : del1 (c, ps) ds[i] = (c, ps.eraseIdx j) := by unfold del1; rw [zjJ g1.keys hj hje]
      rw [e1] at htk
      (repeat first | simp (disch := try exact dis1) only [evD, Nat.reduceBEq, Nat.reduceAdd, Nat.reduceLeDiff, dT, hgl, za, zh, evM, zoc, hf, mdTo, zsV] | with_reducible intro _ | ((with_reducible apply And.intro); omega))
      exact ⟨i + 1, by omega, by omega, (Ent.tabB [(0, 0, 0)] [] rfl rfl rfl (by (try simp only [evWB, Nat.reduceBEq, Nat.reduceAdd, Nat.reduceSub, Nat.reduceLeDiff, Nat.reduceLT, implies_true, zh, za, htk, St.cells]) <;> exact fin6) (by (try simp only [evWB, Nat.reduceBEq, Nat.reduceAdd, Nat.reduceSub, Nat.reduceLeDiff, Nat.reduceLT, implies_true, zh, za, htk, St.cells]) <;> exact fin6))⟩
    · have hf := zhv hm
      have e1 : del1 (c, ps) ds[i] = (c, ps) := zoN hm
      rw [e1] at htk
      (repeat first | simp (disch := try exact dis1) only [evD, Nat.reduceBEq, Nat.reduceAdd, Nat.reduceLeDiff, dT, hgl, za, zh, evM, zoc, hf, mdTo] | with_reducible intro _ | ((with_reducible apply And.intro); omega))
      exact ⟨i + 1, by omega, by omega, (Ent.tabB [(0, 0, 0)] [] rfl rfl rfl (by (try simp only [evWB, Nat.reduceBEq, Nat.reduceAdd, Nat.reduceSub, Nat.reduceLeDiff, Nat.reduceLT, implies_true, zh, za, htk, St.cells]) <;> exact fin6) (by (try simp only [evWB, Nat.reduceBEq, Nat.reduceAdd, Nat.reduceSub, Nat.reduceLeDiff, Nat.reduceLT, implies_true, zh, za, htk, St.cells]) <;> exact fin6))⟩
  · obtain ⟨g1, g2, g3⟩ := hok i
    rw [List.take_of_length_le (by omega)] at g1 g2 g3 ⊢
    generalize delL a ds = b at g1 g2 g3 ⊢
    (repeat first | simp (disch := try exact dis1) only [evD, Nat.reduceBEq, Nat.reduceAdd, Nat.reduceLeDiff, dF] | with_reducible intro _ | ((with_reducible apply And.intro); omega))
    unfold zeM
    (repeat first | simp (disch := try exact dis1) only [evD, Nat.reduceBEq, Nat.reduceAdd, Nat.reduceLeDiff, encP, za, St.cells] | with_reducible intro _ | ((with_reducible apply And.intro); omega))
    refine zn (zo huse rfl) ?_
    (repeat first | simp (disch := try exact dis1) only [evD, Nat.reduceBEq, Nat.reduceAdd, Nat.reduceLeDiff, zh] | with_reducible intro _ | ((with_reducible apply And.intro); omega))
    refine zL [(0, 0, 0)] 1 _ (zfz b us g1 (by omega) (by omega)) rfl rfl (by (try simp only [evWB, Nat.reduceBEq, Nat.reduceAdd, Nat.reduceSub, Nat.reduceLeDiff, Nat.reduceLT, implies_true, zh]) <;> exact fin6) (by (try simp only [evWB, Nat.reduceBEq, Nat.reduceAdd, Nat.reduceSub, Nat.reduceLeDiff, Nat.reduceLT, implies_true, zh]) <;> exact fin6) ?_
    rintro _ _ _ ⟨rfl, rfl, rfl⟩
    have hb1 := zcF (l := us) (s := b)
    have hb2 := zih (l := us) g1 (by omega) (by omega)
    generalize addL b us = d at hb1 hb2 ⊢
    (repeat first | simp (disch := try exact dis1) only [evD, Nat.reduceBEq, Nat.reduceAdd, Nat.reduceLeDiff, renM, encP, za, St.cells] | with_reducible intro _ | ((with_reducible apply And.intro); omega))
    refine zn (zo hlv rfl) ?_
    cases lv with
    | true =>
      rw [if_pos rfl]
      (repeat first | simp (disch := try exact dis1) only [evD, Nat.reduceBEq, Nat.reduceAdd, Nat.reduceLeDiff, zh] | with_reducible intro _ | ((with_reducible apply And.intro); omega))
      refine zL [(0, 0, 0)] 1 _ (zfz d exit hb2 (by omega) (by omega)) rfl rfl (by (try simp only [evWB, Nat.reduceBEq, Nat.reduceAdd, Nat.reduceSub, Nat.reduceLeDiff, Nat.reduceLT, implies_true, zh]) <;> exact fin6) (by (try simp only [evWB, Nat.reduceBEq, Nat.reduceAdd, Nat.reduceSub, Nat.reduceLeDiff, Nat.reduceLT, implies_true, zh]) <;> exact fin6) ?_
      rintro _ _ _ ⟨rfl, rfl, rfl⟩
      (repeat first | simp (disch := try exact dis1) only [evD, Nat.reduceBEq, Nat.reduceAdd, Nat.reduceLeDiff, renM, zdL] | with_reducible intro _ | ((with_reducible apply And.intro); omega))
      exact ⟨_, _, _, (Ent.tabB [(0, 0, 0)] [] rfl rfl rfl (by (try simp only [evWB, Nat.reduceBEq, Nat.reduceAdd, Nat.reduceSub, Nat.reduceLeDiff, Nat.reduceLT, implies_true, zh]) <;> exact fin6) (by (try simp only [evWB, Nat.reduceBEq, Nat.reduceAdd, Nat.reduceSub, Nat.reduceLeDiff, Nat.reduceLT, implies_true, zh]) <;> exact fin6)), rfl, rfl, rfl⟩
    | false =>
      rw [if_neg (by simp)]
      (repeat first | simp (disch := try exact dis1) only [evD, Nat.reduceBEq, Nat.reduceAdd, Nat.reduceLeDiff, zdL] | with_reducible intro _ | ((with_reducible apply And.intro); omega))
      exact ⟨_, _, _, (Ent.tabB [(0, 0, 0)] [] rfl rfl rfl (by (try simp only [evWB, Nat.reduceBEq, Nat.reduceAdd, Nat.reduceSub, Nat.reduceLeDiff, Nat.reduceLT, implies_true, zh]) <;> exact fin6) (by (try simp only [evWB, Nat.reduceBEq, Nat.reduceAdd, Nat.reduceSub, Nat.reduceLeDiff, Nat.reduceLT, implies_true, zh]) <;> exact fin6)), rfl, rfl, rfl⟩
def mps (F n : Nat) : List (List AV) := (List.range n).map fun i => [.mp F (i + 1)]
theorem zfp {F n : Nat} : (mps F n).length = n := by simp [mps]
theorem zdV {F n i : Nat} (h : i < n) : (mps F n).getD i [] = [.mp F (i + 1)] := by simp [mps, List.getD_eq_getElem?_getD, h]
def bdH (n : Nat) (S T : Nat → MS) : AH := [(0, .row 1 (mps 2 n) 0), (1, .row 1 (mps 3 n) 0), (2, famS n S), (3, famS n T)]
theorem zfZ {H HH : AH} {σ : Nat → Nat → Option (Nat × Nat × Nat)} {D : Nat → Nat → Prop} {F F' n : Nat} (h : ∀ i, σ F' (i + 1) = some (F, i + 1, 0)) : RowV H HH σ D (mps F n) (mps F' n) := by
  refine ⟨by simp [mps], fun i c2 hi => ?_⟩
  unfold mps at hi ⊢
  simp only [List.getElem?_map, Option.map_eq_some_iff] at hi ⊢
  obtain ⟨k, hk, rfl⟩ := hi
  refine ⟨_, ⟨k, hk, rfl⟩, rfl, fun j x y h1 h2 => ?_⟩
  cases j with
  | succ j => cases h1
  | zero =>
    cases h1
    cases h2
    exact .mp _ _ _ _ (h k)
def zaj (s : MS) : List Int := zbS s.keys
def addT (n : Nat) (S : Nat → MS) (a : MS) (t : Int) : MS := if 0 ≤ t ∧ t < n then addL a (zaj (S t.toNat)) else a
theorem bd_l1 {Q : QT} (n b : Nat) (hb : b < n) (S T : Nat → MS) (ts exit : List Int) (sts : List St) (ch : Bool)
    (hS : ∀ i, i < n → (S i).ok) (hT : (T b).ok) (hroom : ∀ i, i < ts.length → (((ts.take i).foldl (addT n S) (T b)).ok ∧ ∀ j, j < n → ((ts.take i).foldl (addT n S) (T b)).1 + (S j).2.length ≤ 1000000 ∧ ((ts.take i).foldl (addT n S) (T b)).2.length + (S j).2.length ≤ 1000000))
    (hlen : ts.length ≤ 1000000) (hn : n ≤ 1000000) (bl : List Bl) (ad : Int) (hbl : bl.length = n)
    (hfin : wpX Tryz.prog 0 z8 Q [(1, za exit), (2, encP 2 [.int .u32 ad, encL 2 Bl.cells bl]), (6, .own 0 0 0 0 n), (7, .own 1 0 0 0 n), (9, .bool ch), (10, .int .i64 b), (11, encL 8 St.cells sts), (62, za ts), (63, .int .i64 ts.length), (64, .int .i64 ts.length), (65, .bool false)] (bdH n S (updF T b (ts.foldl (addT n S) (T b)))) 4)
    {K : Kn} {H : AH} {nx : Nat} (hent : Ent 0 K H nx [(1, za exit), (2, encP 2 [.int .u32 ad, encL 2 Bl.cells bl]), (6, .own 0 0 0 0 n), (7, .own 1 0 0 0 n), (9, .bool ch), (10, .int .i64 b), (11, encL 8 St.cells sts), (62, za ts), (63, .int .i64 ts.length), (64, .int .i64 0)] (bdH n S T) 4) :
    zhD Tryz.prog 0 zbc (za3 6 (seqQ Tryz.prog 0 z8 Q)) K H nx := by
  have hB := hBig
  refine zm (fun i : Nat => ([(1, za exit), (2, encP 2 [.int .u32 ad, encL 2 Bl.cells bl]), (6, .own 0 0 0 0 n), (7, .own 1 0 0 0 n), (9, .bool ch), (10, .int .i64 b), (11, encL 8 St.cells sts), (62, za ts), (63, .int .i64 ts.length), (64, .int .i64 i)], bdH n S (updF T b ((ts.take i).foldl (addT n S) (T b))))) 4
    (fun i => i ≤ ts.length) (fun i => ts.length - i) 0 (Nat.zero_le _) (by rw [List.take_zero, List.foldl_nil, zos]; exact hent) ?_
  rintro i hi wf
  unfold zbc
  by_cases hil : i < ts.length
  · have hgl := zt (f := cI) (d := []) hil
    obtain ⟨r1, r2⟩ := hroom i hil
    have hst : (ts.take (i + 1)).foldl (addT n S) (T b) = addT n S ((ts.take i).foldl (addT n S) (T b)) ts[i] := zg2 hil
    generalize (ts.take i).foldl (addT n S) (T b) = a at r1 r2 hst ⊢
    generalize ts[i] = t at hgl hst
    by_cases hin : 0 ≤ t ∧ t < n
    · obtain ⟨t', rfl⟩ := Int.eq_ofNat_of_zero_le hin.1
      have ht : t' < n := by omega
      (repeat first | simp (disch := try exact dis1) only [evD, Nat.reduceBEq, Nat.reduceAdd, Nat.reduceLeDiff, dT, hgl, fldP, za, bdH, zfp, zdV ht, zdV hb] | with_reducible intro _ | ((with_reducible apply And.intro); omega))
      have hkl : (zaj (S t')).length = (S t').2.length := by unfold zaj MS.keys; rw [(zP _).length_eq, List.length_map]
      have hadd := addL a (zaj (S t'))
      have e1 : addT n S a (t' : Int) = addL a (zaj (S t')) := by unfold addT; rw [if_pos hin]; rfl
      rw [e1] at hst
      have hks : zbS ((S t').2.map (·.1)) = zaj (S t') := rfl
      have hT2 : updF T b a b = a := zgU
      have hsa := zlf n b hb (updF T b a) (zaj (S t')) (by rw [hT2]; exact r1) (by rw [hT2, hkl]; exact (r2 t' ht).1) (by rw [hT2, hkl]; exact (r2 t' ht).2)
      rw [hT2, zmf] at hsa
      (repeat' with_reducible apply And.intro)
      all_goals try omega
      all_goals (refine zL [(0, 2, 0)] 1 _ (zbN n t' ht S (hS t' ht)) rfl rfl (by (try simp only [evWB, Nat.reduceBEq, Nat.reduceAdd, Nat.reduceSub, Nat.reduceLeDiff, Nat.reduceLT, implies_true, famS]) <;> (repeat' with_reducible apply And.intro) <;> first | (refine zb zc (by decide) ⟨rfl, rfl⟩ ?_; (try simp only [evWB, Nat.reduceBEq, Nat.reduceAdd, Nat.reduceSub, Nat.reduceLeDiff, Nat.reduceLT, implies_true, famS]) <;> (repeat' with_reducible apply And.intro) <;> first | (refine zb zc (by decide) ⟨rfl, rfl⟩ ?_; (try simp only [evWB, Nat.reduceBEq, Nat.reduceAdd, Nat.reduceSub, Nat.reduceLeDiff, Nat.reduceLT, implies_true, famS]) <;> exact fin6; done) | exact fin6; done) | exact fin6) (by (try simp only [evWB, Nat.reduceBEq, Nat.reduceAdd, Nat.reduceSub, Nat.reduceLeDiff, Nat.reduceLT, implies_true, famS]) <;> (repeat' with_reducible apply And.intro) <;> first | (refine zb zc (by decide) ⟨rfl, rfl⟩ ?_; (try simp only [evWB, Nat.reduceBEq, Nat.reduceAdd, Nat.reduceSub, Nat.reduceLeDiff, Nat.reduceLT, implies_true, famS]) <;> (repeat' with_reducible apply And.intro) <;> first | (refine zb zc (by decide) ⟨rfl, rfl⟩ ?_; (try simp only [evWB, Nat.reduceBEq, Nat.reduceAdd, Nat.reduceSub, Nat.reduceLeDiff, Nat.reduceLT, implies_true, famS]) <;> exact fin6; done) | exact fin6; done) | exact fin6) ?_)
      all_goals (rintro _ _ _ ⟨rfl, rfl, rfl⟩; (repeat first | simp (disch := try exact dis1) only [evD, Nat.reduceBEq, Nat.reduceAdd, Nat.reduceLeDiff, renE, renF, hks, bdH, za, zfp, zdV ht, zdV hb] | with_reducible intro _ | ((with_reducible apply And.intro); omega)))
      all_goals (repeat' with_reducible apply And.intro)
      all_goals try omega
      all_goals (refine zL [(0, 3, 0)] 1 _ (hsa) rfl rfl (by (try simp only [evWB, Nat.reduceBEq, Nat.reduceAdd, Nat.reduceSub, Nat.reduceLeDiff, Nat.reduceLT, implies_true, famS]) <;> (repeat' with_reducible apply And.intro) <;> first | (refine zb zc (by decide) ⟨rfl, rfl⟩ ?_; (try simp only [evWB, Nat.reduceBEq, Nat.reduceAdd, Nat.reduceSub, Nat.reduceLeDiff, Nat.reduceLT, implies_true, famS]) <;> (repeat' with_reducible apply And.intro) <;> first | (refine zb zc (by decide) ⟨rfl, rfl⟩ ?_; (try simp only [evWB, Nat.reduceBEq, Nat.reduceAdd, Nat.reduceSub, Nat.reduceLeDiff, Nat.reduceLT, implies_true, famS]) <;> exact fin6; done) | exact fin6; done) | exact fin6) (by (try simp only [evWB, Nat.reduceBEq, Nat.reduceAdd, Nat.reduceSub, Nat.reduceLeDiff, Nat.reduceLT, implies_true, famS]) <;> (repeat' with_reducible apply And.intro) <;> first | (refine zb zc (by decide) ⟨rfl, rfl⟩ ?_; (try simp only [evWB, Nat.reduceBEq, Nat.reduceAdd, Nat.reduceSub, Nat.reduceLeDiff, Nat.reduceLT, implies_true, famS]) <;> (repeat' with_reducible apply And.intro) <;> first | (refine zb zc (by decide) ⟨rfl, rfl⟩ ?_; (try simp only [evWB, Nat.reduceBEq, Nat.reduceAdd, Nat.reduceSub, Nat.reduceLeDiff, Nat.reduceLT, implies_true, famS]) <;> exact fin6; done) | exact fin6; done) | exact fin6) ?_)
      all_goals (rintro _ _ _ ⟨rfl, rfl, rfl⟩; (repeat first | simp (disch := try exact dis1) only [evD, Nat.reduceBEq, Nat.reduceAdd, Nat.reduceLeDiff, renF, bdH, za] | with_reducible intro _ | ((with_reducible apply And.intro); omega)))
      all_goals exact ⟨i + 1, by omega, by omega, (Ent.tab [(0, 0, 0), (1, 1, 0), (2, 2, 0), (3, 3, 0)] [] rfl (by (try simp only [evWB, Nat.reduceBEq, Nat.reduceAdd, Nat.reduceSub, Nat.reduceLeDiff, Nat.reduceLT, implies_true, bdH, za, hst, famS]) <;> (repeat' with_reducible apply And.intro) <;> first | (refine zb zc (by decide) ⟨rfl, rfl⟩ ?_; (try simp only [evWB, Nat.reduceBEq, Nat.reduceAdd, Nat.reduceSub, Nat.reduceLeDiff, Nat.reduceLT, implies_true, bdH, za, hst, famS]) <;> (repeat' with_reducible apply And.intro) <;> first | (refine zb zc (by decide) ⟨rfl, rfl⟩ ?_; (try simp only [evWB, Nat.reduceBEq, Nat.reduceAdd, Nat.reduceSub, Nat.reduceLeDiff, Nat.reduceLT, implies_true, bdH, za, hst, famS]) <;> exact fin6; done) | exact fin6; done) | exact fin6) (by (try simp only [evWB, Nat.reduceBEq, Nat.reduceAdd, Nat.reduceSub, Nat.reduceLeDiff, Nat.reduceLT, implies_true, bdH, za, hst, famS]) <;> (repeat' with_reducible apply And.intro) <;> first | (refine zb zc (by decide) ⟨rfl, rfl⟩ ?_; (try simp only [evWB, Nat.reduceBEq, Nat.reduceAdd, Nat.reduceSub, Nat.reduceLeDiff, Nat.reduceLT, implies_true, bdH, za, hst, famS]) <;> (repeat' with_reducible apply And.intro) <;> first | (refine zb zc (by decide) ⟨rfl, rfl⟩ ?_; (try simp only [evWB, Nat.reduceBEq, Nat.reduceAdd, Nat.reduceSub, Nat.reduceLeDiff, Nat.reduceLT, implies_true, bdH, za, hst, famS]) <;> exact fin6; done) | exact fin6; done) | exact fin6))⟩
    · have e1 : addT n S a t = a := if_neg hin
      rw [e1] at hst
      by_cases h0 : 0 ≤ t
      · have h1 : ¬ t < bl.length := by omega
        (repeat first | simp (disch := try exact dis1) only [evD, Nat.reduceBEq, Nat.reduceAdd, Nat.reduceLeDiff, dT, dF, hgl, fldP, za, bdH] | with_reducible intro _ | ((with_reducible apply And.intro); omega))
        exact ⟨i + 1, by omega, by omega, (Ent.tab [(0, 0, 0), (1, 1, 0), (2, 2, 0), (3, 3, 0)] [] rfl (by (try simp only [evWB, Nat.reduceBEq, Nat.reduceAdd, Nat.reduceSub, Nat.reduceLeDiff, Nat.reduceLT, implies_true, bdH, za, hst, famS]) <;> (repeat' with_reducible apply And.intro) <;> first | (refine zb zc (by decide) ⟨rfl, rfl⟩ ?_; (try simp only [evWB, Nat.reduceBEq, Nat.reduceAdd, Nat.reduceSub, Nat.reduceLeDiff, Nat.reduceLT, implies_true, bdH, za, hst, famS]) <;> (repeat' with_reducible apply And.intro) <;> first | (refine zb zc (by decide) ⟨rfl, rfl⟩ ?_; (try simp only [evWB, Nat.reduceBEq, Nat.reduceAdd, Nat.reduceSub, Nat.reduceLeDiff, Nat.reduceLT, implies_true, bdH, za, hst, famS]) <;> exact fin6; done) | exact fin6; done) | exact fin6) (by (try simp only [evWB, Nat.reduceBEq, Nat.reduceAdd, Nat.reduceSub, Nat.reduceLeDiff, Nat.reduceLT, implies_true, bdH, za, hst, famS]) <;> (repeat' with_reducible apply And.intro) <;> first | (refine zb zc (by decide) ⟨rfl, rfl⟩ ?_; (try simp only [evWB, Nat.reduceBEq, Nat.reduceAdd, Nat.reduceSub, Nat.reduceLeDiff, Nat.reduceLT, implies_true, bdH, za, hst, famS]) <;> (repeat' with_reducible apply And.intro) <;> first | (refine zb zc (by decide) ⟨rfl, rfl⟩ ?_; (try simp only [evWB, Nat.reduceBEq, Nat.reduceAdd, Nat.reduceSub, Nat.reduceLeDiff, Nat.reduceLT, implies_true, bdH, za, hst, famS]) <;> exact fin6; done) | exact fin6; done) | exact fin6))⟩
      · (repeat first | simp (disch := try exact dis1) only [evD, Nat.reduceBEq, Nat.reduceAdd, Nat.reduceLeDiff, dT, dF, hgl, fldP, za, bdH] | with_reducible intro _ | ((with_reducible apply And.intro); omega))
        exact ⟨i + 1, by omega, by omega, (Ent.tab [(0, 0, 0), (1, 1, 0), (2, 2, 0), (3, 3, 0)] [] rfl (by (try simp only [evWB, Nat.reduceBEq, Nat.reduceAdd, Nat.reduceSub, Nat.reduceLeDiff, Nat.reduceLT, implies_true, bdH, za, hst, famS]) <;> (repeat' with_reducible apply And.intro) <;> first | (refine zb zc (by decide) ⟨rfl, rfl⟩ ?_; (try simp only [evWB, Nat.reduceBEq, Nat.reduceAdd, Nat.reduceSub, Nat.reduceLeDiff, Nat.reduceLT, implies_true, bdH, za, hst, famS]) <;> (repeat' with_reducible apply And.intro) <;> first | (refine zb zc (by decide) ⟨rfl, rfl⟩ ?_; (try simp only [evWB, Nat.reduceBEq, Nat.reduceAdd, Nat.reduceSub, Nat.reduceLeDiff, Nat.reduceLT, implies_true, bdH, za, hst, famS]) <;> exact fin6; done) | exact fin6; done) | exact fin6) (by (try simp only [evWB, Nat.reduceBEq, Nat.reduceAdd, Nat.reduceSub, Nat.reduceLeDiff, Nat.reduceLT, implies_true, bdH, za, hst, famS]) <;> (repeat' with_reducible apply And.intro) <;> first | (refine zb zc (by decide) ⟨rfl, rfl⟩ ?_; (try simp only [evWB, Nat.reduceBEq, Nat.reduceAdd, Nat.reduceSub, Nat.reduceLeDiff, Nat.reduceLT, implies_true, bdH, za, hst, famS]) <;> (repeat' with_reducible apply And.intro) <;> first | (refine zb zc (by decide) ⟨rfl, rfl⟩ ?_; (try simp only [evWB, Nat.reduceBEq, Nat.reduceAdd, Nat.reduceSub, Nat.reduceLeDiff, Nat.reduceLT, implies_true, bdH, za, hst, famS]) <;> exact fin6; done) | exact fin6; done) | exact fin6))⟩
  · obtain rfl : i = ts.length := by omega
    rw [List.take_length]
    (repeat first | simp (disch := try exact dis1) only [evD, Nat.reduceBEq, Nat.reduceAdd, Nat.reduceLeDiff, dF] | with_reducible intro _ | ((with_reducible apply And.intro); omega))
    exact hfin
def zdb (exit : List Int) (sts : List St) (i : Nat) (a : MS) : MS := (sts.drop i).foldr (zc2 exit) a
theorem zwR {exit : List Int} {sts : List St} {i : Nat} {a : MS} (h : i < sts.length) : zdb exit sts i a = zc2 exit sts[i] (zdb exit sts (i + 1) a) := by
  unfold zdb
  rw [List.drop_eq_getElem_cons h]
  rfl
theorem bd_l2 {Q : QT} (n b : Nat) (S T : Nat → MS) (exit : List Int) (sts : List St) (ch : Bool) (a : MS)
    (hroom : ∀ i (hi : i < sts.length), (zdb exit sts (i + 1) a).ok ∧ zw sts[i].e ≤ 100000 ∧ (zdb exit sts (i + 1) a).1 + zw sts[i].e + exit.length ≤ 1000000 ∧ (zdb exit sts (i + 1) a).2.length + zw sts[i].e + exit.length ≤ 1000000)
    (hlen : sts.length ≤ 1000000) (bl : List Bl) (ad : Int)
    (hfin : wpX Tryz.prog 0 zY Q [(1, za exit), (2, encP 2 [.int .u32 ad, encL 2 Bl.cells bl]), (6, .own 0 0 0 0 n), (7, .own 1 0 0 0 n), (9, .bool ch), (10, .int .i64 b), (11, encL 8 St.cells sts), (14, .mp 4 0), (15, .int .i64 (-1)), (100, .bool false)] (bdH n S T ++ [(4, .row 3 ((setM (zdb exit sts 0 a).1 (zdb exit sts 0 a).2).map cm) 0)]) 5)
    {K : Kn} {H : AH} {nx : Nat} (hent : Ent 0 K H nx [(1, za exit), (2, encP 2 [.int .u32 ad, encL 2 Bl.cells bl]), (6, .own 0 0 0 0 n), (7, .own 1 0 0 0 n), (9, .bool ch), (10, .int .i64 b), (11, encL 8 St.cells sts), (14, .mp 4 0), (15, .int .i64 ((sts.length : Int) - 1))] (bdH n S T ++ [(4, .row 3 ((setM a.1 a.2).map cm) 0)]) 5) :
    zhD Tryz.prog 0 zba (za3 8 (seqQ Tryz.prog 0 zY Q)) K H nx := by
  have hB := hBig
  have hz : zdb exit sts sts.length a = a := by unfold zdb; rw [List.drop_length]; rfl
  refine zm (fun i : Nat => ([(1, za exit), (2, encP 2 [.int .u32 ad, encL 2 Bl.cells bl]), (6, .own 0 0 0 0 n), (7, .own 1 0 0 0 n), (9, .bool ch), (10, .int .i64 b), (11, encL 8 St.cells sts), (14, .mp 4 0), (15, .int .i64 ((i : Int) - 1))], bdH n S T ++ [(4, .row 3 ((setM (zdb exit sts i a).1 (zdb exit sts i a).2).map cm) 0)])) 5
    (fun i => i ≤ sts.length) (fun i => i) sts.length (Nat.le_refl _) (by rw [hz]; exact hent) ?_
  rintro i hi wf
  unfold zba
  rcases Nat.eq_zero_or_pos i with rfl | hp
  · (repeat first | simp (disch := try exact dis1) only [evD, Nat.reduceBEq, Nat.reduceAdd, Nat.reduceLeDiff, dF, Int.natCast_zero, bdH, List.cons_append, List.nil_append] | with_reducible intro _ | ((with_reducible apply And.intro); omega))
    exact hfin
  · obtain ⟨i, rfl⟩ : ∃ k, i = k + 1 := ⟨i - 1, by omega⟩
    have hil : i < sts.length := by omega
    have hgl := zt (f := St.cells) (d := []) hil
    obtain ⟨r1, r2, r3, r4⟩ := hroom i hil
    have hat := zwR (exit := exit) (a := a) hil
    have ei : ((i + 1 : Nat) : Int) - 1 = i := by omega
    have hbk := zgj (zdb exit sts (i + 1) a) sts[i] exit r1 r2 r3 r4
    rw [← hat] at hbk
    generalize zdb exit sts (i + 1) a = c at r1 r3 r4 hbk ⊢
    (repeat first | simp (disch := try exact dis1) only [evD, Nat.reduceBEq, Nat.reduceAdd, Nat.reduceLeDiff, ei, dT, hgl, bdH, List.cons_append, List.nil_append] | with_reducible intro _ | ((with_reducible apply And.intro); omega))
    refine zL [(0, 4, 0)] 1 _ (hbk) rfl rfl (by (try simp only [evWB, Nat.reduceBEq, Nat.reduceAdd, Nat.reduceSub, Nat.reduceLeDiff, Nat.reduceLT, implies_true]) <;> (repeat' with_reducible apply And.intro) <;> first | (refine zb zc (by decide) ⟨rfl, rfl⟩ ?_; (try simp only [evWB, Nat.reduceBEq, Nat.reduceAdd, Nat.reduceSub, Nat.reduceLeDiff, Nat.reduceLT, implies_true]) <;> (repeat' with_reducible apply And.intro) <;> first | (refine zb zc (by decide) ⟨rfl, rfl⟩ ?_; (try simp only [evWB, Nat.reduceBEq, Nat.reduceAdd, Nat.reduceSub, Nat.reduceLeDiff, Nat.reduceLT, implies_true]) <;> exact fin6; done) | exact fin6; done) | exact fin6) (by (try simp only [evWB, Nat.reduceBEq, Nat.reduceAdd, Nat.reduceSub, Nat.reduceLeDiff, Nat.reduceLT, implies_true]) <;> (repeat' with_reducible apply And.intro) <;> first | (refine zb zc (by decide) ⟨rfl, rfl⟩ ?_; (try simp only [evWB, Nat.reduceBEq, Nat.reduceAdd, Nat.reduceSub, Nat.reduceLeDiff, Nat.reduceLT, implies_true]) <;> (repeat' with_reducible apply And.intro) <;> first | (refine zb zc (by decide) ⟨rfl, rfl⟩ ?_; (try simp only [evWB, Nat.reduceBEq, Nat.reduceAdd, Nat.reduceSub, Nat.reduceLeDiff, Nat.reduceLT, implies_true]) <;> exact fin6; done) | exact fin6; done) | exact fin6) ?_
    rintro _ _ _ ⟨rfl, rfl, rfl⟩
    (repeat first | simp (disch := try exact dis1) only [evD, Nat.reduceBEq, Nat.reduceAdd, Nat.reduceLeDiff, renM] | with_reducible intro _ | ((with_reducible apply And.intro); omega))
    exact ⟨i, by omega, by omega, (Ent.tab [(0, 0, 0), (1, 1, 0), (2, 2, 0), (3, 3, 0), (4, 4, 0)] [] rfl (by (try simp only [evWB, Nat.reduceBEq, Nat.reduceAdd, Nat.reduceSub, Nat.reduceLeDiff, Nat.reduceLT, implies_true, bdH, za, famS, List.cons_append, List.nil_append]) <;> (repeat' with_reducible apply And.intro) <;> first | (refine zb zc (by decide) ⟨rfl, rfl⟩ ?_; (try simp only [evWB, Nat.reduceBEq, Nat.reduceAdd, Nat.reduceSub, Nat.reduceLeDiff, Nat.reduceLT, implies_true, bdH, za, famS, List.cons_append, List.nil_append]) <;> (repeat' with_reducible apply And.intro) <;> first | (refine zb zc (by decide) ⟨rfl, rfl⟩ ?_; (try simp only [evWB, Nat.reduceBEq, Nat.reduceAdd, Nat.reduceSub, Nat.reduceLeDiff, Nat.reduceLT, implies_true, bdH, za, famS, List.cons_append, List.nil_append]) <;> exact fin6; done) | exact fin6; done) | exact fin6) (by (try simp only [evWB, Nat.reduceBEq, Nat.reduceAdd, Nat.reduceSub, Nat.reduceLeDiff, Nat.reduceLT, implies_true, bdH, za, famS, List.cons_append, List.nil_append]) <;> (repeat' with_reducible apply And.intro) <;> first | (refine zb zc (by decide) ⟨rfl, rfl⟩ ?_; (try simp only [evWB, Nat.reduceBEq, Nat.reduceAdd, Nat.reduceSub, Nat.reduceLeDiff, Nat.reduceLT, implies_true, bdH, za, famS, List.cons_append, List.nil_append]) <;> (repeat' with_reducible apply And.intro) <;> first | (refine zb zc (by decide) ⟨rfl, rfl⟩ ?_; (try simp only [evWB, Nat.reduceBEq, Nat.reduceAdd, Nat.reduceSub, Nat.reduceLeDiff, Nat.reduceLT, implies_true, bdH, za, famS, List.cons_append, List.nil_append]) <;> exact fin6; done) | exact fin6; done) | exact fin6))⟩
theorem bd_k3 {Q : QT} (n b : Nat) (hb : b < n) (hn : n ≤ 1000000) (S T : Nat → MS) (exit : List Int) (sts : List St) (ch : Bool) (a : MS) (z : Int) (y : Bool)
    (ha : a.ok) (hS : (S b).ok) (h1 : (S b).1 + a.2.length ≤ 1000000) (h2 : (S b).2.length + a.2.length ≤ 1000000) (bl : List Bl) (ad : Int)
    (hfin : ∀ K H nx, Ent 0 K H nx [(1, za exit), (2, encP 2 [.int .u32 ad, encL 2 Bl.cells bl]), (6, .own 0 0 0 0 n), (7, .own 1 0 0 0 n), (9, .bool (ch || decide ((S b).2.length < (addL (S b) (zaj a)).2.length))), (10, .int .i64 ((b : Int) - 1))] (bdH n (updF S b (addL (S b) (zaj a))) T) 4 → Q .normal K H nx) :
    wpX Tryz.prog 0 zY (za3 5 (seqQ Tryz.prog 0 zM Q)) [(1, za exit), (2, encP 2 [.int .u32 ad, encL 2 Bl.cells bl]), (6, .own 0 0 0 0 n), (7, .own 1 0 0 0 n), (9, .bool ch), (10, .int .i64 b), (11, encL 8 St.cells sts), (14, .mp 4 0), (15, .int .i64 z), (100, .bool y)] (bdH n S T ++ [(4, .row 3 ((setM a.1 a.2).map cm) 0)]) 5 := by
  have hB := hBig
  unfold zY
  have hks : zbS (a.2.map (·.1)) = zaj a := rfl
  have hkl : (zaj a).length = a.2.length := by unfold zaj MS.keys; rw [(zP _).length_eq, List.length_map]
  have hsa := zlf n b hb S (zaj a) hS (by rw [hkl]; exact h1) (by rw [hkl]; exact h2)
  (repeat first | simp (disch := try exact dis1) only [evD, Nat.reduceBEq, Nat.reduceAdd, Nat.reduceLeDiff, bdH, za, zfp, zdV hb, List.cons_append, List.nil_append] | with_reducible intro _ | ((with_reducible apply And.intro); omega))
  (repeat' with_reducible apply And.intro)
  all_goals try omega
  all_goals (refine zL [(0, 4, 0)] 1 _ (zkr a.1 a.2 ha) rfl rfl (by (try simp only [evWB, Nat.reduceBEq, Nat.reduceAdd, Nat.reduceSub, Nat.reduceLeDiff, Nat.reduceLT, implies_true]) <;> (repeat' with_reducible apply And.intro) <;> first | (refine zb zc (by decide) ⟨rfl, rfl⟩ ?_; (try simp only [evWB, Nat.reduceBEq, Nat.reduceAdd, Nat.reduceSub, Nat.reduceLeDiff, Nat.reduceLT, implies_true]) <;> (repeat' with_reducible apply And.intro) <;> first | (refine zb zc (by decide) ⟨rfl, rfl⟩ ?_; (try simp only [evWB, Nat.reduceBEq, Nat.reduceAdd, Nat.reduceSub, Nat.reduceLeDiff, Nat.reduceLT, implies_true]) <;> exact fin6; done) | exact fin6; done) | exact fin6) (by (try simp only [evWB, Nat.reduceBEq, Nat.reduceAdd, Nat.reduceSub, Nat.reduceLeDiff, Nat.reduceLT, implies_true]) <;> (repeat' with_reducible apply And.intro) <;> first | (refine zb zc (by decide) ⟨rfl, rfl⟩ ?_; (try simp only [evWB, Nat.reduceBEq, Nat.reduceAdd, Nat.reduceSub, Nat.reduceLeDiff, Nat.reduceLT, implies_true]) <;> (repeat' with_reducible apply And.intro) <;> first | (refine zb zc (by decide) ⟨rfl, rfl⟩ ?_; (try simp only [evWB, Nat.reduceBEq, Nat.reduceAdd, Nat.reduceSub, Nat.reduceLeDiff, Nat.reduceLT, implies_true]) <;> exact fin6; done) | exact fin6; done) | exact fin6) ?_)
  all_goals (rintro _ _ _ ⟨rfl, rfl, rfl⟩; (repeat first | simp (disch := try exact dis1) only [evD, Nat.reduceBEq, Nat.reduceAdd, Nat.reduceLeDiff, renE, renM, hks, za, zfp, zdV hb] | with_reducible intro _ | ((with_reducible apply And.intro); omega)))
  all_goals (repeat' with_reducible apply And.intro)
  all_goals try omega
  all_goals (refine zL [(0, 2, 0)] 1 _ (hsa) rfl rfl (by (try simp only [evWB, Nat.reduceBEq, Nat.reduceAdd, Nat.reduceSub, Nat.reduceLeDiff, Nat.reduceLT, implies_true, famS]) <;> (repeat' with_reducible apply And.intro) <;> first | (refine zb zc (by decide) ⟨rfl, rfl⟩ ?_; (try simp only [evWB, Nat.reduceBEq, Nat.reduceAdd, Nat.reduceSub, Nat.reduceLeDiff, Nat.reduceLT, implies_true, famS]) <;> (repeat' with_reducible apply And.intro) <;> first | (refine zb zc (by decide) ⟨rfl, rfl⟩ ?_; (try simp only [evWB, Nat.reduceBEq, Nat.reduceAdd, Nat.reduceSub, Nat.reduceLeDiff, Nat.reduceLT, implies_true, famS]) <;> exact fin6; done) | exact fin6; done) | exact fin6) (by (try simp only [evWB, Nat.reduceBEq, Nat.reduceAdd, Nat.reduceSub, Nat.reduceLeDiff, Nat.reduceLT, implies_true, famS]) <;> (repeat' with_reducible apply And.intro) <;> first | (refine zb zc (by decide) ⟨rfl, rfl⟩ ?_; (try simp only [evWB, Nat.reduceBEq, Nat.reduceAdd, Nat.reduceSub, Nat.reduceLeDiff, Nat.reduceLT, implies_true, famS]) <;> (repeat' with_reducible apply And.intro) <;> first | (refine zb zc (by decide) ⟨rfl, rfl⟩ ?_; (try simp only [evWB, Nat.reduceBEq, Nat.reduceAdd, Nat.reduceSub, Nat.reduceLeDiff, Nat.reduceLT, implies_true, famS]) <;> exact fin6; done) | exact fin6; done) | exact fin6) ?_)
  all_goals (rintro _ _ _ ⟨rfl, rfl, rfl⟩; (repeat first | simp (disch := try exact dis1) only [evD, Nat.reduceBEq, Nat.reduceAdd, Nat.reduceLeDiff, renF, za] | with_reducible intro _ | ((with_reducible apply And.intro); omega)))
  all_goals (by_cases hg : (S b).2.length < (addL (S b) (zaj a)).2.length)
  all_goals first
    | ((repeat first | simp (disch := try exact dis1) only [evD, Nat.reduceBEq, Nat.reduceAdd, Nat.reduceLeDiff, dT hg] | with_reducible intro _ | ((with_reducible apply And.intro); omega)); unfold zM; (repeat first | simp (disch := try exact dis1) only [evD, Nat.reduceBEq, Nat.reduceAdd, Nat.reduceLeDiff, zqS] | with_reducible intro _ | ((with_reducible apply And.intro); omega)); refine hfin _ _ _ ?_; rw [decide_eq_true hg, Bool.or_true]; exact (Ent.tab [(0, 0, 0), (1, 1, 0), (2, 2, 0), (3, 3, 0)] [] rfl (by (try simp only [evWB, Nat.reduceBEq, Nat.reduceAdd, Nat.reduceSub, Nat.reduceLeDiff, Nat.reduceLT, implies_true, bdH, za, famS]) <;> (repeat' with_reducible apply And.intro) <;> first | (refine zb zc (by decide) ⟨rfl, rfl⟩ ?_; (try simp only [evWB, Nat.reduceBEq, Nat.reduceAdd, Nat.reduceSub, Nat.reduceLeDiff, Nat.reduceLT, implies_true, bdH, za, famS]) <;> (repeat' with_reducible apply And.intro) <;> first | (refine zb zc (by decide) ⟨rfl, rfl⟩ ?_; (try simp only [evWB, Nat.reduceBEq, Nat.reduceAdd, Nat.reduceSub, Nat.reduceLeDiff, Nat.reduceLT, implies_true, bdH, za, famS]) <;> exact fin6; done) | exact fin6; done) | exact fin6) (by (try simp only [evWB, Nat.reduceBEq, Nat.reduceAdd, Nat.reduceSub, Nat.reduceLeDiff, Nat.reduceLT, implies_true, bdH, za, famS]) <;> (repeat' with_reducible apply And.intro) <;> first | (refine zb zc (by decide) ⟨rfl, rfl⟩ ?_; (try simp only [evWB, Nat.reduceBEq, Nat.reduceAdd, Nat.reduceSub, Nat.reduceLeDiff, Nat.reduceLT, implies_true, bdH, za, famS]) <;> (repeat' with_reducible apply And.intro) <;> first | (refine zb zc (by decide) ⟨rfl, rfl⟩ ?_; (try simp only [evWB, Nat.reduceBEq, Nat.reduceAdd, Nat.reduceSub, Nat.reduceLeDiff, Nat.reduceLT, implies_true, bdH, za, famS]) <;> exact fin6; done) | exact fin6; done) | exact fin6)))
    | ((repeat first | simp (disch := try exact dis1) only [evD, Nat.reduceBEq, Nat.reduceAdd, Nat.reduceLeDiff, dF hg] | with_reducible intro _ | ((with_reducible apply And.intro); omega)); unfold zM; (repeat first | simp (disch := try exact dis1) only [evD, Nat.reduceBEq, Nat.reduceAdd, Nat.reduceLeDiff, zqS] | with_reducible intro _ | ((with_reducible apply And.intro); omega)); refine hfin _ _ _ ?_; rw [decide_eq_false hg, Bool.or_false]; exact (Ent.tab [(0, 0, 0), (1, 1, 0), (2, 2, 0), (3, 3, 0)] [] rfl (by (try simp only [evWB, Nat.reduceBEq, Nat.reduceAdd, Nat.reduceSub, Nat.reduceLeDiff, Nat.reduceLT, implies_true, bdH, za, famS]) <;> (repeat' with_reducible apply And.intro) <;> first | (refine zb zc (by decide) ⟨rfl, rfl⟩ ?_; (try simp only [evWB, Nat.reduceBEq, Nat.reduceAdd, Nat.reduceSub, Nat.reduceLeDiff, Nat.reduceLT, implies_true, bdH, za, famS]) <;> (repeat' with_reducible apply And.intro) <;> first | (refine zb zc (by decide) ⟨rfl, rfl⟩ ?_; (try simp only [evWB, Nat.reduceBEq, Nat.reduceAdd, Nat.reduceSub, Nat.reduceLeDiff, Nat.reduceLT, implies_true, bdH, za, famS]) <;> exact fin6; done) | exact fin6; done) | exact fin6) (by (try simp only [evWB, Nat.reduceBEq, Nat.reduceAdd, Nat.reduceSub, Nat.reduceLeDiff, Nat.reduceLT, implies_true, bdH, za, famS]) <;> (repeat' with_reducible apply And.intro) <;> first | (refine zb zc (by decide) ⟨rfl, rfl⟩ ?_; (try simp only [evWB, Nat.reduceBEq, Nat.reduceAdd, Nat.reduceSub, Nat.reduceLeDiff, Nat.reduceLT, implies_true, bdH, za, famS]) <;> (repeat' with_reducible apply And.intro) <;> first | (refine zb zc (by decide) ⟨rfl, rfl⟩ ?_; (try simp only [evWB, Nat.reduceBEq, Nat.reduceAdd, Nat.reduceSub, Nat.reduceLeDiff, Nat.reduceLT, implies_true, bdH, za, famS]) <;> exact fin6; done) | exact fin6; done) | exact fin6)))
def zf8 (exit : List Int) (sts : List St) (t : MS) : MS := zdb exit sts 0 (addL (0, []) (zaj t))
theorem bd_k4 {Q : QT} (n b : Nat) (hb : b < n) (hn : n ≤ 1000000) (S T : Nat → MS) (exit ts : List Int) (sts : List St) (ch : Bool)
    (hT : (T b).ok) (hroom : ∀ i (hi : i < sts.length), (zdb exit sts (i + 1) (addL (0, []) (zaj (T b)))).ok ∧ zw sts[i].e ≤ 100000 ∧ (zdb exit sts (i + 1) (addL (0, []) (zaj (T b)))).1 + zw sts[i].e + exit.length ≤ 1000000 ∧ (zdb exit sts (i + 1) (addL (0, []) (zaj (T b)))).2.length + zw sts[i].e + exit.length ≤ 1000000)
    (hlen : sts.length ≤ 1000000) (ha : (zf8 exit sts (T b)).ok) (hS : (S b).ok) (h1 : (S b).1 + (zf8 exit sts (T b)).2.length ≤ 1000000) (h2 : (S b).2.length + (zf8 exit sts (T b)).2.length ≤ 1000000) (bl : List Bl) (ad : Int)
    (hfin : ∀ K H nx, Ent 0 K H nx [(1, za exit), (2, encP 2 [.int .u32 ad, encL 2 Bl.cells bl]), (6, .own 0 0 0 0 n), (7, .own 1 0 0 0 n), (9, .bool (ch || decide ((S b).2.length < (addL (S b) (zaj (zf8 exit sts (T b)))).2.length))), (10, .int .i64 ((b : Int) - 1))] (bdH n (updF S b (addL (S b) (zaj (zf8 exit sts (T b))))) T) 4 → Q .normal K H nx) :
    wpX Tryz.prog 0 z8 (za3 5 (seqQ Tryz.prog 0 zM Q)) [(1, za exit), (2, encP 2 [.int .u32 ad, encL 2 Bl.cells bl]), (6, .own 0 0 0 0 n), (7, .own 1 0 0 0 n), (9, .bool ch), (10, .int .i64 b), (11, encL 8 St.cells sts), (62, za ts), (63, .int .i64 ts.length), (64, .int .i64 ts.length), (65, .bool false)] (bdH n S T) 4 := by
  have hB := hBig
  unfold z8
  have hks : zbS ((T b).2.map (·.1)) = zaj (T b) := rfl
  have hkl : (zaj (T b)).length = (T b).2.length := by unfold zaj MS.keys; rw [(zP _).length_eq, List.length_map]
  have htop := hT.len
  have hsa : zS Tryz.prog zr [.mp 0 0, za (zaj (T b))] [(0, .row 3 [[.int .i64 0, .undef, .undef]] 0)] 1
      (fun v H nx => v = .bool (decide (([] : List (Int × Int)).length < (addL (0, []) (zaj (T b))).2.length)) ∧ H = [(0, .row 3 ((setM (addL (0, []) (zaj (T b))).1 (addL (0, []) (zaj (T b))).2).map cm) 0)] ∧ nx = 1) :=
    zfz (0, []) (zaj (T b)) zli (by rw [hkl]; simp only; omega) (by rw [hkl]; simp only [List.length_nil]; omega)
  (repeat first | simp (disch := try exact dis1) only [evD, Nat.reduceBEq, Nat.reduceAdd, Nat.reduceLeDiff, bdH, za, zfp, zdV hb] | with_reducible intro _ | ((with_reducible apply And.intro); omega))
  refine zL [(0, 3, 0)] 1 _ (zbN n b hb T hT) rfl rfl (by (try simp only [evWB, Nat.reduceBEq, Nat.reduceAdd, Nat.reduceSub, Nat.reduceLeDiff, Nat.reduceLT, implies_true, famS]) <;> (repeat' with_reducible apply And.intro) <;> first | (refine zb zc (by decide) ⟨rfl, rfl⟩ ?_; (try simp only [evWB, Nat.reduceBEq, Nat.reduceAdd, Nat.reduceSub, Nat.reduceLeDiff, Nat.reduceLT, implies_true, famS]) <;> (repeat' with_reducible apply And.intro) <;> first | (refine zb zc (by decide) ⟨rfl, rfl⟩ ?_; (try simp only [evWB, Nat.reduceBEq, Nat.reduceAdd, Nat.reduceSub, Nat.reduceLeDiff, Nat.reduceLT, implies_true, famS]) <;> exact fin6; done) | exact fin6; done) | exact fin6) (by (try simp only [evWB, Nat.reduceBEq, Nat.reduceAdd, Nat.reduceSub, Nat.reduceLeDiff, Nat.reduceLT, implies_true, famS]) <;> (repeat' with_reducible apply And.intro) <;> first | (refine zb zc (by decide) ⟨rfl, rfl⟩ ?_; (try simp only [evWB, Nat.reduceBEq, Nat.reduceAdd, Nat.reduceSub, Nat.reduceLeDiff, Nat.reduceLT, implies_true, famS]) <;> (repeat' with_reducible apply And.intro) <;> first | (refine zb zc (by decide) ⟨rfl, rfl⟩ ?_; (try simp only [evWB, Nat.reduceBEq, Nat.reduceAdd, Nat.reduceSub, Nat.reduceLeDiff, Nat.reduceLT, implies_true, famS]) <;> exact fin6; done) | exact fin6; done) | exact fin6) ?_
  rintro _ _ _ ⟨rfl, rfl, rfl⟩
  (repeat first | simp (disch := try exact dis1) only [evD, Nat.reduceBEq, Nat.reduceAdd, Nat.reduceLeDiff, renE, renF, hks, za] | with_reducible intro _ | ((with_reducible apply And.intro); omega))
  refine zL [(0, 4, 0)] 1 _ (hsa) rfl rfl (by (try simp only [evWB, Nat.reduceBEq, Nat.reduceAdd, Nat.reduceSub, Nat.reduceLeDiff, Nat.reduceLT, implies_true]) <;> (repeat' with_reducible apply And.intro) <;> first | (refine zb zc (by decide) ⟨rfl, rfl⟩ ?_; (try simp only [evWB, Nat.reduceBEq, Nat.reduceAdd, Nat.reduceSub, Nat.reduceLeDiff, Nat.reduceLT, implies_true]) <;> (repeat' with_reducible apply And.intro) <;> first | (refine zb zc (by decide) ⟨rfl, rfl⟩ ?_; (try simp only [evWB, Nat.reduceBEq, Nat.reduceAdd, Nat.reduceSub, Nat.reduceLeDiff, Nat.reduceLT, implies_true]) <;> exact fin6; done) | exact fin6; done) | exact fin6) (by (try simp only [evWB, Nat.reduceBEq, Nat.reduceAdd, Nat.reduceSub, Nat.reduceLeDiff, Nat.reduceLT, implies_true]) <;> (repeat' with_reducible apply And.intro) <;> first | (refine zb zc (by decide) ⟨rfl, rfl⟩ ?_; (try simp only [evWB, Nat.reduceBEq, Nat.reduceAdd, Nat.reduceSub, Nat.reduceLeDiff, Nat.reduceLT, implies_true]) <;> (repeat' with_reducible apply And.intro) <;> first | (refine zb zc (by decide) ⟨rfl, rfl⟩ ?_; (try simp only [evWB, Nat.reduceBEq, Nat.reduceAdd, Nat.reduceSub, Nat.reduceLeDiff, Nat.reduceLT, implies_true]) <;> exact fin6; done) | exact fin6; done) | exact fin6) ?_
  rintro _ _ _ ⟨rfl, rfl, rfl⟩
  (repeat first | simp (disch := try exact dis1) only [evD, Nat.reduceBEq, Nat.reduceAdd, Nat.reduceLeDiff, renM, za] | with_reducible intro _ | ((with_reducible apply And.intro); omega))
  refine bd_l2 n b S T exit sts ch (addL (0, []) (zaj (T b))) hroom hlen bl ad (bd_k3 n b hb hn S T exit sts ch (zf8 exit sts (T b)) (-1) false ha hS h1 h2 bl ad hfin) ?_
  exact (Ent.tab [(0, 0, 0), (1, 1, 0), (2, 2, 0), (3, 3, 0), (4, 4, 0)] [] rfl (by (try simp only [evWB, Nat.reduceBEq, Nat.reduceAdd, Nat.reduceSub, Nat.reduceLeDiff, Nat.reduceLT, implies_true, bdH, za, famS, zh, List.cons_append, List.nil_append]) <;> (repeat' with_reducible apply And.intro) <;> first | (refine zb zc (by decide) ⟨rfl, rfl⟩ ?_; (try simp only [evWB, Nat.reduceBEq, Nat.reduceAdd, Nat.reduceSub, Nat.reduceLeDiff, Nat.reduceLT, implies_true, bdH, za, famS, zh, List.cons_append, List.nil_append]) <;> (repeat' with_reducible apply And.intro) <;> first | (refine zb zc (by decide) ⟨rfl, rfl⟩ ?_; (try simp only [evWB, Nat.reduceBEq, Nat.reduceAdd, Nat.reduceSub, Nat.reduceLeDiff, Nat.reduceLT, implies_true, bdH, za, famS, zh, List.cons_append, List.nil_append]) <;> exact fin6; done) | exact fin6; done) | exact fin6) (by (try simp only [evWB, Nat.reduceBEq, Nat.reduceAdd, Nat.reduceSub, Nat.reduceLeDiff, Nat.reduceLT, implies_true, bdH, za, famS, zh, List.cons_append, List.nil_append]) <;> (repeat' with_reducible apply And.intro) <;> first | (refine zb zc (by decide) ⟨rfl, rfl⟩ ?_; (try simp only [evWB, Nat.reduceBEq, Nat.reduceAdd, Nat.reduceSub, Nat.reduceLeDiff, Nat.reduceLT, implies_true, bdH, za, famS, zh, List.cons_append, List.nil_append]) <;> (repeat' with_reducible apply And.intro) <;> first | (refine zb zc (by decide) ⟨rfl, rfl⟩ ?_; (try simp only [evWB, Nat.reduceBEq, Nat.reduceAdd, Nat.reduceSub, Nat.reduceLeDiff, Nat.reduceLT, implies_true, bdH, za, famS, zh, List.cons_append, List.nil_append]) <;> exact fin6; done) | exact fin6; done) | exact fin6))
structure SetU (U : List Int) (s : MS) : Prop where
  ok : s.ok
  clock : s.1 = s.2.length
  sub : ∀ x ∈ s.keys, x ∈ U
theorem SetU.len {U : List Int} {s : MS} (h : SetU U s) : s.2.length ≤ U.length := by
  have := List.Nodup.length_le_of_subset h.ok.keys (show ∀ a ∈ s.2.map (·.1), a ∈ U from h.sub)
  rwa [List.length_map] at this
theorem SetU.none {U : List Int} : SetU U (0, []) := ⟨zli, rfl, fun x h => by simp [MS.keys] at h⟩
theorem zsI {s : MS} {v : Int} (h : s.1 = s.2.length) : (add1 s v).1 = (add1 s v).2.length := by
  unfold add1
  split
  · exact h
  · simp [h]
theorem zmk : ∀ {l : List Int} {s : MS}, s.1 = s.2.length → (addL s l).1 = (addL s l).2.length
  | [], _, h => h
  | v :: l, s, h => by
    show (addL (add1 s v) l).1 = _
    exact zmk (l := l) (zsI h)
theorem SetU.add {U : List Int} {s : MS} {l : List Int} (h : SetU U s) (hl : ∀ x ∈ l, x ∈ U) (hU : U.length + l.length ≤ 1000000) : SetU U (addL s l) := by
  have h1 := h.len
  have h2 := h.clock
  refine ⟨zih h.ok (by omega) (by omega), zmk h.clock, fun x hx => ?_⟩
  rcases zds.1 hx with h3 | h3
  · exact h.sub x h3
  · exact hl x h3
theorem zg9 {s : MS} {x : Int} : x ∈ zaj s ↔ x ∈ s.keys := (zP _).mem_iff
theorem zg5 {s : MS} : (zaj s).length = s.2.length := by unfold zaj MS.keys; rw [(zP _).length_eq, List.length_map]
def zaJ (k : Nat) : List St → Nat
  | [] => 0
  | s :: l => zw s.e + k + zaJ k l
theorem zmN {k : Nat} {l : List St} {i : Nat} (h : i < l.length) : zaJ k (l.drop i) = zw l[i].e + k + zaJ k (l.drop (i + 1)) := by
  rw [List.drop_eq_getElem_cons h]
  rfl
theorem zmY {exit : List Int} : ∀ {l : List St} {a : MS}, a.ok → a.1 + zaJ exit.length l ≤ 1000000 → a.2.length + zaJ exit.length l ≤ 1000000 →
    (l.foldr (zc2 exit) a).ok ∧ (l.foldr (zc2 exit) a).1 ≤ a.1 + zaJ exit.length l ∧ (l.foldr (zc2 exit) a).2.length ≤ a.2.length + zaJ exit.length l
  | [], a, h, _, _ => ⟨h, by show a.1 ≤ a.1 + (0 : Nat); omega, Nat.le_refl _⟩
  | s :: l, a, h, h1, h2 => by
    have e : zaJ exit.length (s :: l) = zw s.e + exit.length + zaJ exit.length l := rfl
    rw [e] at h1 h2 ⊢
    obtain ⟨i1, i2, i3⟩ := zmY (exit := exit) (l := l) h (by omega) (by omega)
    obtain ⟨j1, j2, j3⟩ := zqP (exit := exit) (s := s) i1 (by omega) (by omega)
    exact ⟨j1, by show (zc2 exit s (l.foldr (zc2 exit) a)).1 ≤ _; omega, by show (zc2 exit s (l.foldr (zc2 exit) a)).2.length ≤ _; omega⟩
theorem zoS {exit : List Int} {a : MS} {m : List Int} (h : ∀ x, x ∈ a.keys ↔ x ∈ m) : ∀ (l : List St) (x : Int), x ∈ (l.foldr (zc2 exit) a).keys ↔ x ∈ zcZ exit l m
  | [], x => h x
  | s :: l, x => zlH (fun y => zoS h l y) x
abbrev BS := (Nat → MS) × (Nat → MS) × Bool
def outM (n : Nat) (sts : List St) (p : BS) (b : Nat) : Nat → MS := updF p.2.1 b ((zz sts).foldl (addT n p.1) (p.2.1 b))
def stM (exit : List Int) (bl : List Bl) (p : BS) (b : Nat) : BS :=
  let sts := (bl.map (·.stmts)).getD b []
  if sts.length = 0 then p else
  let a := zf8 exit sts (outM bl.length sts p b b)
  (updF p.1 b (addL (p.1 b) (zaj a)), outM bl.length sts p b, p.2.2 || decide ((p.1 b).2.length < (addL (p.1 b) (zaj a)).2.length))
def ziD (exit : List Int) (bl : List Bl) : Nat → BS → BS
  | 0, p => p
  | k + 1, p => ziD exit bl k (stM exit bl p k)
def zhf : List St → Int
  | [] => 0
  | s :: l => if s.check ≠ 0 then s.check else zhf l
def zj1 : List Bl → Int
  | [] => 0
  | b :: l => if zhf b.stmts ≠ 0 then zhf b.stmts else zj1 l
def zA (l : List Bl) : Nat := (l.map fun b => b.stmts.length).sum
theorem zp1 {l : List Bl} {i : Nat} (h : i < l.length) : zA (l.take (i + 1)) = zA (l.take i) + l[i].stmts.length := by
  unfold zA
  rw [List.take_add_one, List.getElem?_eq_getElem h, List.map_append, List.sum_append]
  simp
def zxo (g : G) : Int := if (!g.blocks.isEmpty && g.blocks.all fun b => zid b.stmts g.blocks.length) = true then zj1 g.blocks else 18
theorem zpS {l : List St} {i : Nat} (h : i < l.length) : zhf (l.drop i) = if l[i].check ≠ 0 then l[i].check else zhf (l.drop (i + 1)) := by
  rw [List.drop_eq_getElem_cons h, zhf]
theorem zqn {l : List Bl} {i : Nat} (h : i < l.length) : zj1 (l.drop i) = if zhf l[i].stmts ≠ 0 then zhf l[i].stmts else zj1 (l.drop (i + 1)) := by
  rw [List.drop_eq_getElem_cons h, zj1]
def zmo (g : G) : Int := if 256 < g.blocks.length ∨ 1024 < zA g.blocks then 6 else zxo g
structure fewB (g : G) : Prop where
  blocks : g.blocks.length ≤ 300
  stmts : ∀ b ∈ g.blocks, b.stmts.length ≤ 1100
structure PredT (fv : AV) (l : List St) (p : St → Bool) : Prop where
  ex : ∃ f caps, fv = .fn (.func f) caps ∧ zdY Tryz.prog f = true ∧ zE caps = true ∧ ∀ s ∈ l, zD Tryz.prog f ([.agg s.cells] ++ caps) (· = .bool (p s))
theorem zqF {fv : AV} {l : List St} {p : St → Bool} (hp : PredT fv l p) {s : St} (hs : s ∈ l) {H : AH} {nx : Nat} {k : AV → AH → Nat → Prop} (hk : k (.bool (p s)) H nx) : zk2 Tryz.prog fv [.agg s.cells] H nx k := by
  obtain ⟨f, caps, rfl, hg, hf, hx⟩ := hp.ex
  rw [zit]
  refine ⟨hg, zn (zo (hx s hs) ?_) hk⟩
  simp only [List.cons_append, List.nil_append, List.all_cons, Bool.and_eq_true]
  exact ⟨rfl, zfT hf⟩
theorem zre {fv : AV} {l : List St} {p : St → Bool} (hp : PredT fv l p) {H H2 : AH} {σ : Nat → Nat → Option (Nat × Nat × Nat)} {D : Nat → Nat → Prop} {t : Bool} : Vw H H2 σ D t fv fv := by
  obtain ⟨f, caps, rfl, hg, hf, hx⟩ := hp.ex
  refine .fn _ _ _ _ rfl fun i a b h1 h2 => ?_
  rw [h1] at h2
  cases h2
  exact zb2 (zaF hf h1)
theorem zhE (l : List St) (fv : AV) (p : St → Bool) (hp : PredT fv l p) : zD Tryz.prog zW [encL 8 St.cells l, fv] (· = .int .i64 (idxI (l.findIdx? p))) := by
  refine fn_x zca rfl ?_
  unfold zaI
  have hB := hBig
  (repeat first | simp (disch := try exact dis1) only [evD, Nat.reduceBEq, Nat.reduceAdd, Nat.reduceLeDiff] | with_reducible intro _ | ((with_reducible apply And.intro); omega))
  refine zm (fun i : Nat => ([(0, encL 8 St.cells l), (1, fv), (7, .int .i64 l.length), (8, .int .i64 i)], [])) 0 (fun i => i ≤ l.length ∧ ∀ j (h : j < l.length), j < i → p l[j] = false) (fun i => l.length - i) 0 ⟨Nat.zero_le _, fun j _ h => by omega⟩ (Ent.keep rfl fin5) ?_
  intro i ⟨hi, hno⟩ wf
  unfold zas
  (repeat first | simp (disch := try exact dis1) only [evD, Nat.reduceBEq, Nat.reduceAdd, Nat.reduceLeDiff] | with_reducible intro _ | ((with_reducible apply And.intro); omega))
  (refine zao (fun h => ?_) (fun h => ?_)) <;> (try simp only [dcd] at h)
  · have hi' : i < l.length := by omega
    (repeat first | simp (disch := try exact dis1) only [evD, Nat.reduceBEq, Nat.reduceAdd, Nat.reduceLeDiff, zt hi', St.len, St.eight] | with_reducible intro _ | ((with_reducible apply And.intro); omega))
    refine zqF hp (List.getElem_mem hi') ?_
    (repeat first | simp (disch := try exact dis1) only [evD, Nat.reduceBEq, Nat.reduceAdd, Nat.reduceLeDiff] | with_reducible intro _ | ((with_reducible apply And.intro); omega))
    (refine zao (fun h2 => ?_) (fun h2 => ?_)) <;> (try simp only [dcd] at h2)
    · (repeat first | simp (disch := try exact dis1) only [evD, Nat.reduceBEq, Nat.reduceAdd, Nat.reduceLeDiff, zU] | with_reducible intro _ | ((with_reducible apply And.intro); omega))
      have e : l.findIdx? p = some i := by
        rw [List.findIdx?_eq_some_iff_getElem]
        exact ⟨hi', h2, fun j hj => by rw [hno j (by omega) hj]; simp⟩
      rw [e]
      exact ⟨_, .int _ _ _, rfl⟩
    · (repeat first | simp (disch := try exact dis1) only [evD, Nat.reduceBEq, Nat.reduceAdd, Nat.reduceLeDiff] | with_reducible intro _ | ((with_reducible apply And.intro); omega))
      refine ⟨i + 1, ⟨by omega, fun j hj hji => ?_⟩, by omega, Ent.keep rfl fin5⟩
      by_cases hje : j = i
      · subst hje; simpa using h2
      · exact hno j hj (by omega)
  · unfold zaw
    (repeat first | simp (disch := try exact dis1) only [evD, Nat.reduceBEq, Nat.reduceAdd, Nat.reduceLeDiff, zU] | with_reducible intro _ | ((with_reducible apply And.intro); omega))
    have e : l.findIdx? p = none := by
      rw [List.findIdx?_eq_none_iff]
      intro x hx
      obtain ⟨j, hj, rfl⟩ := List.mem_iff_getElem.1 hx
      exact hno j hj (by omega)
    rw [e]
    exact ⟨_, .int _ _ _, rfl⟩
theorem zwD {l : List St} {p : St → Bool} : decide (idxI (l.findIdx? p) ≥ 0) = l.any p := by
  cases h : l.findIdx? p with
  | none =>
    have := List.findIdx?_eq_none_iff.1 h
    rw [decide_eq_false (by simp [idxI])]
    symm
    rw [List.any_eq_false]
    intro x hx
    rw [this x hx]; simp
  | some i =>
    obtain ⟨h1, h2, _⟩ := List.findIdx?_eq_some_iff_getElem.1 h
    rw [decide_eq_true (by simp [idxI])]
    exact (zp6 h1 h2).symm
theorem zfQ (l : List St) (fv : AV) (p : St → Bool) (hp : PredT fv l p) : zD Tryz.prog zR [encL 8 St.cells l, fv] (· = .bool (l.any p)) := by
  refine fn_x zbJ rfl ?_
  unfold zau
  (repeat first | simp (disch := try exact dis1) only [evD, Nat.reduceBEq, Nat.reduceAdd, Nat.reduceLeDiff] | with_reducible intro _ | ((with_reducible apply And.intro); omega))
  refine zn (zaE (D := noR) (zhE l fv p hp) (.cons (zJ rfl) (.cons (zre hp) .nil)) (.inl rfl)) ?_
  (repeat first | simp (disch := try exact dis1) only [evD, Nat.reduceBEq, Nat.reduceAdd, Nat.reduceLeDiff, zaq] | with_reducible intro _ | ((with_reducible apply And.intro); omega))
  refine ⟨_, .bool _ _, ?_⟩
  rw [← zwD]
structure PredI (fv : AV) (l : List Int) (p : Int → Bool) : Prop where
  ex : ∃ f caps, fv = .fn (.func f) caps ∧ zdY Tryz.prog f = true ∧ zE caps = true ∧ ∀ s ∈ l, zD Tryz.prog f ([.int .i64 s] ++ caps) (· = .bool (p s))
theorem zqf {fv : AV} {l : List Int} {p : Int → Bool} (hp : PredI fv l p) {s : Int} (hs : s ∈ l) {H : AH} {nx : Nat} {k : AV → AH → Nat → Prop} (hk : k (.bool (p s)) H nx) : zk2 Tryz.prog fv [.int .i64 s] H nx k := by
  obtain ⟨f, caps, rfl, hg, hf, hx⟩ := hp.ex
  rw [zit]
  refine ⟨hg, zn (zo (hx s hs) ?_) hk⟩
  simp only [List.cons_append, List.nil_append, List.all_cons, Bool.and_eq_true]
  exact ⟨rfl, zfT hf⟩
theorem zqZ {fv : AV} {l : List Int} {p : Int → Bool} (hp : PredI fv l p) {H H2 : AH} {σ : Nat → Nat → Option (Nat × Nat × Nat)} {D : Nat → Nat → Prop} {t : Bool} : Vw H H2 σ D t fv fv := by
  obtain ⟨f, caps, rfl, hg, hf, hx⟩ := hp.ex
  refine .fn _ _ _ _ rfl fun i a b h1 h2 => ?_
  rw [h1] at h2
  cases h2
  exact zb2 (zaF hf h1)
theorem zhA (l : List Int) (fv : AV) (p : Int → Bool) (hp : PredI fv l p) : zD Tryz.prog zaV [za l, fv] (· = .int .i64 (idxI (l.findIdx? p))) := by
  refine fn_x zey rfl ?_
  unfold zbM
  have hB := hBig
  (repeat first | simp (disch := try exact dis1) only [evD, Nat.reduceBEq, Nat.reduceAdd, Nat.reduceLeDiff, za] | with_reducible intro _ | ((with_reducible apply And.intro); omega))
  refine zm (fun i : Nat => ([(0, za l), (1, fv), (7, .int .i64 l.length), (8, .int .i64 i)], [])) 0 (fun i => i ≤ l.length ∧ ∀ j (h : j < l.length), j < i → p l[j] = false) (fun i => l.length - i) 0 ⟨Nat.zero_le _, fun j _ h => by omega⟩ (Ent.keep rfl fin5) ?_
  intro i ⟨hi, hno⟩ wf
  unfold zbk
  (repeat first | simp (disch := try exact dis1) only [evD, Nat.reduceBEq, Nat.reduceAdd, Nat.reduceLeDiff] | with_reducible intro _ | ((with_reducible apply And.intro); omega))
  (refine zao (fun h => ?_) (fun h => ?_)) <;> (try simp only [dcd] at h)
  · have hi' : i < l.length := by omega
    (repeat first | simp (disch := try exact dis1) only [evD, Nat.reduceBEq, Nat.reduceAdd, Nat.reduceLeDiff, za, zt hi'] | with_reducible intro _ | ((with_reducible apply And.intro); omega))
    refine zqf hp (List.getElem_mem hi') ?_
    (repeat first | simp (disch := try exact dis1) only [evD, Nat.reduceBEq, Nat.reduceAdd, Nat.reduceLeDiff] | with_reducible intro _ | ((with_reducible apply And.intro); omega))
    (refine zao (fun h2 => ?_) (fun h2 => ?_)) <;> (try simp only [dcd] at h2)
    · (repeat first | simp (disch := try exact dis1) only [evD, Nat.reduceBEq, Nat.reduceAdd, Nat.reduceLeDiff, zaR] | with_reducible intro _ | ((with_reducible apply And.intro); omega))
      have e : l.findIdx? p = some i := by
        rw [List.findIdx?_eq_some_iff_getElem]
        exact ⟨hi', h2, fun j hj => by rw [hno j (by omega) hj]; simp⟩
      rw [e]
      exact ⟨_, .int _ _ _, rfl⟩
    · (repeat first | simp (disch := try exact dis1) only [evD, Nat.reduceBEq, Nat.reduceAdd, Nat.reduceLeDiff] | with_reducible intro _ | ((with_reducible apply And.intro); omega))
      refine ⟨i + 1, ⟨by omega, fun j hj hji => ?_⟩, by omega, Ent.keep rfl fin5⟩
      by_cases hje : j = i
      · subst hje; simpa using h2
      · exact hno j hj (by omega)
  · unfold zbn
    (repeat first | simp (disch := try exact dis1) only [evD, Nat.reduceBEq, Nat.reduceAdd, Nat.reduceLeDiff, zaR] | with_reducible intro _ | ((with_reducible apply And.intro); omega))
    have e : l.findIdx? p = none := by
      rw [List.findIdx?_eq_none_iff]
      intro x hx
      obtain ⟨j, hj, rfl⟩ := List.mem_iff_getElem.1 hx
      exact hno j hj (by omega)
    rw [e]
    exact ⟨_, .int _ _ _, rfl⟩
theorem zvt {l : List Int} {p : Int → Bool} : decide (idxI (l.findIdx? p) ≥ 0) = l.any p := by
  cases h : l.findIdx? p with
  | none =>
    have := List.findIdx?_eq_none_iff.1 h
    rw [decide_eq_false (by simp [idxI])]
    symm
    rw [List.any_eq_false]
    intro x hx
    rw [this x hx]; simp
  | some i =>
    obtain ⟨h1, h2, _⟩ := List.findIdx?_eq_some_iff_getElem.1 h
    rw [decide_eq_true (by simp [idxI])]
    exact (zp6 h1 h2).symm
theorem zfV (l : List Int) (fv : AV) (p : Int → Bool) (hp : PredI fv l p) : zD Tryz.prog zaG [za l, fv] (· = .bool (l.any p)) := by
  refine fn_x zdD rfl ?_
  unfold zbm
  (repeat first | simp (disch := try exact dis1) only [evD, Nat.reduceBEq, Nat.reduceAdd, Nat.reduceLeDiff] | with_reducible intro _ | ((with_reducible apply And.intro); omega))
  refine zn (zaE (D := noR) (zhA l fv p hp) (.cons (zJ rfl) (.cons (zqZ hp) .nil)) (.inl rfl)) ?_
  (repeat first | simp (disch := try exact dis1) only [evD, Nat.reduceBEq, Nat.reduceAdd, Nat.reduceLeDiff, zbj] | with_reducible intro _ | ((with_reducible apply And.intro); omega))
  refine ⟨_, .bool _ _, ?_⟩
  rw [← zvt]
theorem zob (l : List Int) (hl : l.length ≤ 100000000) : zS Tryz.prog zaT [za l] [] 0 (fun v H nx => v = .own 0 0 0 0 l.length ∧ H = [(0, .row 1 (l.map cI) 0)] ∧ nx = 1) := by
  refine zbD (fn_x zf5 rfl ?_)
  unfold zcS za
  have hB := hBig
  have hel : ∀ H, zc1 1 (encL 1 (fun n => [.int .i64 n]) l) H = some (l.map cI) := fun H => zrH
  (repeat first | simp (disch := try exact dis1) only [evD, Nat.reduceBEq, Nat.reduceAdd, Nat.reduceLeDiff, zuG] | with_reducible intro _ | ((with_reducible apply And.intro); omega))
  cases h0 : (l.length == 0) with
  | true =>
    have e : l = [] := List.eq_nil_of_length_eq_zero (by simpa using h0)
    subst e
    (repeat first | simp (disch := try exact dis1) only [evD, Nat.reduceBEq, Nat.reduceAdd, Nat.reduceLeDiff] | with_reducible intro _ | ((with_reducible apply And.intro); omega))
    rename_i b
    cases b
    · (repeat first | simp (disch := try exact dis1) only [evD, Nat.reduceBEq, Nat.reduceAdd, Nat.reduceLeDiff, hel, zaK] | with_reducible intro _ | ((with_reducible apply And.intro); omega))
      exact ⟨.own 0 0 0 0 0, [(0, .row 1 [] 0)], 1, (Ent.tab [(0, 1, 1)] [] rfl (by (try simp only [evWB, Nat.reduceBEq, Nat.reduceAdd, Nat.reduceSub, Nat.reduceLeDiff, Nat.reduceLT, implies_true]) <;> exact fin2) (by (try simp only [evWB, Nat.reduceBEq, Nat.reduceAdd, Nat.reduceSub, Nat.reduceLeDiff, Nat.reduceLT, implies_true]) <;> exact fin2)), rfl, rfl, rfl⟩
    · (repeat first | simp (disch := try exact dis1) only [evD, Nat.reduceBEq, Nat.reduceAdd, Nat.reduceLeDiff, zaK] | with_reducible intro _ | ((with_reducible apply And.intro); omega))
      exact ⟨.own 0 0 0 0 0, [(0, .row 1 [] 0)], 1, (Ent.tab [(0, 1, 0)] [] rfl (by (try simp only [evWB, Nat.reduceBEq, Nat.reduceAdd, Nat.reduceSub, Nat.reduceLeDiff, Nat.reduceLT, implies_true]) <;> exact fin2) (by (try simp only [evWB, Nat.reduceBEq, Nat.reduceAdd, Nat.reduceSub, Nat.reduceLeDiff, Nat.reduceLT, implies_true]) <;> exact fin2)), rfl, rfl, rfl⟩
  | false =>
    (repeat first | simp (disch := try exact dis1) only [evD, Nat.reduceBEq, Nat.reduceAdd, Nat.reduceLeDiff, hel, zaK] | with_reducible intro _ | ((with_reducible apply And.intro); omega))
    exact ⟨.own 0 0 0 0 l.length, [(0, .row 1 (l.map cI) 0)], 1, (Ent.tab [(0, 1, 1)] [] rfl (by (try simp only [evWB, Nat.reduceBEq, Nat.reduceAdd, Nat.reduceSub, Nat.reduceLeDiff, Nat.reduceLT, implies_true]) <;> exact fin2) (by (try simp only [evWB, Nat.reduceBEq, Nat.reduceAdd, Nat.reduceSub, Nat.reduceLeDiff, Nat.reduceLT, implies_true]) <;> exact fin2)), rfl, rfl, rfl⟩
theorem renI {ρ : Nat → Nat} {l : List Int} {g : Nat} : AObj.ren ρ (.row 1 (l.map cI) g) = .row 1 (l.map cI) g := by
  simp only [AObj.ren]
  rw [zfU (zg fun _ => rfl)]
theorem zgm (b : Bl) (hc : ∀ s ∈ b.stmts, s.cases.length ≤ 100000000) : zD Tryz.prog zc0 [.agg b.cells] (· = za (zz b.stmts)) := by
  refine fn_x zkb rfl ?_
  unfold zgr
  have hB := hBig
  obtain ⟨ad, l⟩ := b
  simp only at hc
  simp only [Bl.cells]
  by_cases h0 : l.length = 0
  · obtain rfl : l = [] := List.eq_nil_of_length_eq_zero h0
    (repeat first | simp (disch := try exact dis1) only [evD, Nat.reduceBEq, Nat.reduceAdd, Nat.reduceLeDiff, fldP, dT, List.length_nil, zaX] | with_reducible intro _ | ((with_reducible apply And.intro); omega))
    exact ⟨_, zV (l := []) trivial rfl (by simp only [List.length_nil]; omega), rfl⟩
  have hlast : l.length - 1 < l.length := by omega
  have hidx : (((l.length : Nat) : Int) - 1).toNat = l.length - 1 := by omega
  have hcs := hc _ (List.getElem_mem hlast)
  have hg := zt (f := St.cells) (d := []) hlast
  rw [zgN hlast]
  generalize l[l.length - 1] = s at hg hcs
  obtain ⟨op, var, width, next, els, tgt, e, cs⟩ := s
  simp only [St.cells] at hg hcs
  unfold zgb
  simp only
  (repeat first | simp (disch := try exact dis1) only [evD, Nat.reduceBEq, Nat.reduceAdd, Nat.reduceLeDiff, fldP, dT, dF, hidx, hg] | with_reducible intro _ | ((with_reducible apply And.intro); omega))
  by_cases h6 : op = 6
  · rw [if_pos h6]
    (repeat first | simp (disch := try exact dis1) only [evD, Nat.reduceBEq, Nat.reduceAdd, Nat.reduceLeDiff, dT, dF, fldP, za, St.cells, zaX] | with_reducible intro _ | ((with_reducible apply And.intro); omega))
    exact ⟨_, zV (l := [next]) trivial rfl (by simp only [List.length_singleton]; omega), rfl⟩
  rw [if_neg h6]
  by_cases h7 : op = 7
  · rw [if_pos h7]
    (repeat first | simp (disch := try exact dis1) only [evD, Nat.reduceBEq, Nat.reduceAdd, Nat.reduceLeDiff, dT, dF, fldP, za, St.cells, zaX] | with_reducible intro _ | ((with_reducible apply And.intro); omega))
    exact ⟨_, zV (l := [next, els]) trivial rfl (by simp only [List.length_cons, List.length_nil]; omega), rfl⟩
  rw [if_neg h7]
  by_cases h8 : op = 8
  · rw [if_pos h8]
    (repeat first | simp (disch := try exact dis1) only [evD, Nat.reduceBEq, Nat.reduceAdd, Nat.reduceLeDiff, dT, dF, fldP, St.cells] | with_reducible intro _ | ((with_reducible apply And.intro); omega))
    refine zL [] 0 _ (zob cs hcs) rfl rfl (by (try simp only [evWB, Nat.reduceBEq, Nat.reduceAdd, Nat.reduceSub, Nat.reduceLeDiff, Nat.reduceLT, implies_true]) <;> exact fin1) (by (try simp only [evWB, Nat.reduceBEq, Nat.reduceAdd, Nat.reduceSub, Nat.reduceLeDiff, Nat.reduceLT, implies_true]) <;> exact fin1) ?_
    rintro _ _ _ ⟨rfl, rfl, rfl⟩
    (repeat first | simp (disch := try exact dis1) only [evD, Nat.reduceBEq, Nat.reduceAdd, Nat.reduceLeDiff, renI, zaX] | with_reducible intro _ | ((with_reducible apply And.intro); omega))
    exact ⟨_, zV (l := cs) trivial rfl (by omega), rfl⟩
  rw [if_neg h8]
  (repeat first | simp (disch := try exact dis1) only [evD, Nat.reduceBEq, Nat.reduceAdd, Nat.reduceLeDiff, dT, dF, fldP, za, St.cells, zaX] | with_reducible intro _ | ((with_reducible apply And.intro); omega))
  exact ⟨_, zV (l := []) trivial rfl (by simp only [List.length_nil]; omega), rfl⟩
theorem bd_l6 {Q : QT} (exit : List Int) (bl : List Bl) (ad : Int) (U : List Int) (R p0 : BS) (hn : bl.length ≤ 1000000)
    (hstep : ∀ (p : BS) k, k < bl.length → (∀ i, SetU U (p.1 i)) → (∀ i, SetU U (p.2.1 i)) → (∀ i, SetU U ((stM exit bl p k).1 i)) ∧ (∀ i, SetU U ((stM exit bl p k).2.1 i)))
    (hcs : ∀ b ∈ bl, (∀ s ∈ b.stmts, s.cases.length ≤ 100000000) ∧ b.stmts.length ≤ 1000000 ∧ (zz b.stmts).length ≤ 1000000)
    (hroom : ∀ (p : BS) k (hk : k < bl.length), (∀ i, SetU U (p.1 i)) → (∀ i, SetU U (p.2.1 i)) →
      (∀ i, i < (zz bl[k].stmts).length → (((zz bl[k].stmts).take i).foldl (addT bl.length p.1) (p.2.1 k)).ok ∧ ∀ j, j < bl.length → (((zz bl[k].stmts).take i).foldl (addT bl.length p.1) (p.2.1 k)).1 + (p.1 j).2.length ≤ 1000000 ∧ (((zz bl[k].stmts).take i).foldl (addT bl.length p.1) (p.2.1 k)).2.length + (p.1 j).2.length ≤ 1000000) ∧
      SetU U (outM bl.length bl[k].stmts p k k) ∧
      ∀ t, SetU U t → (∀ i (hi : i < bl[k].stmts.length), (zdb exit bl[k].stmts (i + 1) (addL (0, []) (zaj t))).ok ∧ zw bl[k].stmts[i].e ≤ 100000 ∧ (zdb exit bl[k].stmts (i + 1) (addL (0, []) (zaj t))).1 + zw bl[k].stmts[i].e + exit.length ≤ 1000000 ∧ (zdb exit bl[k].stmts (i + 1) (addL (0, []) (zaj t))).2.length + zw bl[k].stmts[i].e + exit.length ≤ 1000000) ∧
        (zf8 exit bl[k].stmts t).ok ∧ (p.1 k).1 + (zf8 exit bl[k].stmts t).2.length ≤ 1000000 ∧ (p.1 k).2.length + (zf8 exit bl[k].stmts t).2.length ≤ 1000000)
    (h0 : ziD exit bl bl.length p0 = R) (h1 : ∀ i, SetU U (p0.1 i)) (h2 : ∀ i, SetU U (p0.2.1 i))
    (hfin : ∀ K H nx, Ent 0 K H nx [(1, za exit), (2, encP 2 [.int .u32 ad, encL 2 Bl.cells bl]), (6, .own 0 0 0 0 bl.length), (7, .own 1 0 0 0 bl.length), (9, .bool R.2.2)] (bdH bl.length R.1 R.2.1) 4 → Q .normal K H nx)
    {K : Kn} {H : AH} {nx : Nat} (hent : Ent 0 K H nx [(1, za exit), (2, encP 2 [.int .u32 ad, encL 2 Bl.cells bl]), (6, .own 0 0 0 0 bl.length), (7, .own 1 0 0 0 bl.length), (9, .bool p0.2.2), (10, .int .i64 ((bl.length : Int) - 1))] (bdH bl.length p0.1 p0.2.1) 4) :
    zhD Tryz.prog 0 za7 (za3 4 Q) K H nx := by
  have hB := hBig
  refine zm (fun a : Nat × BS => ([(1, za exit), (2, encP 2 [.int .u32 ad, encL 2 Bl.cells bl]), (6, .own 0 0 0 0 bl.length), (7, .own 1 0 0 0 bl.length), (9, .bool a.2.2.2), (10, .int .i64 ((a.1 : Int) - 1))], bdH bl.length a.2.1 a.2.2.1)) 4
    (fun a => a.1 ≤ bl.length ∧ ziD exit bl a.1 a.2 = R ∧ (∀ i, SetU U (a.2.1 i)) ∧ ∀ i, SetU U (a.2.2.1 i)) (fun a => a.1) (bl.length, p0) ⟨Nat.le_refl _, h0, h1, h2⟩ hent ?_
  rintro ⟨k, p⟩ ⟨hk, hR, hS, hT⟩ wf
  simp only at hk hR hS hT
  unfold za7
  rcases Nat.eq_zero_or_pos k with rfl | hp
  · have hR : p = R := hR
    subst hR
    (repeat first | simp (disch := try exact dis1) only [evD, Nat.reduceBEq, Nat.reduceAdd, Nat.reduceLeDiff, dF, Int.natCast_zero, bdH] | with_reducible intro _ | ((with_reducible apply And.intro); omega))
    refine hfin _ _ _ ?_
    exact (Ent.tab [(0, 0, 0), (1, 1, 0), (2, 2, 0), (3, 3, 0)] [] rfl (by (try simp only [evWB, Nat.reduceBEq, Nat.reduceAdd, Nat.reduceSub, Nat.reduceLeDiff, Nat.reduceLT, implies_true, bdH, za, famS]) <;> (repeat' with_reducible apply And.intro) <;> first | (refine zb zc (by decide) ⟨rfl, rfl⟩ ?_; (try simp only [evWB, Nat.reduceBEq, Nat.reduceAdd, Nat.reduceSub, Nat.reduceLeDiff, Nat.reduceLT, implies_true, bdH, za, famS]) <;> (repeat' with_reducible apply And.intro) <;> first | (refine zb zc (by decide) ⟨rfl, rfl⟩ ?_; (try simp only [evWB, Nat.reduceBEq, Nat.reduceAdd, Nat.reduceSub, Nat.reduceLeDiff, Nat.reduceLT, implies_true, bdH, za, famS]) <;> exact fin6; done) | exact fin6; done) | exact fin6) (by (try simp only [evWB, Nat.reduceBEq, Nat.reduceAdd, Nat.reduceSub, Nat.reduceLeDiff, Nat.reduceLT, implies_true, bdH, za, famS]) <;> (repeat' with_reducible apply And.intro) <;> first | (refine zb zc (by decide) ⟨rfl, rfl⟩ ?_; (try simp only [evWB, Nat.reduceBEq, Nat.reduceAdd, Nat.reduceSub, Nat.reduceLeDiff, Nat.reduceLT, implies_true, bdH, za, famS]) <;> (repeat' with_reducible apply And.intro) <;> first | (refine zb zc (by decide) ⟨rfl, rfl⟩ ?_; (try simp only [evWB, Nat.reduceBEq, Nat.reduceAdd, Nat.reduceSub, Nat.reduceLeDiff, Nat.reduceLT, implies_true, bdH, za, famS]) <;> exact fin6; done) | exact fin6; done) | exact fin6))
  · obtain ⟨k, rfl⟩ : ∃ j, k = j + 1 := ⟨k - 1, by omega⟩
    have hkl : k < bl.length := by omega
    have hgl := zt (f := Bl.cells) (d := []) hkl
    have ei : ((k + 1 : Nat) : Int) - 1 = k := by omega
    have hbk : (bl.map (·.stmts)).getD k [] = bl[k].stmts := zt hkl
    have hR' : ziD exit bl k (stM exit bl p k) = R := hR
    obtain ⟨s1, s2⟩ := hstep p k hkl hS hT
    obtain ⟨c1, c2, c3⟩ := hcs _ (List.getElem_mem hkl)
    obtain ⟨r1, r2, r3⟩ := hroom p k hkl hS hT
    obtain ⟨q1, q2, q3, q4⟩ := r3 _ r2
    generalize bl[k] = B at hgl hbk c1 c2 c3 r1 r2 q1 q2 q3 q4
    obtain ⟨ad2, sts⟩ := B
    simp only at hbk c1 c2 c3 r1 r2 q1 q2 q3 q4
    by_cases hz : sts.length = 0
    · have e1 : stM exit bl p k = p := by unfold stM; rw [hbk]; exact if_pos hz
      rw [e1] at hR'
      (repeat first | simp (disch := try exact dis1) only [evD, Nat.reduceBEq, Nat.reduceAdd, Nat.reduceLeDiff, ei, dT, hgl, fldP, bdH, Bl.cells] | with_reducible intro _ | ((with_reducible apply And.intro); omega))
      unfold zM
      (repeat first | simp (disch := try exact dis1) only [evD, Nat.reduceBEq, Nat.reduceAdd, Nat.reduceLeDiff] | with_reducible intro _ | ((with_reducible apply And.intro); omega))
      exact ⟨(k, p), ⟨by simp only; omega, hR', hS, hT⟩, by simp only; omega, (Ent.tab [(0, 0, 0), (1, 1, 0), (2, 2, 0), (3, 3, 0)] [] rfl (by (try simp only [evWB, Nat.reduceBEq, Nat.reduceAdd, Nat.reduceSub, Nat.reduceLeDiff, Nat.reduceLT, implies_true, bdH, za, famS]) <;> (repeat' with_reducible apply And.intro) <;> first | (refine zb zc (by decide) ⟨rfl, rfl⟩ ?_; (try simp only [evWB, Nat.reduceBEq, Nat.reduceAdd, Nat.reduceSub, Nat.reduceLeDiff, Nat.reduceLT, implies_true, bdH, za, famS]) <;> (repeat' with_reducible apply And.intro) <;> first | (refine zb zc (by decide) ⟨rfl, rfl⟩ ?_; (try simp only [evWB, Nat.reduceBEq, Nat.reduceAdd, Nat.reduceSub, Nat.reduceLeDiff, Nat.reduceLT, implies_true, bdH, za, famS]) <;> exact fin6; done) | exact fin6; done) | exact fin6) (by (try simp only [evWB, Nat.reduceBEq, Nat.reduceAdd, Nat.reduceSub, Nat.reduceLeDiff, Nat.reduceLT, implies_true, bdH, za, famS]) <;> (repeat' with_reducible apply And.intro) <;> first | (refine zb zc (by decide) ⟨rfl, rfl⟩ ?_; (try simp only [evWB, Nat.reduceBEq, Nat.reduceAdd, Nat.reduceSub, Nat.reduceLeDiff, Nat.reduceLT, implies_true, bdH, za, famS]) <;> (repeat' with_reducible apply And.intro) <;> first | (refine zb zc (by decide) ⟨rfl, rfl⟩ ?_; (try simp only [evWB, Nat.reduceBEq, Nat.reduceAdd, Nat.reduceSub, Nat.reduceLeDiff, Nat.reduceLT, implies_true, bdH, za, famS]) <;> exact fin6; done) | exact fin6; done) | exact fin6))⟩
    · (repeat first | simp (disch := try exact dis1) only [evD, Nat.reduceBEq, Nat.reduceAdd, Nat.reduceLeDiff, ei, dT, dF, hgl, fldP, bdH, Bl.cells] | with_reducible intro _ | ((with_reducible apply And.intro); omega))
      refine zn (zo (zgm ⟨ad2, sts⟩ c1) rfl) ?_
      (repeat first | simp (disch := try exact dis1) only [evD, Nat.reduceBEq, Nat.reduceAdd, Nat.reduceLeDiff, za] | with_reducible intro _ | ((with_reducible apply And.intro); omega))
      have e1 : stM exit bl p k = (updF p.1 k (addL (p.1 k) (zaj (zf8 exit sts (outM bl.length sts p k k)))), outM bl.length sts p k, p.2.2 || decide ((p.1 k).2.length < (addL (p.1 k) (zaj (zf8 exit sts (outM bl.length sts p k k)))).2.length)) := by unfold stM; rw [hbk]; exact if_neg hz
      rw [e1] at hR' s1 s2
      refine bd_l1 bl.length k hkl p.1 p.2.1 (zz sts) exit sts p.2.2 (fun i _ => (hS i).ok) (hT k).ok r1 c3 hn bl ad rfl (bd_k4 bl.length k hkl hn p.1 (outM bl.length sts p k) exit (zz sts) sts p.2.2 r2.ok q1 c2 q2 (hS k).ok q3 q4 bl ad ?_) ?_
      · intro K2 H2 nx2 he
        exact ⟨(k, _), ⟨by simp only; omega, hR', s1, s2⟩, by simp only; omega, he⟩
      · exact (Ent.tab [(0, 0, 0), (1, 1, 0), (2, 2, 0), (3, 3, 0)] [] rfl (by (try simp only [evWB, Nat.reduceBEq, Nat.reduceAdd, Nat.reduceSub, Nat.reduceLeDiff, Nat.reduceLT, implies_true, bdH, za, famS]) <;> (repeat' with_reducible apply And.intro) <;> first | (refine zb zc (by decide) ⟨rfl, rfl⟩ ?_; (try simp only [evWB, Nat.reduceBEq, Nat.reduceAdd, Nat.reduceSub, Nat.reduceLeDiff, Nat.reduceLT, implies_true, bdH, za, famS]) <;> (repeat' with_reducible apply And.intro) <;> first | (refine zb zc (by decide) ⟨rfl, rfl⟩ ?_; (try simp only [evWB, Nat.reduceBEq, Nat.reduceAdd, Nat.reduceSub, Nat.reduceLeDiff, Nat.reduceLT, implies_true, bdH, za, famS]) <;> exact fin6; done) | exact fin6; done) | exact fin6) (by (try simp only [evWB, Nat.reduceBEq, Nat.reduceAdd, Nat.reduceSub, Nat.reduceLeDiff, Nat.reduceLT, implies_true, bdH, za, famS]) <;> (repeat' with_reducible apply And.intro) <;> first | (refine zb zc (by decide) ⟨rfl, rfl⟩ ?_; (try simp only [evWB, Nat.reduceBEq, Nat.reduceAdd, Nat.reduceSub, Nat.reduceLeDiff, Nat.reduceLT, implies_true, bdH, za, famS]) <;> (repeat' with_reducible apply And.intro) <;> first | (refine zb zc (by decide) ⟨rfl, rfl⟩ ?_; (try simp only [evWB, Nat.reduceBEq, Nat.reduceAdd, Nat.reduceSub, Nat.reduceLeDiff, Nat.reduceLT, implies_true, bdH, za, famS]) <;> exact fin6; done) | exact fin6; done) | exact fin6))
theorem SetU.keysIn {U : List Int} {s : MS} (h : SetU U s) : ∀ x ∈ zaj s, x ∈ U := fun x hx => h.sub x (zg9.1 hx)
theorem zpm {U : List Int} {n : Nat} {S : Nat → MS} (hS : ∀ i, SetU U (S i)) (hU : 2 * U.length ≤ 1000000) : ∀ {ts : List Int} {a : MS}, SetU U a → SetU U (ts.foldl (addT n S) a)
  | [], _, h => h
  | t :: ts, a, h => by
    rw [List.foldl_cons]
    refine zpm hS hU ?_
    unfold addT
    split
    · have hl := (hS t.toNat).len
      exact h.add (hS t.toNat).keysIn (by rw [zg5]; omega)
    · exact h
theorem zxg {U : List Int} {n : Nat} {sts : List St} {p : BS} {b : Nat} (hS : ∀ i, SetU U (p.1 i)) (hT : ∀ i, SetU U (p.2.1 i)) (hU : 2 * U.length ≤ 1000000) (i : Nat) : SetU U (outM n sts p b i) := by
  unfold outM updF
  split
  · exact zpm hS hU (hT b)
  · exact hT i
theorem zo7 {U exit : List Int} (he : ∀ x ∈ exit, x ∈ U) {a : MS} (ha : ∀ x ∈ a.keys, x ∈ U) : ∀ {l : List St}, (∀ s ∈ l, ∀ x ∈ zb6 s, x ∈ U) → ∀ x ∈ (l.foldr (zc2 exit) a).keys, x ∈ U
  | [], _, x, hx => ha x hx
  | s :: l, hu, x, hx => by
    have ih := zo7 he ha (l := l) (fun s hs => hu s (List.mem_cons_of_mem _ hs))
    have := (zlH (exit := exit) (s := s) (a := l.foldr (zc2 exit) a) (l := (l.foldr (zc2 exit) a).keys) (fun _ => Iff.rfl) x).1 hx
    rcases zeH.1 this with ⟨h1, _⟩ | h1 | ⟨_, h1⟩
    · exact ih x h1
    · exact hu s (by simp) x h1
    · exact he x h1
theorem zko {k : Nat} : ∀ {l : List St} {i : Nat}, zaJ k (l.drop i) ≤ zaJ k l
  | [], i => by simp
  | s :: l, 0 => Nat.le_refl _
  | s :: l, i + 1 => by
    have := zko (k := k) (l := l) (i := i)
    show zaJ k (l.drop i) ≤ zw s.e + k + zaJ k l
    omega
theorem zmp {U exit : List Int} {sts : List St} {t : MS} (ht : SetU U t) (he : ∀ x ∈ exit, x ∈ U) (hu : ∀ s ∈ sts, ∀ x ∈ zb6 s, x ∈ U) (hsz : ∀ s ∈ sts, zw s.e ≤ 100000) (hU : 2 * U.length + zaJ exit.length sts ≤ 1000000) :
    (∀ i (hi : i < sts.length), (zdb exit sts (i + 1) (addL (0, []) (zaj t))).ok ∧ zw sts[i].e ≤ 100000 ∧ (zdb exit sts (i + 1) (addL (0, []) (zaj t))).1 + zw sts[i].e + exit.length ≤ 1000000 ∧ (zdb exit sts (i + 1) (addL (0, []) (zaj t))).2.length + zw sts[i].e + exit.length ≤ 1000000) ∧
    (zf8 exit sts t).ok ∧ (zf8 exit sts t).2.length ≤ U.length := by
  have hl := ht.len
  have ha : SetU U (addL (0, []) (zaj t)) := SetU.none.add ht.keysIn (by rw [zg5]; omega)
  have hal := ha.len
  have hac := ha.clock
  refine ⟨fun i hi => ?_, ?_⟩
  · have c1 := zmN (k := exit.length) hi
    have c2 := zko (k := exit.length) (l := sts) (i := i)
    obtain ⟨f1, f2, f3⟩ := zmY (exit := exit) (l := sts.drop (i + 1)) ha.ok (by omega) (by omega)
    exact ⟨f1, hsz _ (List.getElem_mem hi), by show ((sts.drop (i + 1)).foldr (zc2 exit) _).1 + _ + _ ≤ _; omega, by show ((sts.drop (i + 1)).foldr (zc2 exit) _).2.length + _ + _ ≤ _; omega⟩
  · obtain ⟨f1, f2, f3⟩ := zmY (exit := exit) (l := sts) ha.ok (by omega) (by omega)
    refine ⟨f1, ?_⟩
    have := List.Nodup.length_le_of_subset f1.keys (show ∀ x ∈ (sts.foldr (zc2 exit) (addL (0, []) (zaj t))).2.map (·.1), x ∈ U from zo7 he ha.sub hu)
    rwa [List.length_map] at this
structure UnivB (U exit : List Int) (bl : List Bl) : Prop where
  he : ∀ x ∈ exit, x ∈ U
  hu : ∀ b ∈ bl, ∀ s ∈ b.stmts, ∀ x ∈ zb6 s, x ∈ U
  hsz : ∀ b ∈ bl, ∀ s ∈ b.stmts, zw s.e ≤ 100000
  cost : ∀ b ∈ bl, 2 * U.length + zaJ exit.length b.stmts ≤ 1000000
  cs : ∀ b ∈ bl, (∀ s ∈ b.stmts, s.cases.length ≤ 100000000) ∧ b.stmts.length ≤ 1000000 ∧ (zz b.stmts).length ≤ 1000000
  len : bl.length ≤ 1000000
theorem UnivB.step {U exit : List Int} {bl : List Bl} (h : UnivB U exit bl) (p : BS) (k : Nat) (hk : k < bl.length) (hS : ∀ i, SetU U (p.1 i)) (hT : ∀ i, SetU U (p.2.1 i)) :
    (∀ i, SetU U ((stM exit bl p k).1 i)) ∧ (∀ i, SetU U ((stM exit bl p k).2.1 i)) := by
  have hm := List.getElem_mem hk
  have hc := h.cost _ hm
  have hbk : (bl.map (·.stmts)).getD k [] = bl[k].stmts := zt hk
  unfold stM
  simp only [hbk]
  split
  · exact ⟨hS, hT⟩
  · have hT' := fun i => zxg (n := bl.length) (sts := bl[k].stmts) (b := k) hS hT (by omega) i
    obtain ⟨_, r2, r3⟩ := zmp (hT' k) h.he (h.hu _ hm) (h.hsz _ hm) hc
    refine ⟨fun i => ?_, hT'⟩
    simp only [updF]
    split
    · refine (hS k).add (fun x hx => ?_) (by rw [zg5]; omega)
      have ha : SetU U (addL (0, []) (zaj (outM bl.length bl[k].stmts p k k))) := SetU.none.add (hT' k).keysIn (by have := (hT' k).len; rw [zg5]; omega)
      exact zo7 h.he ha.sub (h.hu _ hm) x (zg9.1 hx)
    · exact hS i
theorem UnivB.room {U exit : List Int} {bl : List Bl} (h : UnivB U exit bl) (p : BS) (k : Nat) (hk : k < bl.length) (hS : ∀ i, SetU U (p.1 i)) (hT : ∀ i, SetU U (p.2.1 i)) :
      (∀ i, i < (zz bl[k].stmts).length → (((zz bl[k].stmts).take i).foldl (addT bl.length p.1) (p.2.1 k)).ok ∧ ∀ j, j < bl.length → (((zz bl[k].stmts).take i).foldl (addT bl.length p.1) (p.2.1 k)).1 + (p.1 j).2.length ≤ 1000000 ∧ (((zz bl[k].stmts).take i).foldl (addT bl.length p.1) (p.2.1 k)).2.length + (p.1 j).2.length ≤ 1000000) ∧
      SetU U (outM bl.length bl[k].stmts p k k) ∧
      ∀ t, SetU U t → (∀ i (hi : i < bl[k].stmts.length), (zdb exit bl[k].stmts (i + 1) (addL (0, []) (zaj t))).ok ∧ zw bl[k].stmts[i].e ≤ 100000 ∧ (zdb exit bl[k].stmts (i + 1) (addL (0, []) (zaj t))).1 + zw bl[k].stmts[i].e + exit.length ≤ 1000000 ∧ (zdb exit bl[k].stmts (i + 1) (addL (0, []) (zaj t))).2.length + zw bl[k].stmts[i].e + exit.length ≤ 1000000) ∧
        (zf8 exit bl[k].stmts t).ok ∧ (p.1 k).1 + (zf8 exit bl[k].stmts t).2.length ≤ 1000000 ∧ (p.1 k).2.length + (zf8 exit bl[k].stmts t).2.length ≤ 1000000 := by
  have hm := List.getElem_mem hk
  have hc := h.cost _ hm
  refine ⟨fun i _ => ?_, zxg hS hT (by omega) k, fun t ht => ?_⟩
  · have hf := zpm (n := bl.length) hS (by omega) (ts := (zz bl[k].stmts).take i) (hT k)
    have l1 := hf.len
    have l2 := hf.clock
    refine ⟨hf.ok, fun j _ => ?_⟩
    have l3 := (hS j).len
    exact ⟨by omega, by omega⟩
  · obtain ⟨r1, r2, r3⟩ := zmp ht h.he (h.hu _ hm) (h.hsz _ hm) hc
    have l1 := (hS k).len
    have l2 := (hS k).clock
    exact ⟨r1, r2, by omega, by omega⟩
structure LinkB (exit : List Int) (bl : List Bl) (p : BS) (ins : List (List Int)) : Prop where
  inv : LInvU exit bl ins
  s : ∀ i, i < bl.length → ∀ x, x ∈ (p.1 i).keys ↔ x ∈ ins.getD i []
  t : ∀ i, i < bl.length → ∀ x ∈ (p.2.1 i).keys, x ∈ endB ins ((bl.map (·.stmts)).getD i [])
theorem zoa {n : Nat} {S : Nat → MS} {x : Int} : ∀ {ts : List Int} {a : MS}, x ∈ (ts.foldl (addT n S) a).keys ↔ x ∈ a.keys ∨ ∃ t ∈ ts, (0 ≤ t ∧ t < n) ∧ x ∈ (S t.toNat).keys
  | [], a => by simp
  | t :: ts, a => by
    rw [List.foldl_cons, zoa]
    unfold addT
    split
    · rename_i h
      rw [zds, zg9]
      constructor
      · rintro ((h1 | h1) | ⟨t', h1, h2⟩)
        · exact .inl h1
        · exact .inr ⟨t, by simp, h, h1⟩
        · exact .inr ⟨t', List.mem_cons_of_mem _ h1, h2⟩
      · rintro (h1 | ⟨t', h1, h2, h3⟩)
        · exact .inl (.inl h1)
        · rcases List.mem_cons.1 h1 with rfl | h1
          · exact .inl (.inr h3)
          · exact .inr ⟨t', h1, h2, h3⟩
    · rename_i h
      constructor
      · rintro (h1 | ⟨t', h1, h2⟩)
        · exact .inl h1
        · exact .inr ⟨t', List.mem_cons_of_mem _ h1, h2⟩
      · rintro (h1 | ⟨t', h1, h2, h3⟩)
        · exact .inl h1
        · rcases List.mem_cons.1 h1 with rfl | h1
          · exact absurd h2 h
          · exact .inr ⟨t', h1, h2, h3⟩
theorem LinkB.out {exit : List Int} {bl : List Bl} {p : BS} {ins : List (List Int)} (h : LinkB exit bl p ins) {b : Nat} (hb : b < bl.length) (x : Int) :
    x ∈ (outM bl.length ((bl.map (·.stmts)).getD b []) p b b).keys ↔ x ∈ endB ins ((bl.map (·.stmts)).getD b []) := by
  unfold outM
  rw [zgU, zoa]
  constructor
  · rintro (h1 | ⟨t, h1, h2, h3⟩)
    · exact h.t b hb x h1
    · exact zea.2 ⟨t, h1, ⟨h2.1, by rw [h.inv.len]; exact h2.2⟩, (h.s _ (by omega) x).1 h3⟩
  · intro h1
    obtain ⟨t, h1, h2, h3⟩ := zea.1 h1
    rw [h.inv.len] at h2
    exact .inr ⟨t, h1, h2, (h.s _ (by omega) x).2 h3⟩
theorem ztt {a b : List (List Int)} (hl : a.length = b.length) (h : ∀ i, ∀ x ∈ a.getD i [], x ∈ b.getD i []) {l : List St} : ∀ x ∈ endB a l, x ∈ endB b l := fun x hx => by
  obtain ⟨t, h1, h2, h3⟩ := zea.1 hx
  exact zea.2 ⟨t, h1, ⟨h2.1, by omega⟩, h _ x h3⟩
theorem znP {U : List Int} {s : MS} (h : SetU U s) {l : List Int} (hl : Asc l) (he : ∀ x, x ∈ s.keys ↔ x ∈ l) : s.2.length = l.length := by
  have h1 : zaj s = l := ziQ h.ok hl fun x => (he x).symm
  rw [← h1, zg5]
theorem LinkB.step {U exit : List Int} {bl : List Bl} (hU : UnivB U exit bl) {p : BS} {ins : List (List Int)} (h : LinkB exit bl p ins) {b : Nat} (hb : b < bl.length) (hS : ∀ i, SetU U (p.1 i)) (hT : ∀ i, SetU U (p.2.1 i)) :
    LinkB exit bl (stM exit bl p b) (zdC exit bl ins b) ∧ ((stM exit bl p b).2.2 = true ↔ p.2.2 = true ∨ zaB ins < zaB (zdC exit bl ins b)) := by
  obtain ⟨i1, i2, i3⟩ := h.inv.toLInv.step hb
  have iU := h.inv.step hb
  obtain ⟨t1, t2⟩ := h.inv.total_step hb
  obtain ⟨uS, _⟩ := hU.step p b hb hS hT
  have hout := h.out hb
  have hlen : ins.length = (zdC exit bl ins b).length := by rw [h.inv.len, iU.len]
  have hmono := fun l => ztt (l := l) hlen i2
  unfold stM at uS ⊢
  generalize hg : (bl.map (·.stmts)).getD b [] = sts at hout uS ⊢
  simp only at uS ⊢
  by_cases hz : sts.length = 0
  · rw [if_pos hz]
    have hnew : newB exit bl ins b = [] := by unfold newB zer; rw [hg, if_pos hz]
    have hnil : ins.getD b [] = [] := by
      rw [List.eq_nil_iff_forall_not_mem]
      intro x hx
      have := h.inv.sub b x hx
      rw [hnew] at this
      cases this
    have hst : zdC exit bl ins b = ins := by unfold zdC; rw [hnew, hnil, if_pos rfl]
    rw [hst]
    exact ⟨h, by simp⟩
  · rw [if_neg hz] at uS ⊢
    simp only at uS ⊢
    have hnew : newB exit bl ins b = zcZ exit sts (endB ins sts) := by unfold newB zer; rw [hg, if_neg hz]
    have hlive : ∀ x, x ∈ (zf8 exit sts (outM bl.length sts p b b)).keys ↔ x ∈ newB exit bl ins b := fun x => by
      rw [hnew]
      refine zoS (fun y => ?_) sts x
      rw [zds, zg9, hout]
      simp [MS.keys]
    have hSb : ∀ x, x ∈ (addL (p.1 b) (zaj (zf8 exit sts (outM bl.length sts p b b)))).keys ↔ x ∈ newB exit bl ins b := fun x => by
      rw [zds, zg9, hlive, h.s b hb]
      exact ⟨fun hh => hh.elim (h.inv.sub b x) id, .inr⟩
    have uSb := uS b
    simp only [zgU] at uSb
    have l1 := znP uSb zht hSb
    have l0 := znP (hS b) (h.inv.asc b) (h.s b hb)
    refine ⟨⟨iU, fun i hi x => ?_, fun i hi x hx => ?_⟩, ?_⟩
    · simp only [updF]
      by_cases hib : i = b
      · subst hib
        rw [if_pos rfl, hSb, i3]
      · rw [if_neg hib, h.s i hi]
        unfold zdC
        split
        · rfl
        · rw [zhk (by rw [h.inv.len]; exact hb), if_neg hib]
    · by_cases hib : i = b
      · subst hib
        rw [hout] at hx
        rw [hg]
        exact hmono _ x hx
      · have : outM bl.length sts p b i = p.2.1 i := by unfold outM updF; rw [if_neg hib]
        have hx : x ∈ (outM bl.length sts p b i).keys := hx
        rw [this] at hx
        exact hmono _ x (h.t i hi x hx)
    · rw [Bool.or_eq_true, decide_eq_true_eq, l0, l1]
      refine or_congr_right ?_
      unfold zdC
      have h2 := zie (h.inv.asc b) zht (h.inv.sub b)
      have h3 := ziP ins b (newB exit bl ins b) (by rw [h.inv.len]; exact hb)
      split
      · exact ⟨fun hh => by omega, fun hh => by omega⟩
      · exact ⟨fun hh => by omega, fun hh => by omega⟩
theorem zmq {exit : List Int} {bl : List Bl} : ∀ (n : Nat) {p : BS} {i : Nat}, n ≤ i → (ziD exit bl n p).2.1 i = p.2.1 i
  | 0, p, i, _ => rfl
  | n + 1, p, i, h => by
    show (ziD exit bl n (stM exit bl p n)).2.1 i = _
    rw [zmq n (by omega)]
    unfold stM
    simp only
    split
    · rfl
    · simp only [outM, updF]
      rw [if_neg (by omega)]
structure PassB (U exit : List Int) (bl : List Bl) (n : Nat) (p : BS) (ins : List (List Int)) : Prop where
  link : LinkB exit bl (ziD exit bl n p) (zdJ exit bl n ins)
  ch : (ziD exit bl n p).2.2 = true ↔ p.2.2 = true ∨ zaB ins < zaB (zdJ exit bl n ins)
  s : ∀ i, SetU U ((ziD exit bl n p).1 i)
  t : ∀ i, SetU U ((ziD exit bl n p).2.1 i)
  full : zdJ exit bl n ins = ins → zaB (zdJ exit bl n ins) = zaB ins → ∀ i, i < n → ∀ x ∈ endB ins ((bl.map (·.stmts)).getD i []), x ∈ ((ziD exit bl n p).2.1 i).keys
theorem LinkB.pass {U exit : List Int} {bl : List Bl} (hU : UnivB U exit bl) : ∀ (n : Nat) {p : BS} {ins : List (List Int)}, LinkB exit bl p ins → n ≤ bl.length → (∀ i, SetU U (p.1 i)) → (∀ i, SetU U (p.2.1 i)) → PassB U exit bl n p ins
  | 0, p, ins, h, _, hS, hT => ⟨h, by show p.2.2 = true ↔ _ ∨ zaB ins < zaB ins; simp, hS, hT, fun _ _ i hi => absurd hi (Nat.not_lt_zero _)⟩
  | n + 1, p, ins, h, hn, hS, hT => by
    obtain ⟨l1, c1⟩ := h.step hU (b := n) (by omega) hS hT
    obtain ⟨s1, t1⟩ := hU.step p n (by omega) hS hT
    obtain ⟨m1, m2⟩ := h.inv.total_step (i := n) (by omega)
    obtain ⟨_, m3, m4⟩ := l1.inv.pass (n := n) (by omega)
    have ih := LinkB.pass hU n l1 (by omega) s1 t1
    have e1 : ziD exit bl (n + 1) p = ziD exit bl n (stM exit bl p n) := rfl
    have e2 : zdJ exit bl (n + 1) ins = zdJ exit bl n (zdC exit bl ins n) := rfl
    refine ⟨by rw [e1, e2]; exact ih.link, ?_, by rw [e1]; exact ih.s, by rw [e1]; exact ih.t, fun _ htot i hi x hx => ?_⟩
    · rw [e1, e2, ih.ch, c1, or_assoc]
      refine or_congr_right ?_
      omega
    · rw [e2] at htot
      have e3 := m2 (by omega)
      rw [e1]
      by_cases hin : i = n
      · subst hin
        rw [zmq i (Nat.le_refl _)]
        have hb : i < bl.length := by omega
        have ho := (h.out hb x).2 hx
        unfold stM
        generalize hg : (bl.map (·.stmts)).getD i [] = sts at ho hx ⊢
        simp only
        split
        · rename_i hz
          obtain rfl : sts = [] := List.eq_nil_of_length_eq_zero hz
          obtain ⟨t, h1, _⟩ := zea.1 hx
          cases h1
        · exact ho
      · have e4 : zdJ exit bl n (zdC exit bl ins n) = zdC exit bl ins n := (m4 (by omega)).1
        exact ih.full e4 (by rw [e4]) i (by omega) x (by rw [e3]; exact hx)
structure RunB (U exit : List Int) (bl : List Bl) (p : BS) (ins : List (List Int)) (k : Nat) : Prop where
  link : LinkB exit bl p ins
  s : ∀ i, SetU U (p.1 i)
  t : ∀ i, SetU U (p.2.1 i)
  fuel : zeV exit bl ≤ k + zaB ins
  go : fixL exit bl k ins = zbB exit bl
  done : p.2.2 = false → ins = zbB exit bl ∧ ∀ i, i < bl.length → ∀ x ∈ endB ins ((bl.map (·.stmts)).getD i []), x ∈ (p.2.1 i).keys
def setB (p : BS) (c : Bool) : BS := (p.1, p.2.1, c)
def runM (exit : List Int) (bl : List Bl) (p : BS) : BS := ziD exit bl bl.length (setB p false)
def zui (exit : List Int) (bl : List Bl) (p : BS) (ins : List (List Int)) : Nat := 2 * (zeV exit bl - zaB ins) + bif p.2.2 then 1 else 0
theorem RunB.next {U exit : List Int} {bl : List Bl} (hU : UnivB U exit bl) {p : BS} {ins : List (List Int)} {k : Nat} (h : RunB U exit bl p ins k) (hc : p.2.2 = true) :
    ∃ ins' k', RunB U exit bl (runM exit bl p) ins' k' ∧ zui exit bl (runM exit bl p) ins' < zui exit bl p ins := by
  have l0 : LinkB exit bl (setB p false) ins := ⟨h.link.inv, h.link.s, h.link.t⟩
  have hp := l0.pass hU bl.length (Nat.le_refl _) h.s h.t
  obtain ⟨i1, i2, i3⟩ := h.link.inv.pass (n := bl.length) (Nat.le_refl _)
  have hb := h.link.inv.bound
  have hb2 := i1.bound
  have hbd : zeV exit bl = bl.length * (univ exit bl).length + 1 := rfl
  have hch := hp.ch
  simp only [setB, Bool.false_eq_true, false_or] at hch
  have hfu := h.fuel
  have hgo := h.go
  cases k with
  | zero => omega
  | succ k =>
  rw [fixL] at hgo
  by_cases he : zaB (zdJ exit bl bl.length ins) = zaB ins
  · rw [if_pos he] at hgo
    obtain ⟨e1, e2⟩ := i3 he.symm
    have hcf : (runM exit bl p).2.2 = false := by
      cases hx : (runM exit bl p).2.2 with
      | false => rfl
      | true => have := hch.1 hx; omega
    refine ⟨ins, k + 1, ⟨?_, hp.s, hp.t, hfu, ?_, fun _ => ⟨hgo, hp.full e1 he⟩⟩, ?_⟩
    · have := hp.link
      rw [e1] at this
      exact this
    · rw [fixL, if_pos he]; exact hgo
    · unfold zui
      rw [hcf, hc]
      simp only [cond_true, cond_false]
      omega
  · rw [if_neg he] at hgo
    have hct : (runM exit bl p).2.2 = true := hch.2 (by omega)
    refine ⟨_, k, ⟨hp.link, hp.s, hp.t, by omega, hgo, fun hx => ?_⟩, ?_⟩
    · rw [hct] at hx; cases hx
    · unfold zui
      rw [hct, hc]
      simp only [cond_true]
      omega
def zxf : BS := (fun _ => (0, []), fun _ => (0, []), true)
theorem RunB.start {U exit : List Int} {bl : List Bl} : RunB U exit bl zxf (bl.map fun _ => []) (zeV exit bl) := by
  have e : ∀ i, (bl.map fun _ => ([] : List Int)).getD i [] = [] := fun i => by
    rw [List.getD_eq_getElem?_getD, List.getElem?_map]
    cases bl[i]? <;> rfl
  exact ⟨⟨zkV exit bl, fun i _ x => by rw [e]; exact Iff.rfl, fun i _ x hx => by cases hx⟩, fun _ => SetU.none, fun _ => SetU.none, by omega, rfl, fun h => by cases h⟩
structure EndB (U exit : List Int) (bl : List Bl) (S T : Nat → MS) : Prop where
  s : ∀ i, SetU U (S i)
  t : ∀ i, SetU U (T i)
  mS : ∀ i, i < bl.length → ∀ x, x ∈ (S i).keys ↔ x ∈ (zbB exit bl).getD i []
  mT : ∀ i, i < bl.length → ∀ x, x ∈ (T i).keys ↔ x ∈ zaS exit bl i
theorem RunB.end {U exit : List Int} {bl : List Bl} {p : BS} {ins : List (List Int)} {k : Nat} (h : RunB U exit bl p ins k) (hc : p.2.2 = false) : EndB U exit bl p.1 p.2.1 := by
  obtain ⟨e, hd⟩ := h.done hc
  subst e
  exact ⟨h.s, h.t, h.link.s, fun i hi x => ⟨h.link.t i hi x, hd i hi x⟩⟩
theorem EndB.keyS {U exit : List Int} {bl : List Bl} {S T : Nat → MS} (h : EndB U exit bl S T) {i : Nat} (hi : i < bl.length) : zaj (S i) = (zbB exit bl).getD i [] :=
  ziQ (h.s i).ok ((zmg exit bl).1.asc i) fun x => (h.mS i hi x).symm
theorem EndB.keyT {U exit : List Int} {bl : List Bl} {S T : Nat → MS} (h : EndB U exit bl S T) {i : Nat} (hi : i < bl.length) : zaj (T i) = zaS exit bl i :=
  ziQ (h.t i).ok znb fun x => (h.mT i hi x).symm
theorem bd_l7 {Q : QT} (exit : List Int) (bl : List Bl) (ad : Int) (U : List Int) (hU : UnivB U exit bl)
    (hfin : ∀ S T, EndB U exit bl S T → wpX Tryz.prog 0 z7 Q [(1, za exit), (2, encP 2 [.int .u32 ad, encL 2 Bl.cells bl]), (6, .own 0 0 0 0 bl.length), (7, .own 1 0 0 0 bl.length), (39, .bool false)] (bdH bl.length S T) 4)
    {K : Kn} {H : AH} {nx : Nat} (hent : Ent 0 K H nx [(1, za exit), (2, encP 2 [.int .u32 ad, encL 2 Bl.cells bl]), (6, .own 0 0 0 0 bl.length), (7, .own 1 0 0 0 bl.length), (9, .bool true)] (bdH bl.length (fun _ => (0, [])) (fun _ => (0, []))) 4) :
    zhD Tryz.prog 0 za8 (za3 2 (seqQ Tryz.prog 0 z7 Q)) K H nx := by
  have hB := hBig
  refine zm (fun a : BS × List (List Int) × Nat => ([(1, za exit), (2, encP 2 [.int .u32 ad, encL 2 Bl.cells bl]), (6, .own 0 0 0 0 bl.length), (7, .own 1 0 0 0 bl.length), (9, .bool a.1.2.2)], bdH bl.length a.1.1 a.1.2.1)) 4
    (fun a => RunB U exit bl a.1 a.2.1 a.2.2) (fun a => zui exit bl a.1 a.2.1) (zxf, bl.map fun _ => [], zeV exit bl) RunB.start hent ?_
  rintro ⟨p, ins, k⟩ hrun wf
  simp only at hrun
  unfold za8
  cases hc : p.2.2 with
  | false =>
    (repeat first | simp (disch := try exact dis1) only [evD, Nat.reduceBEq, Nat.reduceAdd, Nat.reduceLeDiff, bdH] | with_reducible intro _ | ((with_reducible apply And.intro); omega))
    exact hfin p.1 p.2.1 (hrun.end hc)
  | true =>
    obtain ⟨ins', k', h1, h2⟩ := hrun.next hU hc
    have hlen := hU.len
    (repeat first | simp (disch := try exact dis1) only [evD, Nat.reduceBEq, Nat.reduceAdd, Nat.reduceLeDiff, fldP, bdH] | with_reducible intro _ | ((with_reducible apply And.intro); omega))
    refine bd_l6 exit bl ad U (runM exit bl p) (setB p false) hlen (fun q k hk hS hT => hU.step q k hk hS hT) hU.cs (fun q k hk hS hT => hU.room q k hk hS hT) rfl hrun.s hrun.t ?_ ?_
    · intro K2 H2 nx2 he
      exact ⟨(_, ins', k'), h1, h2, he⟩
    · exact (Ent.tab [(0, 0, 0), (1, 1, 0), (2, 2, 0), (3, 3, 0)] [] rfl (by (try simp only [evWB, Nat.reduceBEq, Nat.reduceAdd, Nat.reduceSub, Nat.reduceLeDiff, Nat.reduceLT, implies_true, bdH, za, famS, setB]) <;> (repeat' with_reducible apply And.intro) <;> first | (refine zb zc (by decide) ⟨rfl, rfl⟩ ?_; (try simp only [evWB, Nat.reduceBEq, Nat.reduceAdd, Nat.reduceSub, Nat.reduceLeDiff, Nat.reduceLT, implies_true, bdH, za, famS, setB]) <;> (repeat' with_reducible apply And.intro) <;> first | (refine zb zc (by decide) ⟨rfl, rfl⟩ ?_; (try simp only [evWB, Nat.reduceBEq, Nat.reduceAdd, Nat.reduceSub, Nat.reduceLeDiff, Nat.reduceLT, implies_true, bdH, za, famS, setB]) <;> exact fin6; done) | exact fin6; done) | exact fin6) (by (try simp only [evWB, Nat.reduceBEq, Nat.reduceAdd, Nat.reduceSub, Nat.reduceLeDiff, Nat.reduceLT, implies_true, bdH, za, famS, setB]) <;> (repeat' with_reducible apply And.intro) <;> first | (refine zb zc (by decide) ⟨rfl, rfl⟩ ?_; (try simp only [evWB, Nat.reduceBEq, Nat.reduceAdd, Nat.reduceSub, Nat.reduceLeDiff, Nat.reduceLT, implies_true, bdH, za, famS, setB]) <;> (repeat' with_reducible apply And.intro) <;> first | (refine zb zc (by decide) ⟨rfl, rfl⟩ ?_; (try simp only [evWB, Nat.reduceBEq, Nat.reduceAdd, Nat.reduceSub, Nat.reduceLeDiff, Nat.reduceLT, implies_true, bdH, za, famS, setB]) <;> exact fin6; done) | exact fin6; done) | exact fin6))
end Go.Ab
