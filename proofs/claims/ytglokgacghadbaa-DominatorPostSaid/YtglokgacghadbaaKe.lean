/-
  Part 5 of the proof: how the calls of this program run, over values instead of memory, and what each function computes.
-/
import Derived.Test.YtglokgacghadbaaKd
set_option linter.unusedVariables false
set_option linter.unusedSimpArgs false

namespace Go.Ab
open Go.RowKit Go.Proofs

theorem getD_map {α β : Type} {f : α → β} {l : List α} {i : Nat} {d : β} (h : i < l.length) : (l.map f).getD i d = f l[i] := map_getD (List.getElem?_eq_getElem h)

theorem R24_Has_ok (l : List Int) (x : Int) : PureFn Try.prog f_R24_Has [encInts l, .int .i64 x] (· = .bool (decide (x ∈ l))) := by
  refine fn_x cf_R24_Has rfl ?_
  unfold ac_R24_Has
  simp only [evS, evZ, evK, evB, evL, evR, Nat.reduceBEq, Nat.reduceAdd, Nat.reduceLeDiff, boxR, rboxR, allocR, fldR, binI, unR, pickR, mknilR, mkslR, buildSlR, buildR, extR, convI, eqB, evU]
  refine loopX_intro (fun i : Nat => ([(0, encInts l), (1, .int .i64 x), (5, .int .i64 i)], [])) 0 (fun i => i ≤ l.length ∧ x ∉ l.take i) (fun i => l.length - i) 0 ⟨Nat.zero_le _, by simp⟩ (Ent.keep rfl (by (try simp [subK, Kn.get, beq_eq]) <;> (repeat' with_reducible apply And.intro) <;> first | rfl | omega | (simp; done))) ?_
  intro i ⟨h1, h2⟩ wf
  unfold ac_R24_Has_l0
  simp only [evS, evZ, evK, evB, evL, evR, Nat.reduceBEq, Nat.reduceAdd, Nat.reduceLeDiff, boxR, rboxR, allocR, fldR, binI, unR, pickR, mknilR, mkslR, buildSlR, buildR, extR, convI, eqB, evU, encInts]
  refine fun hbig => condX_intro (fun h => ?_) (fun h => ?_)
  · have hi : i < l.length := by simpa using h
    simp only [evS, evZ, evK, evB, evL, evR, Nat.reduceBEq, Nat.reduceAdd, Nat.reduceLeDiff, boxR, rboxR, allocR, fldR, binI, unR, pickR, mknilR, mkslR, buildSlR, buildR, extR, convI, eqB, evU, getD_map hi]
    refine ⟨by omega, fun hr => condX_intro (fun h => ?_) (fun h => ?_)⟩
    · have hx : l[i] = x := by simpa using h
      simp only [evS, evZ, evK, evB, evL, evR, Nat.reduceBEq, Nat.reduceAdd, Nat.reduceLeDiff, boxR, rboxR, allocR, fldR, binI, unR, pickR, mknilR, mkslR, buildSlR, buildR, extR, convI, eqB, evU, rs_R24_Has]
      refine ⟨_, .bool _ _, ?_⟩
      have : x ∈ l := by rw [← hx]; exact List.getElem_mem hi
      simp [this]
    · have hx : l[i] ≠ x := by simpa using h
      simp only [evS, evZ, evK, evB, evL, evR, Nat.reduceBEq, Nat.reduceAdd, Nat.reduceLeDiff, boxR, rboxR, allocR, fldR, binI, unR, pickR, mknilR, mkslR, buildSlR, buildR, extR, convI, eqB, evU]
      refine ⟨i + 1, ⟨hi, ?_⟩, by omega, ?_⟩
      · rw [List.take_add_one, List.getElem?_eq_getElem hi]
        simp only [List.mem_append, not_or, Option.toList, List.mem_singleton]
        exact ⟨h2, fun e => hx e.symm⟩
      · unfold big at hbig
        rw [wrap64 (by omega) (by omega)]
        exact Ent.keep rfl (by (try simp [subK, Kn.get, beq_eq]) <;> (repeat' with_reducible apply And.intro) <;> first | rfl | omega | (simp; done))
  · have hi : ¬ i < l.length := by simpa using h
    unfold ac_R24_Has_k1
    simp only [evS, evZ, evK, evB, evL, evR, Nat.reduceBEq, Nat.reduceAdd, Nat.reduceLeDiff, boxR, rboxR, allocR, fldR, binI, unR, pickR, mknilR, mkslR, buildSlR, buildR, extR, convI, eqB, evU, rs_R24_Has]
    refine ⟨_, .bool _ _, ?_⟩
    have : l.take i = l := List.take_of_length_le (by omega)
    rw [this] at h2
    simp [h2]

theorem R24_targets_ok (b : Blk) : PureFn Try.prog f_R24_targets [.agg b.cells] (· = encInts b.targets) := by
  refine fn_x cf_R24_targets rfl ?_
  unfold ac_R24_targets
  have hB : big = 9223372036854775807 := rfl
  (repeat (first | (simp (disch := (first | omega | (simp only [evF, evL, implies_true, and_self]; done) | fail)) only [evS, evZ, evK, evB, evL, evR, Nat.reduceBEq, Nat.reduceAdd, Nat.reduceLeDiff, boxR, rboxR, allocR, fldR, binI, unR, pickR, mknilR, mkslR, buildSlR, buildR, extR, convI, eqB, evU, wrap64, Blk.cells]) | (with_reducible intro _) | ((with_reducible apply And.intro); omega)))
  (refine condX_intro (fun h => ?_) (fun h => ?_)) <;> (try simp only [decide_eq_true_eq, decide_eq_false_iff_not, Bool.not_eq_true', Bool.not_eq_false', Bool.and_eq_true, Bool.or_eq_true, not_true_eq_false, not_false_eq_true] at h)
  · have h0 : b.stmts = [] := List.eq_nil_of_length_eq_zero (by omega)
    (repeat (first | (simp (disch := (first | omega | (simp only [evF, evL, implies_true, and_self]; done) | fail)) only [evS, evZ, evK, evB, evL, evR, Nat.reduceBEq, Nat.reduceAdd, Nat.reduceLeDiff, boxR, rboxR, allocR, fldR, binI, unR, pickR, mknilR, mkslR, buildSlR, buildR, extR, convI, eqB, evU, wrap64, rs_R24_targets]) | (with_reducible intro _) | ((with_reducible apply And.intro); omega)))
    refine ⟨_, ?_, rfl⟩
    have e : b.targets = [] := by simp [Blk.targets, h0]
    rw [e]
    exact vw_ints (l := []) trivial rfl (Nat.zero_le _)
  · have h0 : 0 < b.stmts.length := by omega
    obtain ⟨s, hs⟩ : ∃ s, b.stmts[b.stmts.length - 1]? = some s := ⟨_, List.getElem?_eq_getElem (by omega)⟩
    have ht : b.targets = if s.op = 6 then [s.next] else if s.op = 7 then [s.next, s.els] else if s.op = 8 then s.cases else [] := by
      have : b.stmts.getLast? = some s := by rw [List.getLast?_eq_getElem?, hs]
      simp [Blk.targets, this]
    have e : (b.stmts.map Stm.cells).getD ((b.stmts.length : Int) - 1).toNat [] = s.cells := by
      rw [show ((b.stmts.length : Int) - 1).toNat = b.stmts.length - 1 by omega]
      exact map_getD hs
    (repeat (first | (simp (disch := (first | omega | (simp only [evF, evL, implies_true, and_self]; done) | fail)) only [evS, evZ, evK, evB, evL, evR, Nat.reduceBEq, Nat.reduceAdd, Nat.reduceLeDiff, boxR, rboxR, allocR, fldR, binI, unR, pickR, mknilR, mkslR, buildSlR, buildR, extR, convI, eqB, evU, wrap64, e, Stm.cells]) | (with_reducible intro _) | ((with_reducible apply And.intro); omega)))
    (refine condX_intro (fun h => ?_) (fun h => ?_)) <;> (try simp only [decide_eq_true_eq, decide_eq_false_iff_not, Bool.not_eq_true', Bool.not_eq_false', Bool.and_eq_true, Bool.or_eq_true, not_true_eq_false, not_false_eq_true] at h)
    · rw [if_pos h] at ht
      (repeat (first | (simp (disch := (first | omega | (simp only [evF, evL, implies_true, and_self]; done) | fail)) only [evS, evZ, evK, evB, evL, evR, Nat.reduceBEq, Nat.reduceAdd, Nat.reduceLeDiff, boxR, rboxR, allocR, fldR, binI, unR, pickR, mknilR, mkslR, buildSlR, buildR, extR, convI, eqB, evU, wrap64, encInts, rs_R24_targets]) | (with_reducible intro _) | ((with_reducible apply And.intro); omega)))
      refine ⟨_, ?_, rfl⟩
      rw [ht]
      exact vw_ints (l := [s.next]) trivial rfl (by simp [big])
    · rw [if_neg h] at ht
      (repeat (first | (simp (disch := (first | omega | (simp only [evF, evL, implies_true, and_self]; done) | fail)) only [evS, evZ, evK, evB, evL, evR, Nat.reduceBEq, Nat.reduceAdd, Nat.reduceLeDiff, boxR, rboxR, allocR, fldR, binI, unR, pickR, mknilR, mkslR, buildSlR, buildR, extR, convI, eqB, evU, wrap64]) | (with_reducible intro _) | ((with_reducible apply And.intro); omega)))
      (refine condX_intro (fun h => ?_) (fun h => ?_)) <;> (try simp only [decide_eq_true_eq, decide_eq_false_iff_not, Bool.not_eq_true', Bool.not_eq_false', Bool.and_eq_true, Bool.or_eq_true, not_true_eq_false, not_false_eq_true] at h)
      · rw [if_pos h] at ht
        (repeat (first | (simp (disch := (first | omega | (simp only [evF, evL, implies_true, and_self]; done) | fail)) only [evS, evZ, evK, evB, evL, evR, Nat.reduceBEq, Nat.reduceAdd, Nat.reduceLeDiff, boxR, rboxR, allocR, fldR, binI, unR, pickR, mknilR, mkslR, buildSlR, buildR, extR, convI, eqB, evU, wrap64, encInts, rs_R24_targets]) | (with_reducible intro _) | ((with_reducible apply And.intro); omega)))
        refine ⟨_, ?_, rfl⟩
        rw [ht]
        exact vw_ints (l := [s.next, s.els]) trivial rfl (by simp [big])
      · rw [if_neg h] at ht
        (repeat (first | (simp (disch := (first | omega | (simp only [evF, evL, implies_true, and_self]; done) | fail)) only [evS, evZ, evK, evB, evL, evR, Nat.reduceBEq, Nat.reduceAdd, Nat.reduceLeDiff, boxR, rboxR, allocR, fldR, binI, unR, pickR, mknilR, mkslR, buildSlR, buildR, extR, convI, eqB, evU, wrap64]) | (with_reducible intro _) | ((with_reducible apply And.intro); omega)))
        (refine condX_intro (fun h => ?_) (fun h => ?_)) <;> (try simp only [decide_eq_true_eq, decide_eq_false_iff_not, Bool.not_eq_true', Bool.not_eq_false', Bool.and_eq_true, Bool.or_eq_true, not_true_eq_false, not_false_eq_true] at h)
        · rw [if_pos h] at ht
          (repeat (first | (simp (disch := (first | omega | (simp only [evF, evL, implies_true, and_self]; done) | fail)) only [evS, evZ, evK, evB, evL, evR, Nat.reduceBEq, Nat.reduceAdd, Nat.reduceLeDiff, boxR, rboxR, allocR, fldR, binI, unR, pickR, mknilR, mkslR, buildSlR, buildR, extR, convI, eqB, evU, wrap64, encInts, rs_R24_targets]) | (with_reducible intro _) | ((with_reducible apply And.intro); omega)))
          refine ⟨_, ?_, rfl⟩
          rw [ht]
          exact .sl _ _ _ _
        · rw [if_neg h] at ht
          (repeat (first | (simp (disch := (first | omega | (simp only [evF, evL, implies_true, and_self]; done) | fail)) only [evS, evZ, evK, evB, evL, evR, Nat.reduceBEq, Nat.reduceAdd, Nat.reduceLeDiff, boxR, rboxR, allocR, fldR, binI, unR, pickR, mknilR, mkslR, buildSlR, buildR, extR, convI, eqB, evU, wrap64, rs_R24_targets]) | (with_reducible intro _) | ((with_reducible apply And.intro); omega)))
          refine ⟨_, ?_, rfl⟩
          rw [ht]
          exact vw_ints (l := []) trivial rfl (Nat.zero_le _)

end Go.Ab

namespace Go.Ab
open Go.RowKit Go.Proofs

def edgeOk (n : Nat) (x : Int) : Bool := decide (0 ≤ x) && decide (x < n)

/-- The successors of the blocks. -/
def Gr.E (g : Gr) : Adj := g.blocks.map fun b => (b.targets.filter (edgeOk g.blocks.length)).map Int.toNat

/-- Few blocks, few edges. -/
def Gr.small (g : Gr) : Prop := g.blocks.length ≤ 1000 ∧ ∀ b ∈ g.blocks, b.targets.length ≤ 1000


theorem Gr.E_len (g : Gr) : g.E.length = g.blocks.length := by simp [Gr.E]
theorem Gr.E_ok (g : Gr) : g.E.ok := by
  intro k n hn
  unfold suc Gr.E at hn
  rw [List.getD_eq_getElem?_getD, List.getElem?_map] at hn
  cases hb : g.blocks[k]? with
  | none => rw [hb] at hn; simp at hn
  | some b =>
    rw [hb] at hn
    simp only [Option.map_some, Option.getD_some, List.mem_map, List.mem_filter, edgeOk, Bool.and_eq_true, decide_eq_true_eq] at hn
    obtain ⟨x, ⟨_, h1, h2⟩, rfl⟩ := hn
    rw [g.E_len]
    omega

theorem encInts_nats (l : List Nat) : encInts (l.map fun (n : Nat) => (n : Int)) = encNats l := by
  simp [encInts, encNats, encL]
  rfl

theorem filter_take_succ {α : Type} {p : α → Bool} {l : List α} {i : Nat} (h : i < l.length) : (l.take (i + 1)).filter p = (l.take i).filter p ++ if p l[i] then [l[i]] else [] := by
  rw [List.take_add_one, List.getElem?_eq_getElem h, List.filter_append]
  cases hp : p l[i] <;> simp [List.filter, hp]
theorem filter_take_le {α : Type} (p : α → Bool) (l : List α) (i : Nat) : ((l.take i).filter p).length ≤ i := Nat.le_trans (List.length_filter_le _ _) (List.length_take_le _ _)

theorem R24_Edges_ok (g : Gr) (hg : g.small) (k : Nat) (hk : k < g.blocks.length) : PureFn Try.prog f_R24_Edges [.agg g.cells, .int .i64 k] (· = encNats (suc g.E k)) := by
  have he : encNats (suc g.E k) = encInts (g.blocks[k].targets.filter (edgeOk g.blocks.length)) := by
    rw [← encInts_nats]
    congr 1
    simp only [suc, Gr.E, getD_map hk, List.map_map]
    conv => rhs; rw [← List.map_id (List.filter _ _)]
    refine List.map_congr_left fun x hx => ?_
    simp only [List.mem_filter, edgeOk, Bool.and_eq_true, decide_eq_true_eq] at hx
    simp only [Function.comp, id]
    omega
  rw [he]
  refine fn_x cf_R24_Edges rfl ?_
  unfold ac_R24_Edges
  have hB : big = 9223372036854775807 := rfl
  have e : (g.blocks.map Blk.cells).getD k [] = g.blocks[k].cells := map_getD (List.getElem?_eq_getElem hk)
  (repeat (first | (simp (disch := (first | omega | (simp only [evF, evL, implies_true, and_self]; done) | fail)) only [evS, evZ, evK, evB, evL, evR, Nat.reduceBEq, Nat.reduceAdd, Nat.reduceLeDiff, boxR, rboxR, allocR, fldR, binI, unR, pickR, mknilR, mkslR, buildSlR, buildR, extR, convI, eqB, evU, wrap64, Gr.cells, e, Blk.two]) | (with_reducible intro _) | ((with_reducible apply And.intro); omega)))
  refine callX_fix (call_flat (R24_targets_ok _) rfl) ?_
  have hsm := hg.2 _ (List.getElem_mem hk)
  generalize g.blocks[k].targets = l at hsm ⊢
  (repeat (first | (simp (disch := (first | omega | (simp only [evF, evL, implies_true, and_self]; done) | fail)) only [evS, evZ, evK, evB, evL, evR, Nat.reduceBEq, Nat.reduceAdd, Nat.reduceLeDiff, boxR, rboxR, allocR, fldR, binI, unR, pickR, mknilR, mkslR, buildSlR, buildR, extR, convI, eqB, evU, wrap64]) | (with_reducible intro _) | ((with_reducible apply And.intro); omega)))
  refine loopX_intro (fun i : Nat => ([(2, encP 2 g.cells), (5, .own 0 0 0 0 ((l.take i).filter (edgeOk g.blocks.length)).length), (6, encInts l), (7, .int .i64 i)], [(0, .row 1 (((l.take i).filter (edgeOk g.blocks.length)).map cI) 0)])) 1 (fun i => i ≤ l.length) (fun i => l.length - i) 0 (Nat.zero_le _) (Ent.tab [(0, 1, 0)] [] rfl (by (try simp only [evW, evK, evB, evL, Nat.reduceBEq, Nat.reduceAdd, Nat.reduceSub, Nat.reduceLeDiff, Nat.reduceLT, implies_true, and_self, Int.natCast_zero, Int.natCast_one, Int.cast_ofNat_Int, evV, encInts, encNats, encBools, encP, Gr.cells]) <;> (repeat' with_reducible apply And.intro) <;> first | omega | exact vw_nats rfl rfl (by omega) | exact vw_ints rfl rfl (by omega) | exact vw_bools rfl rfl (by omega) | exact rowV_fe (fun _ => rfl) | exact rowV_fe_start (c := cN) (fun _ => rfl) rfl | exact rowsV_fam (fun _ => rfl) (by decide) ⟨rfl, rfl⟩ trivial | exact rowsV_fam (fun _ => rfl) (by decide) (fun _ _ => ⟨rfl, rfl⟩) trivial | (simp; done)) (by (try simp only [evW, evK, evB, evL, Nat.reduceBEq, Nat.reduceAdd, Nat.reduceSub, Nat.reduceLeDiff, Nat.reduceLT, implies_true, and_self, Int.natCast_zero, Int.natCast_one, Int.cast_ofNat_Int, evV, encInts, encNats, encBools, encP, Gr.cells]) <;> (repeat' with_reducible apply And.intro) <;> first | omega | exact vw_nats rfl rfl (by omega) | exact vw_ints rfl rfl (by omega) | exact vw_bools rfl rfl (by omega) | exact rowV_fe (fun _ => rfl) | exact rowV_fe_start (c := cN) (fun _ => rfl) rfl | exact rowsV_fam (fun _ => rfl) (by decide) ⟨rfl, rfl⟩ trivial | exact rowsV_fam (fun _ => rfl) (by decide) (fun _ _ => ⟨rfl, rfl⟩) trivial | (simp; done))) ?_
  intro i hi wf
  unfold ac_R24_Edges_l0
  (repeat (first | (simp (disch := (first | omega | (simp only [evF, evL, implies_true, and_self]; done) | fail)) only [evS, evZ, evK, evB, evL, evR, Nat.reduceBEq, Nat.reduceAdd, Nat.reduceLeDiff, boxR, rboxR, allocR, fldR, binI, unR, pickR, mknilR, mkslR, buildSlR, buildR, extR, convI, eqB, evU, wrap64, encInts, encP, Gr.cells]) | (with_reducible intro _) | ((with_reducible apply And.intro); omega)))
  (refine condX_intro (fun h => ?_) (fun h => ?_)) <;> (try simp only [decide_eq_true_eq, decide_eq_false_iff_not, Bool.not_eq_true', Bool.not_eq_false', Bool.and_eq_true, Bool.or_eq_true, not_true_eq_false, not_false_eq_true] at h)
  · have hi' : i < l.length := by omega
    have hs : (l.take (i + 1)).filter (edgeOk g.blocks.length) = (l.take i).filter (edgeOk g.blocks.length) ++ if edgeOk g.blocks.length l[i] then [l[i]] else [] := filter_take_succ hi'
    (repeat (first | (simp (disch := (first | omega | (simp only [evF, evL, implies_true, and_self]; done) | fail)) only [evS, evZ, evK, evB, evL, evR, Nat.reduceBEq, Nat.reduceAdd, Nat.reduceLeDiff, boxR, rboxR, allocR, fldR, binI, unR, pickR, mknilR, mkslR, buildSlR, buildR, extR, convI, eqB, evU, wrap64, getD_map hi']) | (with_reducible intro _) | ((with_reducible apply And.intro); omega)))
    generalize hc : decide (0 ≤ l[i]) = hcb; cases hcb <;> simp only [decide_eq_true_eq, decide_eq_false_iff_not, ne_eq, Classical.not_not] at hc
    · rw [if_neg (by simp [edgeOk, hc])] at hs
      (repeat (first | (simp (disch := (first | omega | (simp only [evF, evL, implies_true, and_self]; done) | fail)) only [evS, evZ, evK, evB, evL, evR, Nat.reduceBEq, Nat.reduceAdd, Nat.reduceLeDiff, boxR, rboxR, allocR, fldR, binI, unR, pickR, mknilR, mkslR, buildSlR, buildR, extR, convI, eqB, evU, wrap64]) | (with_reducible intro _) | ((with_reducible apply And.intro); omega)))
      exact ⟨i + 1, by omega, by omega, (Ent.tab [(0, 0, 0)] [] rfl (by (try simp only [evW, evK, evB, evL, Nat.reduceBEq, Nat.reduceAdd, Nat.reduceSub, Nat.reduceLeDiff, Nat.reduceLT, implies_true, and_self, Int.natCast_zero, Int.natCast_one, Int.cast_ofNat_Int, evV, encInts, encNats, encBools, encP, Gr.cells, hs, List.append_nil]) <;> (repeat' with_reducible apply And.intro) <;> first | omega | exact vw_nats rfl rfl (by omega) | exact vw_ints rfl rfl (by omega) | exact vw_bools rfl rfl (by omega) | exact rowV_fe (fun _ => rfl) | exact rowV_fe_start (c := cN) (fun _ => rfl) rfl | exact rowsV_fam (fun _ => rfl) (by decide) ⟨rfl, rfl⟩ trivial | exact rowsV_fam (fun _ => rfl) (by decide) (fun _ _ => ⟨rfl, rfl⟩) trivial | (simp; done)) (by (try simp only [evW, evK, evB, evL, Nat.reduceBEq, Nat.reduceAdd, Nat.reduceSub, Nat.reduceLeDiff, Nat.reduceLT, implies_true, and_self, Int.natCast_zero, Int.natCast_one, Int.cast_ofNat_Int, evV, encInts, encNats, encBools, encP, Gr.cells, hs, List.append_nil]) <;> (repeat' with_reducible apply And.intro) <;> first | omega | exact vw_nats rfl rfl (by omega) | exact vw_ints rfl rfl (by omega) | exact vw_bools rfl rfl (by omega) | exact rowV_fe (fun _ => rfl) | exact rowV_fe_start (c := cN) (fun _ => rfl) rfl | exact rowsV_fam (fun _ => rfl) (by decide) ⟨rfl, rfl⟩ trivial | exact rowsV_fam (fun _ => rfl) (by decide) (fun _ _ => ⟨rfl, rfl⟩) trivial | (simp; done)))⟩
    · (repeat (first | (simp (disch := (first | omega | (simp only [evF, evL, implies_true, and_self]; done) | fail)) only [evS, evZ, evK, evB, evL, evR, Nat.reduceBEq, Nat.reduceAdd, Nat.reduceLeDiff, boxR, rboxR, allocR, fldR, binI, unR, pickR, mknilR, mkslR, buildSlR, buildR, extR, convI, eqB, evU, wrap64, getD_map hi']) | (with_reducible intro _) | ((with_reducible apply And.intro); omega)))
      (refine condX_intro (fun hd => ?_) (fun hd => ?_)) <;> (try simp only [decide_eq_true_eq, decide_eq_false_iff_not, Bool.not_eq_true', Bool.not_eq_false', Bool.and_eq_true, Bool.or_eq_true, not_true_eq_false, not_false_eq_true] at hd)
      · rw [if_pos (by simp [edgeOk, hc, hd])] at hs
        have hf := filter_take_le (edgeOk g.blocks.length) l i
        (repeat (first | (simp (disch := (first | omega | (simp only [evF, evL, implies_true, and_self]; done) | fail)) only [evS, evZ, evK, evB, evL, evR, Nat.reduceBEq, Nat.reduceAdd, Nat.reduceLeDiff, boxR, rboxR, allocR, fldR, binI, unR, pickR, mknilR, mkslR, buildSlR, buildR, extR, convI, eqB, evU, wrap64, getD_map hi']) | (with_reducible intro _) | ((with_reducible apply And.intro); omega)))
        exact ⟨i + 1, by omega, by omega, (Ent.tab [(0, 0, 1)] [] rfl (by (try simp only [evW, evK, evB, evL, Nat.reduceBEq, Nat.reduceAdd, Nat.reduceSub, Nat.reduceLeDiff, Nat.reduceLT, implies_true, and_self, Int.natCast_zero, Int.natCast_one, Int.cast_ofNat_Int, evV, encInts, encNats, encBools, encP, Gr.cells, hs, List.append_nil]) <;> (repeat' with_reducible apply And.intro) <;> first | omega | exact vw_nats rfl rfl (by omega) | exact vw_ints rfl rfl (by omega) | exact vw_bools rfl rfl (by omega) | exact rowV_fe (fun _ => rfl) | exact rowV_fe_start (c := cN) (fun _ => rfl) rfl | exact rowsV_fam (fun _ => rfl) (by decide) ⟨rfl, rfl⟩ trivial | exact rowsV_fam (fun _ => rfl) (by decide) (fun _ _ => ⟨rfl, rfl⟩) trivial | (simp; done)) (by (try simp only [evW, evK, evB, evL, Nat.reduceBEq, Nat.reduceAdd, Nat.reduceSub, Nat.reduceLeDiff, Nat.reduceLT, implies_true, and_self, Int.natCast_zero, Int.natCast_one, Int.cast_ofNat_Int, evV, encInts, encNats, encBools, encP, Gr.cells, hs, List.append_nil]) <;> (repeat' with_reducible apply And.intro) <;> first | omega | exact vw_nats rfl rfl (by omega) | exact vw_ints rfl rfl (by omega) | exact vw_bools rfl rfl (by omega) | exact rowV_fe (fun _ => rfl) | exact rowV_fe_start (c := cN) (fun _ => rfl) rfl | exact rowsV_fam (fun _ => rfl) (by decide) ⟨rfl, rfl⟩ trivial | exact rowsV_fam (fun _ => rfl) (by decide) (fun _ _ => ⟨rfl, rfl⟩) trivial | (simp; done)))⟩
      · rw [if_neg (by simp [edgeOk, hc, hd])] at hs
        (repeat (first | (simp (disch := (first | omega | (simp only [evF, evL, implies_true, and_self]; done) | fail)) only [evS, evZ, evK, evB, evL, evR, Nat.reduceBEq, Nat.reduceAdd, Nat.reduceLeDiff, boxR, rboxR, allocR, fldR, binI, unR, pickR, mknilR, mkslR, buildSlR, buildR, extR, convI, eqB, evU, wrap64]) | (with_reducible intro _) | ((with_reducible apply And.intro); omega)))
        exact ⟨i + 1, by omega, by omega, (Ent.tab [(0, 0, 0)] [] rfl (by (try simp only [evW, evK, evB, evL, Nat.reduceBEq, Nat.reduceAdd, Nat.reduceSub, Nat.reduceLeDiff, Nat.reduceLT, implies_true, and_self, Int.natCast_zero, Int.natCast_one, Int.cast_ofNat_Int, evV, encInts, encNats, encBools, encP, Gr.cells, hs, List.append_nil]) <;> (repeat' with_reducible apply And.intro) <;> first | omega | exact vw_nats rfl rfl (by omega) | exact vw_ints rfl rfl (by omega) | exact vw_bools rfl rfl (by omega) | exact rowV_fe (fun _ => rfl) | exact rowV_fe_start (c := cN) (fun _ => rfl) rfl | exact rowsV_fam (fun _ => rfl) (by decide) ⟨rfl, rfl⟩ trivial | exact rowsV_fam (fun _ => rfl) (by decide) (fun _ _ => ⟨rfl, rfl⟩) trivial | (simp; done)) (by (try simp only [evW, evK, evB, evL, Nat.reduceBEq, Nat.reduceAdd, Nat.reduceSub, Nat.reduceLeDiff, Nat.reduceLT, implies_true, and_self, Int.natCast_zero, Int.natCast_one, Int.cast_ofNat_Int, evV, encInts, encNats, encBools, encP, Gr.cells, hs, List.append_nil]) <;> (repeat' with_reducible apply And.intro) <;> first | omega | exact vw_nats rfl rfl (by omega) | exact vw_ints rfl rfl (by omega) | exact vw_bools rfl rfl (by omega) | exact rowV_fe (fun _ => rfl) | exact rowV_fe_start (c := cN) (fun _ => rfl) rfl | exact rowsV_fam (fun _ => rfl) (by decide) ⟨rfl, rfl⟩ trivial | exact rowsV_fam (fun _ => rfl) (by decide) (fun _ _ => ⟨rfl, rfl⟩) trivial | (simp; done)))⟩
  · unfold ac_R24_Edges_k1
    (repeat (first | (simp (disch := (first | omega | (simp only [evF, evL, implies_true, and_self]; done) | fail)) only [evS, evZ, evK, evB, evL, evR, Nat.reduceBEq, Nat.reduceAdd, Nat.reduceLeDiff, boxR, rboxR, allocR, fldR, binI, unR, pickR, mknilR, mkslR, buildSlR, buildR, extR, convI, eqB, evU, wrap64, rs_R24_Edges]) | (with_reducible intro _) | ((with_reducible apply And.intro); omega)))
    refine ⟨_, ?_, rfl⟩
    rw [List.take_of_length_le (show l.length ≤ i by omega)]
    have := List.length_filter_le (edgeOk g.blocks.length) l
    exact vw_ints (l := l.filter (edgeOk g.blocks.length)) trivial rfl (by omega)

/-! ### ref.Has over lists of nodes -/

theorem mem_cast (l : List Nat) (x : Int) : (x ∈ l.map fun (n : Nat) => (n : Int)) ↔ ∃ n ∈ l, (n : Int) = x := by simp
theorem mem_castN (l : List Nat) (x : Nat) : ((x : Int) ∈ l.map fun (n : Nat) => (n : Int)) ↔ x ∈ l := by
  rw [mem_cast]
  exact ⟨fun ⟨n, h, e⟩ => by rw [show x = n by omega]; exact h, fun h => ⟨x, h, rfl⟩⟩

theorem R24_HasN_ok (l : List Nat) (x : Nat) : PureFn Try.prog f_R24_Has [encNats l, .int .i64 x] (· = .bool (decide (x ∈ l))) := by
  have := R24_Has_ok (l.map fun (n : Nat) => (n : Int)) x
  rw [encInts_nats] at this
  simpa only [mem_castN] using this

theorem hasN_own {H : AH} {nx r q g : Nat} {l : List Nat} {x : Nat} (hg : H.get r q = some (.row 1 (l.map cN) g)) (hb : l.length ≤ big) :
    CallFix Try.prog f_R24_Has [.own r q g 0 l.length, .int .i64 x] H nx (.bool (decide (x ∈ l))) :=
  call_fix (D := fun a b => a = r ∧ b = q) (R24_HasN_ok l x) (.cons (vw_nats ⟨rfl, rfl⟩ hg hb) (.cons (.int _ _ _) .nil)) (.inl rfl)

theorem hasN_flat {H : AH} {nx : Nat} {l : List Nat} {x : Nat} : CallFix Try.prog f_R24_Has [encNats l, .int .i64 x] H nx (.bool (decide (x ∈ l))) := call_flat (R24_HasN_ok l x) rfl

end Go.Ab

namespace Go.Ab
open Go.RowKit Go.Proofs

/-- Lists of lists. -/
def encLL (A : List (List Int)) : AV := encL 1 (fun r => [encInts r]) A

theorem take_succ_eq {α : Type} {A B : List α} {i : Nat} (h : A.take i = B.take i) (ha : i < A.length) (hb : i < B.length) (he : A[i] = B[i]) : A.take (i + 1) = B.take (i + 1) := by
  rw [List.take_add_one, List.take_add_one, h, List.getElem?_eq_getElem ha, List.getElem?_eq_getElem hb, he]

theorem R24_Lists_ok (A B : List (List Int)) : PureFn Try.prog f_R24_Lists [encLL A, encLL B] (· = .bool (decide (A = B))) := by
  refine fn_x cf_R24_Lists rfl ?_
  unfold ac_R24_Lists
  have hB : big = 9223372036854775807 := rfl
  (repeat (first | (simp (disch := (first | omega | (simp only [evF, evL, implies_true, and_self]; done) | fail)) only [evS, evZ, evK, evB, evL, evR, Nat.reduceBEq, Nat.reduceAdd, Nat.reduceLeDiff, boxR, rboxR, allocR, fldR, binI, unR, pickR, mknilR, mkslR, buildSlR, buildR, extR, convI, eqB, evU, wrap64, encLL]) | (with_reducible intro _) | ((with_reducible apply And.intro); omega)))
  (refine condX_intro (fun h => ?_) (fun h => ?_)) <;> (try simp only [decide_eq_true_eq, decide_eq_false_iff_not, Bool.not_eq_true', Bool.not_eq_false', Bool.and_eq_true, Bool.or_eq_true, not_true_eq_false, not_false_eq_true] at h)
  · (repeat (first | (simp (disch := (first | omega | (simp only [evF, evL, implies_true, and_self]; done) | fail)) only [evS, evZ, evK, evB, evL, evR, Nat.reduceBEq, Nat.reduceAdd, Nat.reduceLeDiff, boxR, rboxR, allocR, fldR, binI, unR, pickR, mknilR, mkslR, buildSlR, buildR, extR, convI, eqB, evU, wrap64, rs_R24_Lists]) | (with_reducible intro _) | ((with_reducible apply And.intro); omega)))
    refine ⟨_, .bool _ _, ?_⟩
    have : A ≠ B := fun e => h (by rw [e])
    simp [this]
  (repeat (first | (simp (disch := (first | omega | (simp only [evF, evL, implies_true, and_self]; done) | fail)) only [evS, evZ, evK, evB, evL, evR, Nat.reduceBEq, Nat.reduceAdd, Nat.reduceLeDiff, boxR, rboxR, allocR, fldR, binI, unR, pickR, mknilR, mkslR, buildSlR, buildR, extR, convI, eqB, evU, wrap64]) | (with_reducible intro _) | ((with_reducible apply And.intro); omega)))
  have hl : A.length = B.length := by omega
  refine loopX_intro (fun i : Nat => ([(0, encLL A), (1, encLL B), (5, .int .i64 i)], [])) 0 (fun i => i ≤ A.length ∧ A.take i = B.take i) (fun i => A.length - i) 0 ⟨Nat.zero_le _, by simp⟩ (Ent.keep rfl (by (try simp [subK, Kn.get, beq_eq]) <;> (repeat' with_reducible apply And.intro) <;> first | rfl | omega | (simp; done))) ?_
  intro i ⟨hi, ht⟩ wf
  unfold ac_R24_Lists_l2
  (repeat (first | (simp (disch := (first | omega | (simp only [evF, evL, implies_true, and_self]; done) | fail)) only [evS, evZ, evK, evB, evL, evR, Nat.reduceBEq, Nat.reduceAdd, Nat.reduceLeDiff, boxR, rboxR, allocR, fldR, binI, unR, pickR, mknilR, mkslR, buildSlR, buildR, extR, convI, eqB, evU, wrap64, encLL]) | (with_reducible intro _) | ((with_reducible apply And.intro); omega)))
  (refine condX_intro (fun h2 => ?_) (fun h2 => ?_)) <;> (try simp only [decide_eq_true_eq, decide_eq_false_iff_not, Bool.not_eq_true', Bool.not_eq_false', Bool.and_eq_true, Bool.or_eq_true, not_true_eq_false, not_false_eq_true] at h2)
  · have ha : i < A.length := by omega
    have hb : i < B.length := by omega
    (repeat (first | (simp (disch := (first | omega | (simp only [evF, evL, implies_true, and_self]; done) | fail)) only [evS, evZ, evK, evB, evL, evR, Nat.reduceBEq, Nat.reduceAdd, Nat.reduceLeDiff, boxR, rboxR, allocR, fldR, binI, unR, pickR, mknilR, mkslR, buildSlR, buildR, extR, convI, eqB, evU, wrap64, encLL, getD_map ha, getD_map hb, encInts]) | (with_reducible intro _) | ((with_reducible apply And.intro); omega)))
    (refine condX_intro (fun h3 => ?_) (fun h3 => ?_)) <;> (try simp only [decide_eq_true_eq, decide_eq_false_iff_not, Bool.not_eq_true', Bool.not_eq_false', Bool.and_eq_true, Bool.or_eq_true, not_true_eq_false, not_false_eq_true] at h3)
    · (repeat (first | (simp (disch := (first | omega | (simp only [evF, evL, implies_true, and_self]; done) | fail)) only [evS, evZ, evK, evB, evL, evR, Nat.reduceBEq, Nat.reduceAdd, Nat.reduceLeDiff, boxR, rboxR, allocR, fldR, binI, unR, pickR, mknilR, mkslR, buildSlR, buildR, extR, convI, eqB, evU, wrap64, rs_R24_Lists]) | (with_reducible intro _) | ((with_reducible apply And.intro); omega)))
      refine ⟨_, .bool _ _, ?_⟩
      have : A ≠ B := fun e => by subst e; exact h3 rfl
      simp [this]
    (repeat (first | (simp (disch := (first | omega | (simp only [evF, evL, implies_true, and_self]; done) | fail)) only [evS, evZ, evK, evB, evL, evR, Nat.reduceBEq, Nat.reduceAdd, Nat.reduceLeDiff, boxR, rboxR, allocR, fldR, binI, unR, pickR, mknilR, mkslR, buildSlR, buildR, extR, convI, eqB, evU, wrap64]) | (with_reducible intro _) | ((with_reducible apply And.intro); omega)))
    have hl2 : A[i].length = B[i].length := by omega
    refine loopX_intro (fun k : Nat => ([(0, encLL A), (1, encLL B), (5, .int .i64 i), (6, .int .i64 k)], [])) 0 (fun k => k ≤ A[i].length ∧ A[i].take k = B[i].take k) (fun k => A[i].length - k) 0 ⟨Nat.zero_le _, by simp⟩ (Ent.keep rfl (by (try simp [subK, Kn.get, beq_eq]) <;> (repeat' with_reducible apply And.intro) <;> first | rfl | omega | (simp; done))) ?_
    intro k ⟨hk, htk⟩ wf
    unfold ac_R24_Lists_l0
    (repeat (first | (simp (disch := (first | omega | (simp only [evF, evL, implies_true, and_self]; done) | fail)) only [evS, evZ, evK, evB, evL, evR, Nat.reduceBEq, Nat.reduceAdd, Nat.reduceLeDiff, boxR, rboxR, allocR, fldR, binI, unR, pickR, mknilR, mkslR, buildSlR, buildR, extR, convI, eqB, evU, wrap64, encLL, getD_map ha, encInts]) | (with_reducible intro _) | ((with_reducible apply And.intro); omega)))
    (refine condX_intro (fun h4 => ?_) (fun h4 => ?_)) <;> (try simp only [decide_eq_true_eq, decide_eq_false_iff_not, Bool.not_eq_true', Bool.not_eq_false', Bool.and_eq_true, Bool.or_eq_true, not_true_eq_false, not_false_eq_true] at h4)
    · have hka : k < A[i].length := by omega
      have hkb : k < B[i].length := by omega
      (repeat (first | (simp (disch := (first | omega | (simp only [evF, evL, implies_true, and_self]; done) | fail)) only [evS, evZ, evK, evB, evL, evR, Nat.reduceBEq, Nat.reduceAdd, Nat.reduceLeDiff, boxR, rboxR, allocR, fldR, binI, unR, pickR, mknilR, mkslR, buildSlR, buildR, extR, convI, eqB, evU, wrap64, encLL, getD_map ha, getD_map hb, encInts, getD_map hka, getD_map hkb]) | (with_reducible intro _) | ((with_reducible apply And.intro); omega)))
      (refine condX_intro (fun h5 => ?_) (fun h5 => ?_)) <;> (try simp only [decide_eq_true_eq, decide_eq_false_iff_not, Bool.not_eq_true', Bool.not_eq_false', Bool.and_eq_true, Bool.or_eq_true, not_true_eq_false, not_false_eq_true] at h5)
      · (repeat (first | (simp (disch := (first | omega | (simp only [evF, evL, implies_true, and_self]; done) | fail)) only [evS, evZ, evK, evB, evL, evR, Nat.reduceBEq, Nat.reduceAdd, Nat.reduceLeDiff, boxR, rboxR, allocR, fldR, binI, unR, pickR, mknilR, mkslR, buildSlR, buildR, extR, convI, eqB, evU, wrap64, rs_R24_Lists]) | (with_reducible intro _) | ((with_reducible apply And.intro); omega)))
        refine ⟨_, .bool _ _, ?_⟩
        have : A ≠ B := fun e => by subst e; exact h5 rfl
        simp [this]
      · (repeat (first | (simp (disch := (first | omega | (simp only [evF, evL, implies_true, and_self]; done) | fail)) only [evS, evZ, evK, evB, evL, evR, Nat.reduceBEq, Nat.reduceAdd, Nat.reduceLeDiff, boxR, rboxR, allocR, fldR, binI, unR, pickR, mknilR, mkslR, buildSlR, buildR, extR, convI, eqB, evU, wrap64]) | (with_reducible intro _) | ((with_reducible apply And.intro); omega)))
        exact ⟨k + 1, ⟨by omega, take_succ_eq htk hka hkb (by simpa using h5)⟩, by omega, Ent.keep rfl (by (try simp [subK, Kn.get, beq_eq]) <;> (repeat' with_reducible apply And.intro) <;> first | rfl | omega | (simp; done))⟩
    · unfold ac_R24_Lists_k1
      (repeat (first | (simp (disch := (first | omega | (simp only [evF, evL, implies_true, and_self]; done) | fail)) only [evS, evZ, evK, evB, evL, evR, Nat.reduceBEq, Nat.reduceAdd, Nat.reduceLeDiff, boxR, rboxR, allocR, fldR, binI, unR, pickR, mknilR, mkslR, buildSlR, buildR, extR, convI, eqB, evU, wrap64]) | (with_reducible intro _) | ((with_reducible apply And.intro); omega)))
      rw [List.take_of_length_le (show A[i].length ≤ k by omega), List.take_of_length_le (show B[i].length ≤ k by omega)] at htk
      exact ⟨i + 1, ⟨by omega, take_succ_eq ht ha hb htk⟩, by omega, Ent.keep rfl (by (try simp [subK, Kn.get, beq_eq]) <;> (repeat' with_reducible apply And.intro) <;> first | rfl | omega | (simp; done))⟩
  · unfold ac_R24_Lists_k3
    (repeat (first | (simp (disch := (first | omega | (simp only [evF, evL, implies_true, and_self]; done) | fail)) only [evS, evZ, evK, evB, evL, evR, Nat.reduceBEq, Nat.reduceAdd, Nat.reduceLeDiff, boxR, rboxR, allocR, fldR, binI, unR, pickR, mknilR, mkslR, buildSlR, buildR, extR, convI, eqB, evU, wrap64, rs_R24_Lists]) | (with_reducible intro _) | ((with_reducible apply And.intro); omega)))
    refine ⟨_, .bool _ _, ?_⟩
    rw [List.take_of_length_le (show A.length ≤ i by omega), List.take_of_length_le (show B.length ≤ i by omega)] at ht
    simp [ht]

theorem vw_LL {H H2 : AH} {σ : Nat → Nat → Option (Nat × Nat × Nat)} {D : Nat → Nat → Prop} {t : Bool} {r q g : Nat} {l : List (List Int)} (hD : D r q) (hg : H.get r q = some (.row 1 (l.map fun r => [encInts r]) g)) (hb : l.length ≤ big) :
    Vw H H2 σ D t (.own r q g 0 l.length) (encLL l) := by
  refine vw_encL hD hg hb (fun a _ j hj => ?_)
  obtain rfl : j = 0 := by omega
  exact .sl _ _ _ _

theorem R24_Ints_ok (a b : List Int) : PureFn Try.prog f_R24_Ints [encInts a, encInts b] (· = .bool (decide (a = b))) := by
  refine fn_x cf_R24_Ints rfl ?_
  unfold ac_R24_Ints
  (repeat (first | (simp (disch := (first | omega | (simp only [evF, evL, implies_true, and_self]; done) | fail)) only [evS, evZ, evK, evB, evL, evR, Nat.reduceBEq, Nat.reduceAdd, Nat.reduceLeDiff, boxR, rboxR, allocR, fldR, binI, unR, pickR, mknilR, mkslR, buildSlR, buildR, extR, convI, eqB, evU, wrap64, encInts]) | (with_reducible intro _) | ((with_reducible apply And.intro); omega)))
  refine callX_fix (call_fix (D := allR) (R24_Lists_ok [a] [b]) (.cons (vw_LL (l := [a]) trivial rfl (by simp [big])) (.cons (vw_LL (l := [b]) trivial rfl (by simp [big])) .nil)) (.inl rfl)) ?_
  (repeat (first | (simp (disch := (first | omega | (simp only [evF, evL, implies_true, and_self]; done) | fail)) only [evS, evZ, evK, evB, evL, evR, Nat.reduceBEq, Nat.reduceAdd, Nat.reduceLeDiff, boxR, rboxR, allocR, fldR, binI, unR, pickR, mknilR, mkslR, buildSlR, buildR, extR, convI, eqB, evU, wrap64, rs_R24_Ints]) | (with_reducible intro _) | ((with_reducible apply And.intro); omega)))
  refine ⟨_, .bool _ _, ?_⟩
  simp

end Go.Ab

namespace Go.Ab
open Go.RowKit Go.Proofs

/-- A list of different nodes. -/
structure NdL (n : Nat) (l : List Nat) : Prop where
  nd : l.Nodup
  lt : ∀ b ∈ l, b < n

theorem NdL.len {n : Nat} {l : List Nat} (h : NdL n l) : l.length ≤ n := by
  obtain ⟨h1, h2⟩ := h
  induction n generalizing l with
  | zero =>
    cases l with
    | nil => exact Nat.le_refl _
    | cons b l => exact absurd (h2 b (by simp)) (by omega)
  | succ n ih =>
    by_cases hn : n ∈ l
    · have := ih (h1.erase n) (fun b hb => by
        have h3 := h2 b (List.mem_of_mem_erase hb)
        have h4 := (h1.mem_erase_iff.1 hb).1
        omega)
      rw [List.length_erase_of_mem hn] at this
      omega
    · have := ih h1 (fun b hb => by
        have h3 := h2 b hb
        have h4 : b ≠ n := fun e => hn (e ▸ hb)
        omega)
      omega

theorem NdL.add {n : Nat} {l : List Nat} (h : NdL n l) {x : Int} {c : Nat} (hc : c < n) : NdL n (fromAdd x l c) := by
  unfold fromAdd
  split
  · rename_i hx
    refine ⟨?_, fun b hb => ?_⟩
    · rw [List.nodup_append]
      exact ⟨h.nd, by simp, fun a ha b hb => by simp at hb; subst hb; exact fun e => hx.2 (e ▸ ha)⟩
    · rcases List.mem_append.1 hb with hb | hb
      · exact h.lt b hb
      · simp at hb; subst hb; exact hc
  · exact h

theorem NdL.fold {n : Nat} {x : Int} : ∀ {cs l : List Nat}, NdL n l → (∀ c ∈ cs, c < n) → NdL n (cs.foldl (fromAdd x) l)
  | [], l, h, _ => h
  | c :: cs, l, h, hc => show NdL n (cs.foldl (fromAdd x) (fromAdd x l c)) from NdL.fold (x := x) (h.add (x := x) (hc c (by simp))) (fun d hd => hc d (by simp [hd]))

theorem fromAdd_len (x : Int) (l : List Nat) (c : Nat) : l.length ≤ (fromAdd x l c).length := by
  unfold fromAdd
  split <;> simp

theorem fold_len (x : Int) : ∀ (cs l : List Nat), l.length ≤ (cs.foldl (fromAdd x) l).length
  | [], l => Nat.le_refl _
  | c :: cs, l => Nat.le_trans (fromAdd_len x l c) (fold_len x cs _)

theorem foldl_take_succ {α β : Type} {f : β → α → β} {b : β} {l : List α} {i : Nat} (h : i < l.length) : (l.take (i + 1)).foldl f b = f ((l.take i).foldl f b) l[i] := by
  rw [List.take_add_one, List.getElem?_eq_getElem h, List.foldl_append]
  rfl

theorem fromGo_step {E : Adj} {x : Int} {f i : Nat} {out : List Nat} (hi : i < out.length) : fromGo E x (f + 1) i out = fromGo E x f (i + 1) ((suc E out[i]).foldl (fromAdd x) out) := by
  simp only [fromGo, List.getElem?_eq_getElem hi]
theorem fromGo_end {E : Adj} {x : Int} {f i : Nat} {out : List Nat} (hi : out.length ≤ i) : fromGo E x f i out = out := by
  cases f with
  | zero => rfl
  | succ f => simp only [fromGo, List.getElem?_eq_none hi]

theorem R24_from_ok (g : Gr) (hg : g.small) (a x : Int) : PureFn Try.prog f_R24_from [.agg g.cells, .int .i64 a, .int .i64 x] (· = encNats (fromL g.E a x)) := by
  refine fn_x cf_R24_from rfl ?_
  unfold ac_R24_from
  have hB : big = 9223372036854775807 := rfl
  have hlen := g.E_len
  (repeat (first | (simp (disch := (first | omega | (simp only [evF, evL, implies_true, and_self]; done) | fail)) only [evS, evZ, evK, evB, evL, evR, Nat.reduceBEq, Nat.reduceAdd, Nat.reduceLeDiff, boxR, rboxR, allocR, fldR, binI, unR, pickR, mknilR, mkslR, buildSlR, buildR, extR, convI, eqB, evU, wrap64, Gr.cells]) | (with_reducible intro _) | ((with_reducible apply And.intro); omega)))
  have bad : (a = x ∨ a < 0 ∨ (g.blocks.length : Int) ≤ a) → fromL g.E a x = [] := fun h => by
    unfold fromL
    rw [hlen, if_pos h]
  generalize h1 : decide (a = x) = h1b; cases h1b <;> simp only [decide_eq_true_eq, decide_eq_false_iff_not, ne_eq, Classical.not_not] at h1
  rotate_left
  · (repeat (first | (simp (disch := (first | omega | (simp only [evF, evL, implies_true, and_self]; done) | fail)) only [evS, evZ, evK, evB, evL, evR, Nat.reduceBEq, Nat.reduceAdd, Nat.reduceLeDiff, boxR, rboxR, allocR, fldR, binI, unR, pickR, mknilR, mkslR, buildSlR, buildR, extR, convI, eqB, evU, wrap64, rs_R24_from]) | (with_reducible intro _) | ((with_reducible apply And.intro); omega)))
    refine ⟨_, ?_, rfl⟩
    rw [bad (.inl h1)]
    exact vw_nats (l := []) trivial rfl (Nat.zero_le _)
  (repeat (first | (simp (disch := (first | omega | (simp only [evF, evL, implies_true, and_self]; done) | fail)) only [evS, evZ, evK, evB, evL, evR, Nat.reduceBEq, Nat.reduceAdd, Nat.reduceLeDiff, boxR, rboxR, allocR, fldR, binI, unR, pickR, mknilR, mkslR, buildSlR, buildR, extR, convI, eqB, evU, wrap64]) | (with_reducible intro _) | ((with_reducible apply And.intro); omega)))
  generalize h2 : decide (a < 0) = h2b; cases h2b <;> simp only [decide_eq_true_eq, decide_eq_false_iff_not, ne_eq, Classical.not_not] at h2
  rotate_left
  · (repeat (first | (simp (disch := (first | omega | (simp only [evF, evL, implies_true, and_self]; done) | fail)) only [evS, evZ, evK, evB, evL, evR, Nat.reduceBEq, Nat.reduceAdd, Nat.reduceLeDiff, boxR, rboxR, allocR, fldR, binI, unR, pickR, mknilR, mkslR, buildSlR, buildR, extR, convI, eqB, evU, wrap64, rs_R24_from]) | (with_reducible intro _) | ((with_reducible apply And.intro); omega)))
    refine ⟨_, ?_, rfl⟩
    rw [bad (.inr (.inl h2))]
    exact vw_nats (l := []) trivial rfl (Nat.zero_le _)
  (repeat (first | (simp (disch := (first | omega | (simp only [evF, evL, implies_true, and_self]; done) | fail)) only [evS, evZ, evK, evB, evL, evR, Nat.reduceBEq, Nat.reduceAdd, Nat.reduceLeDiff, boxR, rboxR, allocR, fldR, binI, unR, pickR, mknilR, mkslR, buildSlR, buildR, extR, convI, eqB, evU, wrap64]) | (with_reducible intro _) | ((with_reducible apply And.intro); omega)))
  (refine condX_intro (fun h3 => ?_) (fun h3 => ?_)) <;> (try simp only [decide_eq_true_eq, decide_eq_false_iff_not, Bool.not_eq_true', Bool.not_eq_false', Bool.and_eq_true, Bool.or_eq_true, not_true_eq_false, not_false_eq_true] at h3)
  · (repeat (first | (simp (disch := (first | omega | (simp only [evF, evL, implies_true, and_self]; done) | fail)) only [evS, evZ, evK, evB, evL, evR, Nat.reduceBEq, Nat.reduceAdd, Nat.reduceLeDiff, boxR, rboxR, allocR, fldR, binI, unR, pickR, mknilR, mkslR, buildSlR, buildR, extR, convI, eqB, evU, wrap64, rs_R24_from]) | (with_reducible intro _) | ((with_reducible apply And.intro); omega)))
    refine ⟨_, ?_, rfl⟩
    rw [bad (.inr (.inr h3))]
    exact vw_nats (l := []) trivial rfl (Nat.zero_le _)
  (repeat (first | (simp (disch := (first | omega | (simp only [evF, evL, implies_true, and_self]; done) | fail)) only [evS, evZ, evK, evB, evL, evR, Nat.reduceBEq, Nat.reduceAdd, Nat.reduceLeDiff, boxR, rboxR, allocR, fldR, binI, unR, pickR, mknilR, mkslR, buildSlR, buildR, extR, convI, eqB, evU, wrap64]) | (with_reducible intro _) | ((with_reducible apply And.intro); omega)))
  have hres : fromL g.E a x = fromGo g.E x g.blocks.length 0 [a.toNat] := by
    unfold fromL
    rw [hlen, if_neg (by omega)]
  rw [hres]
  have ha : (a.toNat : Int) = a := by omega
  generalize hR : fromGo g.E x g.blocks.length 0 [a.toNat] = R
  have hn1 := hg.1
  refine loopX_intro (fun s : Nat × List Nat => ([(2, .int .i64 x), (3, encP 2 g.cells), (7, .own 0 0 0 0 s.2.length), (8, .int .i64 s.1)], [(0, .row 1 (s.2.map cN) 0)])) 1
    (fun s => NdL g.blocks.length s.2 ∧ s.1 ≤ s.2.length ∧ fromGo g.E x (g.blocks.length - s.1) s.1 s.2 = R) (fun s => g.blocks.length - s.1) (0, [a.toNat])
    ⟨⟨by simp, fun b hb => by simp at hb; omega⟩, Nat.zero_le _, hR⟩ (Ent.tab [(0, 1, 1)] [] rfl (by (try simp only [evW, evK, evB, evL, Nat.reduceBEq, Nat.reduceAdd, Nat.reduceSub, Nat.reduceLeDiff, Nat.reduceLT, implies_true, and_self, Int.natCast_zero, Int.natCast_one, Int.cast_ofNat_Int, evV, encInts, encNats, encBools, encP, Gr.cells, ha]) <;> (repeat' with_reducible apply And.intro) <;> first | omega | exact vw_nats rfl rfl (by omega) | exact vw_ints rfl rfl (by omega) | exact vw_bools rfl rfl (by omega) | exact rowV_fe (fun _ => rfl) | exact rowV_fe_start (c := cN) (fun _ => rfl) rfl | exact rowsV_fam (fun _ => rfl) (by decide) ⟨rfl, rfl⟩ trivial | exact rowsV_fam (fun _ => rfl) (by decide) (fun _ _ => ⟨rfl, rfl⟩) trivial | (simp; done)) (by (try simp only [evW, evK, evB, evL, Nat.reduceBEq, Nat.reduceAdd, Nat.reduceSub, Nat.reduceLeDiff, Nat.reduceLT, implies_true, and_self, Int.natCast_zero, Int.natCast_one, Int.cast_ofNat_Int, evV, encInts, encNats, encBools, encP, Gr.cells, ha]) <;> (repeat' with_reducible apply And.intro) <;> first | omega | exact vw_nats rfl rfl (by omega) | exact vw_ints rfl rfl (by omega) | exact vw_bools rfl rfl (by omega) | exact rowV_fe (fun _ => rfl) | exact rowV_fe_start (c := cN) (fun _ => rfl) rfl | exact rowsV_fam (fun _ => rfl) (by decide) ⟨rfl, rfl⟩ trivial | exact rowsV_fam (fun _ => rfl) (by decide) (fun _ _ => ⟨rfl, rfl⟩) trivial | (simp; done))) ?_
  rintro ⟨i, out⟩ ⟨hnd, hi, hgo⟩ wf
  simp only at hnd hi hgo
  have hol := hnd.len
  unfold ac_R24_from_l2
  (repeat (first | (simp (disch := (first | omega | (simp only [evF, evL, implies_true, and_self]; done) | fail)) only [evS, evZ, evK, evB, evL, evR, Nat.reduceBEq, Nat.reduceAdd, Nat.reduceLeDiff, boxR, rboxR, allocR, fldR, binI, unR, pickR, mknilR, mkslR, buildSlR, buildR, extR, convI, eqB, evU, wrap64, encP, Gr.cells]) | (with_reducible intro _) | ((with_reducible apply And.intro); omega)))
  (refine condX_intro (fun h4 => ?_) (fun h4 => ?_)) <;> (try simp only [decide_eq_true_eq, decide_eq_false_iff_not, Bool.not_eq_true', Bool.not_eq_false', Bool.and_eq_true, Bool.or_eq_true, not_true_eq_false, not_false_eq_true] at h4)
  · have hio : i < out.length := by omega
    have hob := hnd.lt out[i] (List.getElem_mem hio)
    (repeat (first | (simp (disch := (first | omega | (simp only [evF, evL, implies_true, and_self]; done) | fail)) only [evS, evZ, evK, evB, evL, evR, Nat.reduceBEq, Nat.reduceAdd, Nat.reduceLeDiff, boxR, rboxR, allocR, fldR, binI, unR, pickR, mknilR, mkslR, buildSlR, buildR, extR, convI, eqB, evU, wrap64, getD_map hio, Gr.two]) | (with_reducible intro _) | ((with_reducible apply And.intro); omega)))
    refine callqX_fix (call_flat (R24_Edges_ok g hg out[i] hob) rfl) ?_
    have hE : ∀ c ∈ suc g.E out[i], c < g.blocks.length := fun c hc => by rw [← hlen]; exact g.E_ok _ c hc
    have hEl : (suc g.E out[i]).length ≤ 1000 := by
      simp only [suc, Gr.E, getD_map hob, List.length_map]
      exact Nat.le_trans (List.length_filter_le _ _) (hg.2 _ (List.getElem_mem hob))
    rw [show g.blocks.length - i = (g.blocks.length - (i + 1)) + 1 by omega, fromGo_step hio] at hgo
    generalize suc g.E out[i] = cs at hE hEl hgo ⊢
    (repeat (first | (simp (disch := (first | omega | (simp only [evF, evL, implies_true, and_self]; done) | fail)) only [evS, evZ, evK, evB, evL, evR, Nat.reduceBEq, Nat.reduceAdd, Nat.reduceLeDiff, boxR, rboxR, allocR, fldR, binI, unR, pickR, mknilR, mkslR, buildSlR, buildR, extR, convI, eqB, evU, wrap64]) | (with_reducible intro _) | ((with_reducible apply And.intro); omega)))
    refine loopX_intro (fun k : Nat => ([(2, .int .i64 x), (3, encP 2 g.cells), (7, .own 0 0 0 0 ((cs.take k).foldl (fromAdd x) out).length), (8, .int .i64 i), (9, encNats cs), (10, .int .i64 k)], [(0, .row 1 (((cs.take k).foldl (fromAdd x) out).map cN) 0)])) 1
      (fun k => k ≤ cs.length) (fun k => cs.length - k) 0 (Nat.zero_le _) (Ent.tab [(0, 0, 0)] [] rfl (by (try simp only [evW, evK, evB, evL, Nat.reduceBEq, Nat.reduceAdd, Nat.reduceSub, Nat.reduceLeDiff, Nat.reduceLT, implies_true, and_self, Int.natCast_zero, Int.natCast_one, Int.cast_ofNat_Int, evV, encInts, encNats, encBools, encP, Gr.cells, List.foldl_nil]) <;> (repeat' with_reducible apply And.intro) <;> first | omega | exact vw_nats rfl rfl (by omega) | exact vw_ints rfl rfl (by omega) | exact vw_bools rfl rfl (by omega) | exact rowV_fe (fun _ => rfl) | exact rowV_fe_start (c := cN) (fun _ => rfl) rfl | exact rowsV_fam (fun _ => rfl) (by decide) ⟨rfl, rfl⟩ trivial | exact rowsV_fam (fun _ => rfl) (by decide) (fun _ _ => ⟨rfl, rfl⟩) trivial | (simp; done)) (by (try simp only [evW, evK, evB, evL, Nat.reduceBEq, Nat.reduceAdd, Nat.reduceSub, Nat.reduceLeDiff, Nat.reduceLT, implies_true, and_self, Int.natCast_zero, Int.natCast_one, Int.cast_ofNat_Int, evV, encInts, encNats, encBools, encP, Gr.cells, List.foldl_nil]) <;> (repeat' with_reducible apply And.intro) <;> first | omega | exact vw_nats rfl rfl (by omega) | exact vw_ints rfl rfl (by omega) | exact vw_bools rfl rfl (by omega) | exact rowV_fe (fun _ => rfl) | exact rowV_fe_start (c := cN) (fun _ => rfl) rfl | exact rowsV_fam (fun _ => rfl) (by decide) ⟨rfl, rfl⟩ trivial | exact rowsV_fam (fun _ => rfl) (by decide) (fun _ _ => ⟨rfl, rfl⟩) trivial | (simp; done))) ?_
    intro k hk wf
    unfold ac_R24_from_l0
    (repeat (first | (simp (disch := (first | omega | (simp only [evF, evL, implies_true, and_self]; done) | fail)) only [evS, evZ, evK, evB, evL, evR, Nat.reduceBEq, Nat.reduceAdd, Nat.reduceLeDiff, boxR, rboxR, allocR, fldR, binI, unR, pickR, mknilR, mkslR, buildSlR, buildR, extR, convI, eqB, evU, wrap64, encP, Gr.cells, encNats]) | (with_reducible intro _) | ((with_reducible apply And.intro); omega)))
    have hnd2 := hnd.fold (x := x) (cs := cs.take k) (fun c hc => hE c (List.mem_of_mem_take hc))
    have hl2 := hnd2.len
    (refine condX_intro (fun h5 => ?_) (fun h5 => ?_)) <;> (try simp only [decide_eq_true_eq, decide_eq_false_iff_not, Bool.not_eq_true', Bool.not_eq_false', Bool.and_eq_true, Bool.or_eq_true, not_true_eq_false, not_false_eq_true] at h5)
    · have hkc : k < cs.length := by omega
      have hst := foldl_take_succ (f := fromAdd x) (b := out) hkc
      generalize (cs.take k).foldl (fromAdd x) out = o2 at hnd2 hl2 hst ⊢
      (repeat (first | (simp (disch := (first | omega | (simp only [evF, evL, implies_true, and_self]; done) | fail)) only [evS, evZ, evK, evB, evL, evR, Nat.reduceBEq, Nat.reduceAdd, Nat.reduceLeDiff, boxR, rboxR, allocR, fldR, binI, unR, pickR, mknilR, mkslR, buildSlR, buildR, extR, convI, eqB, evU, wrap64, getD_map hkc]) | (with_reducible intro _) | ((with_reducible apply And.intro); omega)))
      have same : ¬ ((cs[k] : Int) ≠ x ∧ cs[k] ∉ o2) → fromAdd x o2 cs[k] = o2 := fun h => by unfold fromAdd; rw [if_neg h]
      generalize h6 : decide ((cs[k] : Int) ≠ x) = h6b; cases h6b <;> simp only [decide_eq_true_eq, decide_eq_false_iff_not, ne_eq, Classical.not_not] at h6
      · rw [same (fun h => h.1 h6)] at hst
        (repeat (first | (simp (disch := (first | omega | (simp only [evF, evL, implies_true, and_self]; done) | fail)) only [evS, evZ, evK, evB, evL, evR, Nat.reduceBEq, Nat.reduceAdd, Nat.reduceLeDiff, boxR, rboxR, allocR, fldR, binI, unR, pickR, mknilR, mkslR, buildSlR, buildR, extR, convI, eqB, evU, wrap64]) | (with_reducible intro _) | ((with_reducible apply And.intro); omega)))
        exact ⟨k + 1, by omega, by omega, (Ent.tab [(0, 0, 0)] [] rfl (by (try simp only [evW, evK, evB, evL, Nat.reduceBEq, Nat.reduceAdd, Nat.reduceSub, Nat.reduceLeDiff, Nat.reduceLT, implies_true, and_self, Int.natCast_zero, Int.natCast_one, Int.cast_ofNat_Int, evV, encInts, encNats, encBools, encP, Gr.cells, hst]) <;> (repeat' with_reducible apply And.intro) <;> first | omega | exact vw_nats rfl rfl (by omega) | exact vw_ints rfl rfl (by omega) | exact vw_bools rfl rfl (by omega) | exact rowV_fe (fun _ => rfl) | exact rowV_fe_start (c := cN) (fun _ => rfl) rfl | exact rowsV_fam (fun _ => rfl) (by decide) ⟨rfl, rfl⟩ trivial | exact rowsV_fam (fun _ => rfl) (by decide) (fun _ _ => ⟨rfl, rfl⟩) trivial | (simp; done)) (by (try simp only [evW, evK, evB, evL, Nat.reduceBEq, Nat.reduceAdd, Nat.reduceSub, Nat.reduceLeDiff, Nat.reduceLT, implies_true, and_self, Int.natCast_zero, Int.natCast_one, Int.cast_ofNat_Int, evV, encInts, encNats, encBools, encP, Gr.cells, hst]) <;> (repeat' with_reducible apply And.intro) <;> first | omega | exact vw_nats rfl rfl (by omega) | exact vw_ints rfl rfl (by omega) | exact vw_bools rfl rfl (by omega) | exact rowV_fe (fun _ => rfl) | exact rowV_fe_start (c := cN) (fun _ => rfl) rfl | exact rowsV_fam (fun _ => rfl) (by decide) ⟨rfl, rfl⟩ trivial | exact rowsV_fam (fun _ => rfl) (by decide) (fun _ _ => ⟨rfl, rfl⟩) trivial | (simp; done)))⟩
      · (repeat (first | (simp (disch := (first | omega | (simp only [evF, evL, implies_true, and_self]; done) | fail)) only [evS, evZ, evK, evB, evL, evR, Nat.reduceBEq, Nat.reduceAdd, Nat.reduceLeDiff, boxR, rboxR, allocR, fldR, binI, unR, pickR, mknilR, mkslR, buildSlR, buildR, extR, convI, eqB, evU, wrap64, getD_map hkc]) | (with_reducible intro _) | ((with_reducible apply And.intro); omega)))
        refine callX_fix (hasN_own rfl (by omega)) ?_
        (repeat (first | (simp (disch := (first | omega | (simp only [evF, evL, implies_true, and_self]; done) | fail)) only [evS, evZ, evK, evB, evL, evR, Nat.reduceBEq, Nat.reduceAdd, Nat.reduceLeDiff, boxR, rboxR, allocR, fldR, binI, unR, pickR, mknilR, mkslR, buildSlR, buildR, extR, convI, eqB, evU, wrap64]) | (with_reducible intro _) | ((with_reducible apply And.intro); omega)))
        (refine condX_intro (fun h7 => ?_) (fun h7 => ?_)) <;> (try simp only [decide_eq_true_eq, decide_eq_false_iff_not, Bool.not_eq_true', Bool.not_eq_false', Bool.and_eq_true, Bool.or_eq_true, not_true_eq_false, not_false_eq_true] at h7)
        · have e : fromAdd x o2 cs[k] = o2 ++ [cs[k]] := by unfold fromAdd; rw [if_pos ⟨h6, h7⟩]
          rw [e] at hst
          (repeat (first | (simp (disch := (first | omega | (simp only [evF, evL, implies_true, and_self]; done) | fail)) only [evS, evZ, evK, evB, evL, evR, Nat.reduceBEq, Nat.reduceAdd, Nat.reduceLeDiff, boxR, rboxR, allocR, fldR, binI, unR, pickR, mknilR, mkslR, buildSlR, buildR, extR, convI, eqB, evU, wrap64, getD_map hkc]) | (with_reducible intro _) | ((with_reducible apply And.intro); omega)))
          exact ⟨k + 1, by omega, by omega, (Ent.tab [(0, 0, 1)] [] rfl (by (try simp only [evW, evK, evB, evL, Nat.reduceBEq, Nat.reduceAdd, Nat.reduceSub, Nat.reduceLeDiff, Nat.reduceLT, implies_true, and_self, Int.natCast_zero, Int.natCast_one, Int.cast_ofNat_Int, evV, encInts, encNats, encBools, encP, Gr.cells, hst]) <;> (repeat' with_reducible apply And.intro) <;> first | omega | exact vw_nats rfl rfl (by omega) | exact vw_ints rfl rfl (by omega) | exact vw_bools rfl rfl (by omega) | exact rowV_fe (fun _ => rfl) | exact rowV_fe_start (c := cN) (fun _ => rfl) rfl | exact rowsV_fam (fun _ => rfl) (by decide) ⟨rfl, rfl⟩ trivial | exact rowsV_fam (fun _ => rfl) (by decide) (fun _ _ => ⟨rfl, rfl⟩) trivial | (simp; done)) (by (try simp only [evW, evK, evB, evL, Nat.reduceBEq, Nat.reduceAdd, Nat.reduceSub, Nat.reduceLeDiff, Nat.reduceLT, implies_true, and_self, Int.natCast_zero, Int.natCast_one, Int.cast_ofNat_Int, evV, encInts, encNats, encBools, encP, Gr.cells, hst]) <;> (repeat' with_reducible apply And.intro) <;> first | omega | exact vw_nats rfl rfl (by omega) | exact vw_ints rfl rfl (by omega) | exact vw_bools rfl rfl (by omega) | exact rowV_fe (fun _ => rfl) | exact rowV_fe_start (c := cN) (fun _ => rfl) rfl | exact rowsV_fam (fun _ => rfl) (by decide) ⟨rfl, rfl⟩ trivial | exact rowsV_fam (fun _ => rfl) (by decide) (fun _ _ => ⟨rfl, rfl⟩) trivial | (simp; done)))⟩
        · rw [same (fun h => h.2 h7)] at hst
          (repeat (first | (simp (disch := (first | omega | (simp only [evF, evL, implies_true, and_self]; done) | fail)) only [evS, evZ, evK, evB, evL, evR, Nat.reduceBEq, Nat.reduceAdd, Nat.reduceLeDiff, boxR, rboxR, allocR, fldR, binI, unR, pickR, mknilR, mkslR, buildSlR, buildR, extR, convI, eqB, evU, wrap64]) | (with_reducible intro _) | ((with_reducible apply And.intro); omega)))
          exact ⟨k + 1, by omega, by omega, (Ent.tab [(0, 0, 0)] [] rfl (by (try simp only [evW, evK, evB, evL, Nat.reduceBEq, Nat.reduceAdd, Nat.reduceSub, Nat.reduceLeDiff, Nat.reduceLT, implies_true, and_self, Int.natCast_zero, Int.natCast_one, Int.cast_ofNat_Int, evV, encInts, encNats, encBools, encP, Gr.cells, hst]) <;> (repeat' with_reducible apply And.intro) <;> first | omega | exact vw_nats rfl rfl (by omega) | exact vw_ints rfl rfl (by omega) | exact vw_bools rfl rfl (by omega) | exact rowV_fe (fun _ => rfl) | exact rowV_fe_start (c := cN) (fun _ => rfl) rfl | exact rowsV_fam (fun _ => rfl) (by decide) ⟨rfl, rfl⟩ trivial | exact rowsV_fam (fun _ => rfl) (by decide) (fun _ _ => ⟨rfl, rfl⟩) trivial | (simp; done)) (by (try simp only [evW, evK, evB, evL, Nat.reduceBEq, Nat.reduceAdd, Nat.reduceSub, Nat.reduceLeDiff, Nat.reduceLT, implies_true, and_self, Int.natCast_zero, Int.natCast_one, Int.cast_ofNat_Int, evV, encInts, encNats, encBools, encP, Gr.cells, hst]) <;> (repeat' with_reducible apply And.intro) <;> first | omega | exact vw_nats rfl rfl (by omega) | exact vw_ints rfl rfl (by omega) | exact vw_bools rfl rfl (by omega) | exact rowV_fe (fun _ => rfl) | exact rowV_fe_start (c := cN) (fun _ => rfl) rfl | exact rowsV_fam (fun _ => rfl) (by decide) ⟨rfl, rfl⟩ trivial | exact rowsV_fam (fun _ => rfl) (by decide) (fun _ _ => ⟨rfl, rfl⟩) trivial | (simp; done)))⟩
    · unfold ac_R24_from_k1
      (repeat (first | (simp (disch := (first | omega | (simp only [evF, evL, implies_true, and_self]; done) | fail)) only [evS, evZ, evK, evB, evL, evR, Nat.reduceBEq, Nat.reduceAdd, Nat.reduceLeDiff, boxR, rboxR, allocR, fldR, binI, unR, pickR, mknilR, mkslR, buildSlR, buildR, extR, convI, eqB, evU, wrap64]) | (with_reducible intro _) | ((with_reducible apply And.intro); omega)))
      rw [List.take_of_length_le (show cs.length ≤ k by omega)] at hnd2 ⊢
      have hfl := fold_len x cs out
      exact ⟨(i + 1, cs.foldl (fromAdd x) out), ⟨hnd2, by simp only; omega, hgo⟩, by simp only; omega, (Ent.tab [(0, 0, 0)] [] rfl (by (try simp only [evW, evK, evB, evL, Nat.reduceBEq, Nat.reduceAdd, Nat.reduceSub, Nat.reduceLeDiff, Nat.reduceLT, implies_true, and_self, Int.natCast_zero, Int.natCast_one, Int.cast_ofNat_Int, evV, encInts, encNats, encBools, encP, Gr.cells]) <;> (repeat' with_reducible apply And.intro) <;> first | omega | exact vw_nats rfl rfl (by omega) | exact vw_ints rfl rfl (by omega) | exact vw_bools rfl rfl (by omega) | exact rowV_fe (fun _ => rfl) | exact rowV_fe_start (c := cN) (fun _ => rfl) rfl | exact rowsV_fam (fun _ => rfl) (by decide) ⟨rfl, rfl⟩ trivial | exact rowsV_fam (fun _ => rfl) (by decide) (fun _ _ => ⟨rfl, rfl⟩) trivial | (simp; done)) (by (try simp only [evW, evK, evB, evL, Nat.reduceBEq, Nat.reduceAdd, Nat.reduceSub, Nat.reduceLeDiff, Nat.reduceLT, implies_true, and_self, Int.natCast_zero, Int.natCast_one, Int.cast_ofNat_Int, evV, encInts, encNats, encBools, encP, Gr.cells]) <;> (repeat' with_reducible apply And.intro) <;> first | omega | exact vw_nats rfl rfl (by omega) | exact vw_ints rfl rfl (by omega) | exact vw_bools rfl rfl (by omega) | exact rowV_fe (fun _ => rfl) | exact rowV_fe_start (c := cN) (fun _ => rfl) rfl | exact rowsV_fam (fun _ => rfl) (by decide) ⟨rfl, rfl⟩ trivial | exact rowsV_fam (fun _ => rfl) (by decide) (fun _ _ => ⟨rfl, rfl⟩) trivial | (simp; done)))⟩
  · unfold ac_R24_from_k3
    (repeat (first | (simp (disch := (first | omega | (simp only [evF, evL, implies_true, and_self]; done) | fail)) only [evS, evZ, evK, evB, evL, evR, Nat.reduceBEq, Nat.reduceAdd, Nat.reduceLeDiff, boxR, rboxR, allocR, fldR, binI, unR, pickR, mknilR, mkslR, buildSlR, buildR, extR, convI, eqB, evU, wrap64, rs_R24_from]) | (with_reducible intro _) | ((with_reducible apply And.intro); omega)))
    refine ⟨_, ?_, rfl⟩
    rw [fromGo_end (by omega)] at hgo
    subst hgo
    exact vw_nats trivial rfl (by omega)

end Go.Ab

namespace Go.Ab
open Go.RowKit Go.Proofs

theorem range_map_succ {α : Type} (f : Nat → α) (n : Nat) : (List.range (n + 1)).map f = (List.range n).map f ++ [f n] := by rw [List.range_succ, List.map_append]; rfl
theorem range_filter_succ (p : Nat → Bool) (n : Nat) : (List.range (n + 1)).filter p = (List.range n).filter p ++ if p n then [n] else [] := by
  rw [List.range_succ, List.filter_append]
  cases h : p n <;> simp [List.filter, h]
theorem range_filter_len (p : Nat → Bool) (n : Nat) : ((List.range n).filter p).length ≤ n := by
  have := List.length_filter_le p (List.range n)
  simpa using this
theorem range_map_len {α : Type} (f : Nat → α) (n : Nat) : ((List.range n).map f).length = n := by simp

/-- Lists that grow, as names that 'simp' leaves alone. -/
def mapR {α : Type} (f : Nat → α) (n : Nat) : List α := (List.range n).map f
def filR (p : Nat → Bool) (n : Nat) : List Nat := (List.range n).filter p
theorem mapR_zero {α : Type} {f : Nat → α} : mapR f 0 = [] := rfl
theorem filR_zero {p : Nat → Bool} : filR p 0 = [] := rfl
theorem mapR_succ {α : Type} {f : Nat → α} {n : Nat} : mapR f (n + 1) = mapR f n ++ [f n] := range_map_succ f n
theorem mapR_len {α : Type} {f : Nat → α} {n : Nat} : (mapR f n).length = n := by simp [mapR]
theorem filR_pos {p : Nat → Bool} {n : Nat} (h : p n = true) : filR p (n + 1) = filR p n ++ [n] := by unfold filR; rw [range_filter_succ, h]; rfl
theorem filR_neg {p : Nat → Bool} {n : Nat} (h : p n = false) : filR p (n + 1) = filR p n := by unfold filR; rw [range_filter_succ, h]; simp
theorem filR_le {p : Nat → Bool} {n : Nat} : (filR p n).length ≤ n := range_filter_len p n


theorem R24_Reachable_ok (g : Gr) (hg : g.small) : PureFn Try.prog f_R24_Reachable [.agg g.cells] (· = encBools (reachL g.E)) := by
  refine fn_x cf_R24_Reachable rfl ?_
  unfold ac_R24_Reachable
  have hB : big = 9223372036854775807 := rfl
  have hlen := g.E_len
  have hn := hg.1
  (repeat (first | (simp (disch := (first | omega | (simp only [evF, evL, implies_true, and_self]; done) | fail)) only [evS, evZ, evK, evB, evL, evR, Nat.reduceBEq, Nat.reduceAdd, Nat.reduceLeDiff, boxR, rboxR, allocR, fldR, binI, unR, pickR, mknilR, mkslR, buildSlR, buildR, extR, convI, eqB, evU, wrap64, Gr.cells, Gr.two]) | (with_reducible intro _) | ((with_reducible apply And.intro); omega)))
  refine callX_fix (call_flat (R24_from_ok g hg 0 (-1)) rfl) ?_
  (repeat (first | (simp (disch := (first | omega | (simp only [evF, evL, implies_true, and_self]; done) | fail)) only [evS, evZ, evK, evB, evL, evR, Nat.reduceBEq, Nat.reduceAdd, Nat.reduceLeDiff, boxR, rboxR, allocR, fldR, binI, unR, pickR, mknilR, mkslR, buildSlR, buildR, extR, convI, eqB, evU, wrap64]) | (with_reducible intro _) | ((with_reducible apply And.intro); omega)))
  have hres : reachL g.E = mapR (fun b => decide (b ∈ fromL g.E 0 (-1))) g.blocks.length := by unfold reachL; rw [hlen]; rfl
  rw [hres]
  generalize fromL g.E 0 (-1) = l
  generalize hf : (fun b => decide (b ∈ l)) = f
  have hfi : ∀ i, decide (i ∈ l) = f i := fun i => by rw [← hf]
  refine loopX_intro (fun i : Nat => ([(1, encP 2 g.cells), (3, encNats l), (4, .own 0 0 0 0 (mapR f i).length), (5, .int .i64 i)], [(0, .row 1 ((mapR f i).map cB) 0)])) 1 (fun i => i ≤ g.blocks.length) (fun i => g.blocks.length - i) 0 (Nat.zero_le _) (Ent.tab [(0, 1, 0)] [] rfl (by (try simp only [evW, evK, evB, evL, Nat.reduceBEq, Nat.reduceAdd, Nat.reduceSub, Nat.reduceLeDiff, Nat.reduceLT, implies_true, and_self, Int.natCast_zero, Int.natCast_one, Int.cast_ofNat_Int, evV, encInts, encNats, encBools, encP, Gr.cells, mapR_zero]) <;> (repeat' with_reducible apply And.intro) <;> first | omega | exact vw_nats rfl rfl (by omega) | exact vw_ints rfl rfl (by omega) | exact vw_bools rfl rfl (by omega) | exact rowV_fe (fun _ => rfl) | exact rowV_fe_start (c := cN) (fun _ => rfl) rfl | exact rowsV_fam (fun _ => rfl) (by decide) ⟨rfl, rfl⟩ trivial | exact rowsV_fam (fun _ => rfl) (by decide) (fun _ _ => ⟨rfl, rfl⟩) trivial | (simp; done)) (by (try simp only [evW, evK, evB, evL, Nat.reduceBEq, Nat.reduceAdd, Nat.reduceSub, Nat.reduceLeDiff, Nat.reduceLT, implies_true, and_self, Int.natCast_zero, Int.natCast_one, Int.cast_ofNat_Int, evV, encInts, encNats, encBools, encP, Gr.cells, mapR_zero]) <;> (repeat' with_reducible apply And.intro) <;> first | omega | exact vw_nats rfl rfl (by omega) | exact vw_ints rfl rfl (by omega) | exact vw_bools rfl rfl (by omega) | exact rowV_fe (fun _ => rfl) | exact rowV_fe_start (c := cN) (fun _ => rfl) rfl | exact rowsV_fam (fun _ => rfl) (by decide) ⟨rfl, rfl⟩ trivial | exact rowsV_fam (fun _ => rfl) (by decide) (fun _ _ => ⟨rfl, rfl⟩) trivial | (simp; done))) ?_
  intro i hi wf
  unfold ac_R24_Reachable_l0
  (repeat (first | (simp (disch := (first | omega | (simp only [evF, evL, implies_true, and_self]; done) | fail)) only [evS, evZ, evK, evB, evL, evR, Nat.reduceBEq, Nat.reduceAdd, Nat.reduceLeDiff, boxR, rboxR, allocR, fldR, binI, unR, pickR, mknilR, mkslR, buildSlR, buildR, extR, convI, eqB, evU, wrap64, encP, Gr.cells]) | (with_reducible intro _) | ((with_reducible apply And.intro); omega)))
  have hml := mapR_len (f := f) (n := i)
  (refine condX_intro (fun h => ?_) (fun h => ?_)) <;> (try simp only [decide_eq_true_eq, decide_eq_false_iff_not, Bool.not_eq_true', Bool.not_eq_false', Bool.and_eq_true, Bool.or_eq_true, not_true_eq_false, not_false_eq_true] at h)
  · (repeat (first | (simp (disch := (first | omega | (simp only [evF, evL, implies_true, and_self]; done) | fail)) only [evS, evZ, evK, evB, evL, evR, Nat.reduceBEq, Nat.reduceAdd, Nat.reduceLeDiff, boxR, rboxR, allocR, fldR, binI, unR, pickR, mknilR, mkslR, buildSlR, buildR, extR, convI, eqB, evU, wrap64]) | (with_reducible intro _) | ((with_reducible apply And.intro); omega)))
    refine callX_fix hasN_flat ?_
    rw [hfi]
    (repeat (first | (simp (disch := (first | omega | (simp only [evF, evL, implies_true, and_self]; done) | fail)) only [evS, evZ, evK, evB, evL, evR, Nat.reduceBEq, Nat.reduceAdd, Nat.reduceLeDiff, boxR, rboxR, allocR, fldR, binI, unR, pickR, mknilR, mkslR, buildSlR, buildR, extR, convI, eqB, evU, wrap64]) | (with_reducible intro _) | ((with_reducible apply And.intro); omega)))
    exact ⟨i + 1, by omega, by omega, (Ent.tab [(0, 0, 1)] [] rfl (by (try simp only [evW, evK, evB, evL, Nat.reduceBEq, Nat.reduceAdd, Nat.reduceSub, Nat.reduceLeDiff, Nat.reduceLT, implies_true, and_self, Int.natCast_zero, Int.natCast_one, Int.cast_ofNat_Int, evV, encInts, encNats, encBools, encP, Gr.cells, mapR_succ]) <;> (repeat' with_reducible apply And.intro) <;> first | omega | exact vw_nats rfl rfl (by omega) | exact vw_ints rfl rfl (by omega) | exact vw_bools rfl rfl (by omega) | exact rowV_fe (fun _ => rfl) | exact rowV_fe_start (c := cN) (fun _ => rfl) rfl | exact rowsV_fam (fun _ => rfl) (by decide) ⟨rfl, rfl⟩ trivial | exact rowsV_fam (fun _ => rfl) (by decide) (fun _ _ => ⟨rfl, rfl⟩) trivial | (simp; done)) (by (try simp only [evW, evK, evB, evL, Nat.reduceBEq, Nat.reduceAdd, Nat.reduceSub, Nat.reduceLeDiff, Nat.reduceLT, implies_true, and_self, Int.natCast_zero, Int.natCast_one, Int.cast_ofNat_Int, evV, encInts, encNats, encBools, encP, Gr.cells, mapR_succ]) <;> (repeat' with_reducible apply And.intro) <;> first | omega | exact vw_nats rfl rfl (by omega) | exact vw_ints rfl rfl (by omega) | exact vw_bools rfl rfl (by omega) | exact rowV_fe (fun _ => rfl) | exact rowV_fe_start (c := cN) (fun _ => rfl) rfl | exact rowsV_fam (fun _ => rfl) (by decide) ⟨rfl, rfl⟩ trivial | exact rowsV_fam (fun _ => rfl) (by decide) (fun _ _ => ⟨rfl, rfl⟩) trivial | (simp; done)))⟩
  · unfold ac_R24_Reachable_k1
    (repeat (first | (simp (disch := (first | omega | (simp only [evF, evL, implies_true, and_self]; done) | fail)) only [evS, evZ, evK, evB, evL, evR, Nat.reduceBEq, Nat.reduceAdd, Nat.reduceLeDiff, boxR, rboxR, allocR, fldR, binI, unR, pickR, mknilR, mkslR, buildSlR, buildR, extR, convI, eqB, evU, wrap64, rs_R24_Reachable]) | (with_reducible intro _) | ((with_reducible apply And.intro); omega)))
    refine ⟨_, ?_, rfl⟩
    obtain rfl : i = g.blocks.length := by omega
    exact vw_bools trivial rfl (by omega)

/-- Rows that are written no more, in a list of lists. -/
theorem vw_ofRow {H H2 : AH} {σ : Nat → Nat → Option (Nat × Nat × Nat)} {D : Nat → Nat → Prop} {t : Bool} {r q g : Nat} {l : List Nat} (hD : D r q) (hg : H.get r q = some (.row 1 (l.map cN) g)) (hb : l.length ≤ big) : Vw H H2 σ D t (.own r q g 0 l.length) (encNats l) := vw_nats hD hg hb

def encNN (A : List (List Nat)) : AV := encL 1 (fun r => [encNats r]) A
abbrev cNs (l : List Nat) : List AV := [encNats l]

theorem vw_NN {H H2 : AH} {σ : Nat → Nat → Option (Nat × Nat × Nat)} {D : Nat → Nat → Prop} {t : Bool} {r q g : Nat} {l : List (List Nat)} (hD : D r q) (hg : H.get r q = some (.row 1 (l.map cNs) g)) (hb : l.length ≤ big) :
    Vw H H2 σ D t (.own r q g 0 l.length) (encNN l) := by
  refine vw_encL hD hg hb (fun a _ j hj => ?_)
  obtain rfl : j = 0 := by omega
  exact .sl _ _ _ _

theorem R24_Predecessors_ok (g : Gr) (hg : g.small) : PureFn Try.prog f_R24_Predecessors [.agg g.cells] (· = encNN (predL g.E)) := by
  refine fn_x cf_R24_Predecessors rfl ?_
  unfold ac_R24_Predecessors
  have hB : big = 9223372036854775807 := rfl
  have hlen := g.E_len
  have hn := hg.1
  (repeat (first | (simp (disch := (first | omega | (simp only [evF, evL, implies_true, and_self]; done) | fail)) only [evS, evZ, evK, evB, evL, evR, Nat.reduceBEq, Nat.reduceAdd, Nat.reduceLeDiff, boxR, rboxR, allocR, fldR, binI, unR, pickR, mknilR, mkslR, buildSlR, buildR, extR, convI, eqB, evU, wrap64, Gr.cells]) | (with_reducible intro _) | ((with_reducible apply And.intro); omega)))
  have hres : predL g.E = mapR (fun b => filR (fun a => decide (b ∈ suc g.E a)) g.blocks.length) g.blocks.length := by unfold predL; rw [hlen]; rfl
  rw [hres]
  generalize hF : (fun b => filR (fun a => decide (b ∈ suc g.E a)) g.blocks.length) = F
  have hFi : ∀ b, F b = filR (fun a => decide (b ∈ suc g.E a)) g.blocks.length := fun b => by rw [← hF]
  refine loopX_intro (fun i : Nat => ([(1, encP 2 g.cells), (3, .own 0 0 0 0 (mapR F i).length), (4, .int .i64 i)], [(0, .row 1 ((mapR F i).map cNs) 0)])) 1 (fun i => i ≤ g.blocks.length) (fun i => g.blocks.length - i) 0 (Nat.zero_le _) (Ent.tab [(0, 1, 0)] [] rfl (by (try simp only [evW, evK, evB, evL, Nat.reduceBEq, Nat.reduceAdd, Nat.reduceSub, Nat.reduceLeDiff, Nat.reduceLT, implies_true, and_self, Int.natCast_zero, Int.natCast_one, Int.cast_ofNat_Int, evV, encInts, encNats, encBools, encP, Gr.cells, mapR_zero]) <;> (repeat' with_reducible apply And.intro) <;> first | omega | exact vw_nats rfl rfl (by omega) | exact vw_ints rfl rfl (by omega) | exact vw_bools rfl rfl (by omega) | exact rowV_fe (fun _ => rfl) | exact rowV_fe_start (c := cN) (fun _ => rfl) rfl | exact rowsV_fam (fun _ => rfl) (by decide) ⟨rfl, rfl⟩ trivial | exact rowsV_fam (fun _ => rfl) (by decide) (fun _ _ => ⟨rfl, rfl⟩) trivial | (simp; done)) (by (try simp only [evW, evK, evB, evL, Nat.reduceBEq, Nat.reduceAdd, Nat.reduceSub, Nat.reduceLeDiff, Nat.reduceLT, implies_true, and_self, Int.natCast_zero, Int.natCast_one, Int.cast_ofNat_Int, evV, encInts, encNats, encBools, encP, Gr.cells, mapR_zero]) <;> (repeat' with_reducible apply And.intro) <;> first | omega | exact vw_nats rfl rfl (by omega) | exact vw_ints rfl rfl (by omega) | exact vw_bools rfl rfl (by omega) | exact rowV_fe (fun _ => rfl) | exact rowV_fe_start (c := cN) (fun _ => rfl) rfl | exact rowsV_fam (fun _ => rfl) (by decide) ⟨rfl, rfl⟩ trivial | exact rowsV_fam (fun _ => rfl) (by decide) (fun _ _ => ⟨rfl, rfl⟩) trivial | (simp; done))) ?_
  intro i hi wf
  have hml := mapR_len (f := F) (n := i)
  unfold ac_R24_Predecessors_l3
  (repeat (first | (simp (disch := (first | omega | (simp only [evF, evL, implies_true, and_self]; done) | fail)) only [evS, evZ, evK, evB, evL, evR, Nat.reduceBEq, Nat.reduceAdd, Nat.reduceLeDiff, boxR, rboxR, allocR, fldR, binI, unR, pickR, mknilR, mkslR, buildSlR, buildR, extR, convI, eqB, evU, wrap64, encP, Gr.cells]) | (with_reducible intro _) | ((with_reducible apply And.intro); omega)))
  (refine condX_intro (fun h => ?_) (fun h => ?_)) <;> (try simp only [decide_eq_true_eq, decide_eq_false_iff_not, Bool.not_eq_true', Bool.not_eq_false', Bool.and_eq_true, Bool.or_eq_true, not_true_eq_false, not_false_eq_true] at h)
  · (repeat (first | (simp (disch := (first | omega | (simp only [evF, evL, implies_true, and_self]; done) | fail)) only [evS, evZ, evK, evB, evL, evR, Nat.reduceBEq, Nat.reduceAdd, Nat.reduceLeDiff, boxR, rboxR, allocR, fldR, binI, unR, pickR, mknilR, mkslR, buildSlR, buildR, extR, convI, eqB, evU, wrap64]) | (with_reducible intro _) | ((with_reducible apply And.intro); omega)))
    generalize hp : (fun a => decide (i ∈ suc g.E a)) = p
    have hpi : ∀ a, decide (i ∈ suc g.E a) = p a := fun a => by rw [← hp]
    refine loopX_intro (fun k : Nat => ([(1, encP 2 g.cells), (3, .own 0 0 0 0 (mapR F i).length), (4, .int .i64 i), (5, .own 1 0 0 0 (filR p k).length), (6, .int .i64 k)], [(0, .row 1 ((mapR F i).map cNs) 0), (1, .row 1 ((filR p k).map cN) 0)])) 2
      (fun k => k ≤ g.blocks.length) (fun k => g.blocks.length - k) 0 (Nat.zero_le _) (Ent.tab [(0, 0, 0), (1, 1, 0)] [] rfl (by (try simp only [evW, evK, evB, evL, Nat.reduceBEq, Nat.reduceAdd, Nat.reduceSub, Nat.reduceLeDiff, Nat.reduceLT, implies_true, and_self, Int.natCast_zero, Int.natCast_one, Int.cast_ofNat_Int, evV, encInts, encNats, encBools, encP, Gr.cells, filR_zero]) <;> (repeat' with_reducible apply And.intro) <;> first | omega | exact vw_nats rfl rfl (by omega) | exact vw_ints rfl rfl (by omega) | exact vw_bools rfl rfl (by omega) | exact rowV_fe (fun _ => rfl) | exact rowV_fe_start (c := cN) (fun _ => rfl) rfl | exact rowsV_fam (fun _ => rfl) (by decide) ⟨rfl, rfl⟩ trivial | exact rowsV_fam (fun _ => rfl) (by decide) (fun _ _ => ⟨rfl, rfl⟩) trivial | (simp; done)) (by (try simp only [evW, evK, evB, evL, Nat.reduceBEq, Nat.reduceAdd, Nat.reduceSub, Nat.reduceLeDiff, Nat.reduceLT, implies_true, and_self, Int.natCast_zero, Int.natCast_one, Int.cast_ofNat_Int, evV, encInts, encNats, encBools, encP, Gr.cells, filR_zero]) <;> (repeat' with_reducible apply And.intro) <;> first | omega | exact vw_nats rfl rfl (by omega) | exact vw_ints rfl rfl (by omega) | exact vw_bools rfl rfl (by omega) | exact rowV_fe (fun _ => rfl) | exact rowV_fe_start (c := cN) (fun _ => rfl) rfl | exact rowsV_fam (fun _ => rfl) (by decide) ⟨rfl, rfl⟩ trivial | exact rowsV_fam (fun _ => rfl) (by decide) (fun _ _ => ⟨rfl, rfl⟩) trivial | (simp; done))) ?_
    intro k hk wf
    have hfl := filR_le (p := p) (n := k)
    unfold ac_R24_Predecessors_l0
    (repeat (first | (simp (disch := (first | omega | (simp only [evF, evL, implies_true, and_self]; done) | fail)) only [evS, evZ, evK, evB, evL, evR, Nat.reduceBEq, Nat.reduceAdd, Nat.reduceLeDiff, boxR, rboxR, allocR, fldR, binI, unR, pickR, mknilR, mkslR, buildSlR, buildR, extR, convI, eqB, evU, wrap64, encP, Gr.cells]) | (with_reducible intro _) | ((with_reducible apply And.intro); omega)))
    (refine condX_intro (fun h2 => ?_) (fun h2 => ?_)) <;> (try simp only [decide_eq_true_eq, decide_eq_false_iff_not, Bool.not_eq_true', Bool.not_eq_false', Bool.and_eq_true, Bool.or_eq_true, not_true_eq_false, not_false_eq_true] at h2)
    · have hk' : k < g.blocks.length := by omega
      (repeat (first | (simp (disch := (first | omega | (simp only [evF, evL, implies_true, and_self]; done) | fail)) only [evS, evZ, evK, evB, evL, evR, Nat.reduceBEq, Nat.reduceAdd, Nat.reduceLeDiff, boxR, rboxR, allocR, fldR, binI, unR, pickR, mknilR, mkslR, buildSlR, buildR, extR, convI, eqB, evU, wrap64, Gr.two]) | (with_reducible intro _) | ((with_reducible apply And.intro); omega)))
      refine callX_fix (call_flat (R24_Edges_ok g hg k hk') rfl) ?_
      (repeat (first | (simp (disch := (first | omega | (simp only [evF, evL, implies_true, and_self]; done) | fail)) only [evS, evZ, evK, evB, evL, evR, Nat.reduceBEq, Nat.reduceAdd, Nat.reduceLeDiff, boxR, rboxR, allocR, fldR, binI, unR, pickR, mknilR, mkslR, buildSlR, buildR, extR, convI, eqB, evU, wrap64]) | (with_reducible intro _) | ((with_reducible apply And.intro); omega)))
      refine callX_fix hasN_flat ?_
      rw [hpi]
      (repeat (first | (simp (disch := (first | omega | (simp only [evF, evL, implies_true, and_self]; done) | fail)) only [evS, evZ, evK, evB, evL, evR, Nat.reduceBEq, Nat.reduceAdd, Nat.reduceLeDiff, boxR, rboxR, allocR, fldR, binI, unR, pickR, mknilR, mkslR, buildSlR, buildR, extR, convI, eqB, evU, wrap64]) | (with_reducible intro _) | ((with_reducible apply And.intro); omega)))
      (refine condX_intro (fun h3 => ?_) (fun h3 => ?_)) <;> (try simp only [decide_eq_true_eq, decide_eq_false_iff_not, Bool.not_eq_true', Bool.not_eq_false', Bool.and_eq_true, Bool.or_eq_true, not_true_eq_false, not_false_eq_true] at h3)
      · (repeat (first | (simp (disch := (first | omega | (simp only [evF, evL, implies_true, and_self]; done) | fail)) only [evS, evZ, evK, evB, evL, evR, Nat.reduceBEq, Nat.reduceAdd, Nat.reduceLeDiff, boxR, rboxR, allocR, fldR, binI, unR, pickR, mknilR, mkslR, buildSlR, buildR, extR, convI, eqB, evU, wrap64]) | (with_reducible intro _) | ((with_reducible apply And.intro); omega)))
        exact ⟨k + 1, by omega, by omega, (Ent.tab [(0, 0, 0), (1, 1, 1)] [] rfl (by (try simp only [evW, evK, evB, evL, Nat.reduceBEq, Nat.reduceAdd, Nat.reduceSub, Nat.reduceLeDiff, Nat.reduceLT, implies_true, and_self, Int.natCast_zero, Int.natCast_one, Int.cast_ofNat_Int, evV, encInts, encNats, encBools, encP, Gr.cells, filR_pos h3]) <;> (repeat' with_reducible apply And.intro) <;> first | omega | exact vw_nats rfl rfl (by omega) | exact vw_ints rfl rfl (by omega) | exact vw_bools rfl rfl (by omega) | exact rowV_fe (fun _ => rfl) | exact rowV_fe_start (c := cN) (fun _ => rfl) rfl | exact rowsV_fam (fun _ => rfl) (by decide) ⟨rfl, rfl⟩ trivial | exact rowsV_fam (fun _ => rfl) (by decide) (fun _ _ => ⟨rfl, rfl⟩) trivial | (simp; done)) (by (try simp only [evW, evK, evB, evL, Nat.reduceBEq, Nat.reduceAdd, Nat.reduceSub, Nat.reduceLeDiff, Nat.reduceLT, implies_true, and_self, Int.natCast_zero, Int.natCast_one, Int.cast_ofNat_Int, evV, encInts, encNats, encBools, encP, Gr.cells, filR_pos h3]) <;> (repeat' with_reducible apply And.intro) <;> first | omega | exact vw_nats rfl rfl (by omega) | exact vw_ints rfl rfl (by omega) | exact vw_bools rfl rfl (by omega) | exact rowV_fe (fun _ => rfl) | exact rowV_fe_start (c := cN) (fun _ => rfl) rfl | exact rowsV_fam (fun _ => rfl) (by decide) ⟨rfl, rfl⟩ trivial | exact rowsV_fam (fun _ => rfl) (by decide) (fun _ _ => ⟨rfl, rfl⟩) trivial | (simp; done)))⟩
      · have h3' : p k = false := by simpa using h3
        (repeat (first | (simp (disch := (first | omega | (simp only [evF, evL, implies_true, and_self]; done) | fail)) only [evS, evZ, evK, evB, evL, evR, Nat.reduceBEq, Nat.reduceAdd, Nat.reduceLeDiff, boxR, rboxR, allocR, fldR, binI, unR, pickR, mknilR, mkslR, buildSlR, buildR, extR, convI, eqB, evU, wrap64]) | (with_reducible intro _) | ((with_reducible apply And.intro); omega)))
        exact ⟨k + 1, by omega, by omega, (Ent.tab [(0, 0, 0), (1, 1, 0)] [] rfl (by (try simp only [evW, evK, evB, evL, Nat.reduceBEq, Nat.reduceAdd, Nat.reduceSub, Nat.reduceLeDiff, Nat.reduceLT, implies_true, and_self, Int.natCast_zero, Int.natCast_one, Int.cast_ofNat_Int, evV, encInts, encNats, encBools, encP, Gr.cells, filR_neg h3']) <;> (repeat' with_reducible apply And.intro) <;> first | omega | exact vw_nats rfl rfl (by omega) | exact vw_ints rfl rfl (by omega) | exact vw_bools rfl rfl (by omega) | exact rowV_fe (fun _ => rfl) | exact rowV_fe_start (c := cN) (fun _ => rfl) rfl | exact rowsV_fam (fun _ => rfl) (by decide) ⟨rfl, rfl⟩ trivial | exact rowsV_fam (fun _ => rfl) (by decide) (fun _ _ => ⟨rfl, rfl⟩) trivial | (simp; done)) (by (try simp only [evW, evK, evB, evL, Nat.reduceBEq, Nat.reduceAdd, Nat.reduceSub, Nat.reduceLeDiff, Nat.reduceLT, implies_true, and_self, Int.natCast_zero, Int.natCast_one, Int.cast_ofNat_Int, evV, encInts, encNats, encBools, encP, Gr.cells, filR_neg h3']) <;> (repeat' with_reducible apply And.intro) <;> first | omega | exact vw_nats rfl rfl (by omega) | exact vw_ints rfl rfl (by omega) | exact vw_bools rfl rfl (by omega) | exact rowV_fe (fun _ => rfl) | exact rowV_fe_start (c := cN) (fun _ => rfl) rfl | exact rowsV_fam (fun _ => rfl) (by decide) ⟨rfl, rfl⟩ trivial | exact rowsV_fam (fun _ => rfl) (by decide) (fun _ _ => ⟨rfl, rfl⟩) trivial | (simp; done)))⟩
    · obtain rfl : k = g.blocks.length := by omega
      unfold ac_R24_Predecessors_k1 ac_R24_Predecessors_k2
      have e : F i = filR p g.blocks.length := by rw [hFi, hp]
      (repeat (first | (simp (disch := (first | omega | (simp only [evF, evL, implies_true, and_self]; done) | fail)) only [evS, evZ, evK, evB, evL, evR, Nat.reduceBEq, Nat.reduceAdd, Nat.reduceLeDiff, boxR, rboxR, allocR, fldR, binI, unR, pickR, mknilR, mkslR, buildSlR, buildR, extR, convI, eqB, evU, wrap64]) | (with_reducible intro _) | ((with_reducible apply And.intro); omega)))
      exact ⟨i + 1, by omega, by omega, (Ent.tab [(0, 0, 1)] [1] rfl (by (try simp only [evW, evK, evB, evL, Nat.reduceBEq, Nat.reduceAdd, Nat.reduceSub, Nat.reduceLeDiff, Nat.reduceLT, implies_true, and_self, Int.natCast_zero, Int.natCast_one, Int.cast_ofNat_Int, evV, encInts, encNats, encBools, encP, Gr.cells, mapR_succ, e]) <;> (repeat' with_reducible apply And.intro) <;> first | omega | exact vw_nats rfl rfl (by omega) | exact vw_ints rfl rfl (by omega) | exact vw_bools rfl rfl (by omega) | exact rowV_fe (fun _ => rfl) | exact rowV_fe_start (c := cN) (fun _ => rfl) rfl | exact rowsV_fam (fun _ => rfl) (by decide) ⟨rfl, rfl⟩ trivial | exact rowsV_fam (fun _ => rfl) (by decide) (fun _ _ => ⟨rfl, rfl⟩) trivial | (simp; done)) (by (try simp only [evW, evK, evB, evL, Nat.reduceBEq, Nat.reduceAdd, Nat.reduceSub, Nat.reduceLeDiff, Nat.reduceLT, implies_true, and_self, Int.natCast_zero, Int.natCast_one, Int.cast_ofNat_Int, evV, encInts, encNats, encBools, encP, Gr.cells, mapR_succ, e]) <;> (repeat' with_reducible apply And.intro) <;> first | omega | exact vw_nats rfl rfl (by omega) | exact vw_ints rfl rfl (by omega) | exact vw_bools rfl rfl (by omega) | exact rowV_fe (fun _ => rfl) | exact rowV_fe_start (c := cN) (fun _ => rfl) rfl | exact rowsV_fam (fun _ => rfl) (by decide) ⟨rfl, rfl⟩ trivial | exact rowsV_fam (fun _ => rfl) (by decide) (fun _ _ => ⟨rfl, rfl⟩) trivial | (simp; done)))⟩
  · unfold ac_R24_Predecessors_k4
    (repeat (first | (simp (disch := (first | omega | (simp only [evF, evL, implies_true, and_self]; done) | fail)) only [evS, evZ, evK, evB, evL, evR, Nat.reduceBEq, Nat.reduceAdd, Nat.reduceLeDiff, boxR, rboxR, allocR, fldR, binI, unR, pickR, mknilR, mkslR, buildSlR, buildR, extR, convI, eqB, evU, wrap64, rs_R24_Predecessors]) | (with_reducible intro _) | ((with_reducible apply And.intro); omega)))
    refine ⟨_, ?_, rfl⟩
    obtain rfl : i = g.blocks.length := by omega
    exact vw_NN trivial rfl (by omega)

end Go.Ab

namespace Go.Ab
open Go.RowKit Go.Proofs

def dfsStep (E : Adj) (f : Nat) (s : List Nat × List Nat) (n : Nat) : List Nat × List Nat := if n ∈ s.1 then s else dfs E f n s

theorem dfs_succ (E : Adj) (f k : Nat) (s : List Nat × List Nat) :
    dfs E (f + 1) k s = (((suc E k).foldl (dfsStep E f) (s.1 ++ [k], s.2)).1, ((suc E k).foldl (dfsStep E f) (s.1 ++ [k], s.2)).2 ++ [k]) := rfl

/-- What holds of a search on its way. -/
structure DfsI (n m d : Nat) (s : List Nat × List Nat) : Prop where
  nd : NdL n s.1
  le : m ≤ s.1.length
  post : s.1.length = s.2.length + d

theorem NdL.snoc {n : Nat} {l : List Nat} (h : NdL n l) {k : Nat} (hk : k < n) (hn : k ∉ l) : NdL n (l ++ [k]) := by
  refine ⟨?_, fun b hb => ?_⟩
  · rw [List.nodup_append]
    exact ⟨h.nd, by simp, fun a ha b hb => by simp at hb; subst hb; exact fun e => hn (e ▸ ha)⟩
  · rcases List.mem_append.1 hb with hb | hb
    · exact h.lt b hb
    · simp at hb; subst hb; exact hk

theorem dfsFold_inv {E : Adj} {f m d : Nat} (h : ∀ (k : Nat) (s : List Nat × List Nat), DfsI E.length m d s → k < E.length → k ∉ s.1 → DfsI E.length m d (dfs E f k s)) :
    ∀ (cs : List Nat) (t : List Nat × List Nat), (∀ c ∈ cs, c < E.length) → DfsI E.length m d t → DfsI E.length m d (cs.foldl (dfsStep E f) t)
  | [], t, _, ht => ht
  | c :: cs, t, hc, ht => by
    refine dfsFold_inv h cs (dfsStep E f t c) (fun d hd => hc d (by simp [hd])) ?_
    unfold dfsStep
    split
    · exact ht
    · exact h c t ht (hc c (by simp)) ‹_›

theorem dfs_inv {E : Adj} (hE : E.ok) : ∀ (f m d k : Nat) (s : List Nat × List Nat), DfsI E.length m d s → k < E.length → k ∉ s.1 → DfsI E.length m d (dfs E f k s)
  | 0, _, _, _, _, h, _, _ => h
  | f + 1, m, d, k, s, h, hk, hn => by
    rw [dfs_succ]
    have := dfsFold_inv (dfs_inv hE f m (d + 1)) (suc E k) (s.1 ++ [k], s.2) (hE k) ⟨h.nd.snoc hk hn, by have := h.le; simp; omega, by have := h.post; simp; omega⟩
    exact ⟨this.nd, this.le, by have := this.post; simp; omega⟩

theorem R24_visit_ok (g : Gr) (hg : g.small) : ∀ (f : Nat) (k g0 g1 : Nat) (s : List Nat × List Nat) (m d : Nat), DfsI g.E.length m d s → k < g.E.length → k ∉ s.1 → g.E.length ≤ f + m →
    CallOk Try.prog f_R24_visit [.agg g.cells, .int .i64 k, .agg [.own 0 0 g0 0 s.1.length, .own 1 0 g1 0 s.2.length]] [(0, .row 1 (s.1.map cN) g0), (1, .row 1 (s.2.map cN) g1)] 2
      (fun v H nx => ∃ g0' g1', v = .agg [.own 0 0 g0' 0 (dfs g.E f k s).1.length, .own 1 0 g1' 0 (dfs g.E f k s).2.length] ∧ H = [(0, .row 1 ((dfs g.E f k s).1.map cN) g0'), (1, .row 1 ((dfs g.E f k s).2.map cN) g1')] ∧ nx = 2)
  | 0, k, g0, g1, s, m, d, hs, hk, hn, hf => by
    have := (hs.nd.snoc hk hn).len
    have := hs.le
    simp at *
    omega
  | f + 1, k, g0, g1, s, m, d, hs, hk, hn, hf => by
    have ih := R24_visit_ok g hg f
    have hlen := g.E_len
    have hb := hg.1
    have hB : big = 9223372036854775807 := rfl
    have hsl := hs.nd.len
    have hsp := hs.post
    refine call_ent (fn_x cf_R24_visit rfl ?_)
    unfold ac_R24_visit
    (repeat (first | (simp (disch := (first | omega | (simp only [evF, evL, implies_true, and_self]; done) | fail)) only [evS, evZ, evK, evB, evL, evR, Nat.reduceBEq, Nat.reduceAdd, Nat.reduceLeDiff, boxR, rboxR, allocR, fldR, binI, unR, pickR, mknilR, mkslR, buildSlR, buildR, extR, convI, eqB, evU, wrap64, Gr.cells]) | (with_reducible intro _) | ((with_reducible apply And.intro); omega)))
    have hk' : k < g.blocks.length := by omega
    refine callX_fix (call_flat (R24_Edges_ok g hg k hk') rfl) ?_
    have hE : ∀ c ∈ suc g.E k, c < g.E.length := g.E_ok k
    have hstart : DfsI g.E.length (m + 1) (d + 1) (s.1 ++ [k], s.2) := ⟨hs.nd.snoc hk hn, by have := hs.le; simp; omega, by simp; omega⟩
    have hdfs := dfs_succ g.E f k s
    have hfin := dfsFold_inv (E := g.E) (f := f) (m := m + 1) (d := d + 1) (dfs_inv g.E_ok f (m + 1) (d + 1)) (suc g.E k) (s.1 ++ [k], s.2) hE hstart
    generalize hcs : suc g.E k = cs at hE hdfs hfin ⊢
    (repeat (first | (simp (disch := (first | omega | (simp only [evF, evL, implies_true, and_self]; done) | fail)) only [evS, evZ, evK, evB, evL, evR, Nat.reduceBEq, Nat.reduceAdd, Nat.reduceLeDiff, boxR, rboxR, allocR, fldR, binI, unR, pickR, mknilR, mkslR, buildSlR, buildR, extR, convI, eqB, evU, wrap64]) | (with_reducible intro _) | ((with_reducible apply And.intro); omega)))
    let S := fun i : Nat => (cs.take i).foldl (dfsStep g.E f) (s.1 ++ [k], s.2)
    refine loopX_intro (fun a : Nat × Nat × Nat => ([(1, .int .i64 k), (3, encP 2 g.cells), (5, .ptr 2 0 0 0 0), (6, .ptr 3 0 0 0 0), (7, encNats cs), (8, .int .i64 a.1)],
        [(0, .row 1 ((S a.1).1.map cN) a.2.1), (1, .row 1 ((S a.1).2.map cN) a.2.2), (2, .row 2 [[.own 0 0 a.2.1 0 (S a.1).1.length, .own 1 0 a.2.2 0 (S a.1).2.length]] 0), (3, .row 2 [[.nilsl, .nilsl]] 0)])) 4
      (fun a => a.1 ≤ cs.length) (fun a => cs.length - a.1) (0, g0 + 1, g1) (Nat.zero_le _) (Ent.tabB [(0, 0, 0), (1, 1, 0), (2, 2, 0), (3, 3, 0)] [] rfl rfl rfl (by (try simp only [evW, evK, evB, evL, Nat.reduceBEq, Nat.reduceAdd, Nat.reduceSub, Nat.reduceLeDiff, Nat.reduceLT, implies_true, and_self, Int.natCast_zero, Int.natCast_one, Int.cast_ofNat_Int, evV, encInts, encNats, encBools, encP, Gr.cells, S, List.foldl_nil]) <;> (repeat' with_reducible apply And.intro) <;> first | omega | exact vw_nats rfl rfl (by omega) | exact vw_ints rfl rfl (by omega) | exact vw_bools rfl rfl (by omega) | exact rowV_fe (fun _ => rfl) | exact rowV_fe_start (c := cN) (fun _ => rfl) rfl | exact rowsV_fam (fun _ => rfl) (by decide) ⟨rfl, rfl⟩ trivial | exact rowsV_fam (fun _ => rfl) (by decide) (fun _ _ => ⟨rfl, rfl⟩) trivial | (simp; done)) (by (try simp only [evW, evK, evB, evL, Nat.reduceBEq, Nat.reduceAdd, Nat.reduceSub, Nat.reduceLeDiff, Nat.reduceLT, implies_true, and_self, Int.natCast_zero, Int.natCast_one, Int.cast_ofNat_Int, evV, encInts, encNats, encBools, encP, Gr.cells, S, List.foldl_nil]) <;> (repeat' with_reducible apply And.intro) <;> first | omega | exact vw_nats rfl rfl (by omega) | exact vw_ints rfl rfl (by omega) | exact vw_bools rfl rfl (by omega) | exact rowV_fe (fun _ => rfl) | exact rowV_fe_start (c := cN) (fun _ => rfl) rfl | exact rowsV_fam (fun _ => rfl) (by decide) ⟨rfl, rfl⟩ trivial | exact rowsV_fam (fun _ => rfl) (by decide) (fun _ _ => ⟨rfl, rfl⟩) trivial | (simp; done))) ?_
    rintro ⟨i, a0, a1⟩ hi wf
    simp only at hi
    unfold ac_R24_visit_l0
    (repeat (first | (simp (disch := (first | omega | (simp only [evF, evL, implies_true, and_self]; done) | fail)) only [evS, evZ, evK, evB, evL, evR, Nat.reduceBEq, Nat.reduceAdd, Nat.reduceLeDiff, boxR, rboxR, allocR, fldR, binI, unR, pickR, mknilR, mkslR, buildSlR, buildR, extR, convI, eqB, evU, wrap64, encP, Gr.cells, encNats]) | (with_reducible intro _) | ((with_reducible apply And.intro); omega)))
    have hS : DfsI g.E.length (m + 1) (d + 1) (S i) := dfsFold_inv (dfs_inv g.E_ok f (m + 1) (d + 1)) (cs.take i) _ (fun c hc => hE c (List.mem_of_mem_take hc)) hstart
    have hSl := hS.nd.len
    (refine condX_intro (fun h => ?_) (fun h => ?_)) <;> (try simp only [decide_eq_true_eq, decide_eq_false_iff_not, Bool.not_eq_true', Bool.not_eq_false', Bool.and_eq_true, Bool.or_eq_true, not_true_eq_false, not_false_eq_true] at h)
    · have hi' : i < cs.length := by omega
      have hst : S (i + 1) = dfsStep g.E f (S i) cs[i] := foldl_take_succ hi'
      have hc := hE cs[i] (List.getElem_mem hi')
      generalize S i = s1 at hS hSl hst ⊢
      (repeat (first | (simp (disch := (first | omega | (simp only [evF, evL, implies_true, and_self]; done) | fail)) only [evS, evZ, evK, evB, evL, evR, Nat.reduceBEq, Nat.reduceAdd, Nat.reduceLeDiff, boxR, rboxR, allocR, fldR, binI, unR, pickR, mknilR, mkslR, buildSlR, buildR, extR, convI, eqB, evU, wrap64, getD_map hi']) | (with_reducible intro _) | ((with_reducible apply And.intro); omega)))
      refine callqX_fix (hasN_own rfl (by omega)) ?_
      (repeat (first | (simp (disch := (first | omega | (simp only [evF, evL, implies_true, and_self]; done) | fail)) only [evS, evZ, evK, evB, evL, evR, Nat.reduceBEq, Nat.reduceAdd, Nat.reduceLeDiff, boxR, rboxR, allocR, fldR, binI, unR, pickR, mknilR, mkslR, buildSlR, buildR, extR, convI, eqB, evU, wrap64]) | (with_reducible intro _) | ((with_reducible apply And.intro); omega)))
      (refine condX_intro (fun h2 => ?_) (fun h2 => ?_)) <;> (try simp only [decide_eq_true_eq, decide_eq_false_iff_not, Bool.not_eq_true', Bool.not_eq_false', Bool.and_eq_true, Bool.or_eq_true, not_true_eq_false, not_false_eq_true] at h2)
      · have e : dfsStep g.E f s1 cs[i] = dfs g.E f cs[i] s1 := by unfold dfsStep; rw [if_neg h2]
        rw [e] at hst
        (repeat (first | (simp (disch := (first | omega | (simp only [evF, evL, implies_true, and_self]; done) | fail)) only [evS, evZ, evK, evB, evL, evR, Nat.reduceBEq, Nat.reduceAdd, Nat.reduceLeDiff, boxR, rboxR, allocR, fldR, binI, unR, pickR, mknilR, mkslR, buildSlR, buildR, extR, convI, eqB, evU, wrap64, getD_map hi', Gr.two]) | (with_reducible intro _) | ((with_reducible apply And.intro); omega)))
        refine call_own [(0, 0, 0), (1, 1, 0)] 2 _ (ih cs[i] a0 a1 s1 (m + 1) (d + 1) hS hc h2 (by omega)) rfl rfl (by (try simp only [evW, evK, evB, evL, Nat.reduceBEq, Nat.reduceAdd, Nat.reduceSub, Nat.reduceLeDiff, Nat.reduceLT, implies_true, and_self, Int.natCast_zero, Int.natCast_one, Int.cast_ofNat_Int, evV, encInts, encNats, encBools, encP, Gr.cells]) <;> (repeat' with_reducible apply And.intro) <;> first | omega | exact vw_nats rfl rfl (by omega) | exact vw_ints rfl rfl (by omega) | exact vw_bools rfl rfl (by omega) | exact rowV_fe (fun _ => rfl) | exact rowV_fe_start (c := cN) (fun _ => rfl) rfl | exact rowsV_fam (fun _ => rfl) (by decide) ⟨rfl, rfl⟩ trivial | exact rowsV_fam (fun _ => rfl) (by decide) (fun _ _ => ⟨rfl, rfl⟩) trivial | (simp; done)) (by (try simp only [evW, evK, evB, evL, Nat.reduceBEq, Nat.reduceAdd, Nat.reduceSub, Nat.reduceLeDiff, Nat.reduceLT, implies_true, and_self, Int.natCast_zero, Int.natCast_one, Int.cast_ofNat_Int, evV, encInts, encNats, encBools, encP, Gr.cells]) <;> (repeat' with_reducible apply And.intro) <;> first | omega | exact vw_nats rfl rfl (by omega) | exact vw_ints rfl rfl (by omega) | exact vw_bools rfl rfl (by omega) | exact rowV_fe (fun _ => rfl) | exact rowV_fe_start (c := cN) (fun _ => rfl) rfl | exact rowsV_fam (fun _ => rfl) (by decide) ⟨rfl, rfl⟩ trivial | exact rowsV_fam (fun _ => rfl) (by decide) (fun _ _ => ⟨rfl, rfl⟩) trivial | (simp; done)) ?_
        rintro v H' nx' ⟨g0', g1', rfl, rfl, rfl⟩
        (repeat (first | (simp (disch := (first | omega | (simp only [evF, evL, implies_true, and_self]; done) | fail)) only [evS, evZ, evK, evB, evL, evR, Nat.reduceBEq, Nat.reduceAdd, Nat.reduceLeDiff, boxR, rboxR, allocR, fldR, binI, unR, pickR, mknilR, mkslR, buildSlR, buildR, extR, convI, eqB, evU, wrap64]) | (with_reducible intro _) | ((with_reducible apply And.intro); omega)))
        exact ⟨(i + 1, g0', g1'), by simp only; omega, by simp only; omega, (Ent.tabB [(0, 0, 0), (1, 1, 0), (2, 2, 0), (3, 3, 0)] [] rfl rfl rfl (by (try simp only [evW, evK, evB, evL, Nat.reduceBEq, Nat.reduceAdd, Nat.reduceSub, Nat.reduceLeDiff, Nat.reduceLT, implies_true, and_self, Int.natCast_zero, Int.natCast_one, Int.cast_ofNat_Int, evV, encInts, encNats, encBools, encP, Gr.cells, hst]) <;> (repeat' with_reducible apply And.intro) <;> first | omega | exact vw_nats rfl rfl (by omega) | exact vw_ints rfl rfl (by omega) | exact vw_bools rfl rfl (by omega) | exact rowV_fe (fun _ => rfl) | exact rowV_fe_start (c := cN) (fun _ => rfl) rfl | exact rowsV_fam (fun _ => rfl) (by decide) ⟨rfl, rfl⟩ trivial | exact rowsV_fam (fun _ => rfl) (by decide) (fun _ _ => ⟨rfl, rfl⟩) trivial | (simp; done)) (by (try simp only [evW, evK, evB, evL, Nat.reduceBEq, Nat.reduceAdd, Nat.reduceSub, Nat.reduceLeDiff, Nat.reduceLT, implies_true, and_self, Int.natCast_zero, Int.natCast_one, Int.cast_ofNat_Int, evV, encInts, encNats, encBools, encP, Gr.cells, hst]) <;> (repeat' with_reducible apply And.intro) <;> first | omega | exact vw_nats rfl rfl (by omega) | exact vw_ints rfl rfl (by omega) | exact vw_bools rfl rfl (by omega) | exact rowV_fe (fun _ => rfl) | exact rowV_fe_start (c := cN) (fun _ => rfl) rfl | exact rowsV_fam (fun _ => rfl) (by decide) ⟨rfl, rfl⟩ trivial | exact rowsV_fam (fun _ => rfl) (by decide) (fun _ _ => ⟨rfl, rfl⟩) trivial | (simp; done)))⟩
      · have e : dfsStep g.E f s1 cs[i] = s1 := by unfold dfsStep; rw [if_pos h2]
        rw [e] at hst
        (repeat (first | (simp (disch := (first | omega | (simp only [evF, evL, implies_true, and_self]; done) | fail)) only [evS, evZ, evK, evB, evL, evR, Nat.reduceBEq, Nat.reduceAdd, Nat.reduceLeDiff, boxR, rboxR, allocR, fldR, binI, unR, pickR, mknilR, mkslR, buildSlR, buildR, extR, convI, eqB, evU, wrap64]) | (with_reducible intro _) | ((with_reducible apply And.intro); omega)))
        exact ⟨(i + 1, a0, a1), by simp only; omega, by simp only; omega, (Ent.tabB [(0, 0, 0), (1, 1, 0), (2, 2, 0), (3, 3, 0)] [] rfl rfl rfl (by (try simp only [evW, evK, evB, evL, Nat.reduceBEq, Nat.reduceAdd, Nat.reduceSub, Nat.reduceLeDiff, Nat.reduceLT, implies_true, and_self, Int.natCast_zero, Int.natCast_one, Int.cast_ofNat_Int, evV, encInts, encNats, encBools, encP, Gr.cells, hst]) <;> (repeat' with_reducible apply And.intro) <;> first | omega | exact vw_nats rfl rfl (by omega) | exact vw_ints rfl rfl (by omega) | exact vw_bools rfl rfl (by omega) | exact rowV_fe (fun _ => rfl) | exact rowV_fe_start (c := cN) (fun _ => rfl) rfl | exact rowsV_fam (fun _ => rfl) (by decide) ⟨rfl, rfl⟩ trivial | exact rowsV_fam (fun _ => rfl) (by decide) (fun _ _ => ⟨rfl, rfl⟩) trivial | (simp; done)) (by (try simp only [evW, evK, evB, evL, Nat.reduceBEq, Nat.reduceAdd, Nat.reduceSub, Nat.reduceLeDiff, Nat.reduceLT, implies_true, and_self, Int.natCast_zero, Int.natCast_one, Int.cast_ofNat_Int, evV, encInts, encNats, encBools, encP, Gr.cells, hst]) <;> (repeat' with_reducible apply And.intro) <;> first | omega | exact vw_nats rfl rfl (by omega) | exact vw_ints rfl rfl (by omega) | exact vw_bools rfl rfl (by omega) | exact rowV_fe (fun _ => rfl) | exact rowV_fe_start (c := cN) (fun _ => rfl) rfl | exact rowsV_fam (fun _ => rfl) (by decide) ⟨rfl, rfl⟩ trivial | exact rowsV_fam (fun _ => rfl) (by decide) (fun _ _ => ⟨rfl, rfl⟩) trivial | (simp; done)))⟩
    · unfold ac_R24_visit_k1
      have hi' : cs.length ≤ i := by omega
      have hSe : S i = cs.foldl (dfsStep g.E f) (s.1 ++ [k], s.2) := by simp only [S]; rw [List.take_of_length_le hi']
      have := hS.post
      (repeat (first | (simp (disch := (first | omega | (simp only [evF, evL, implies_true, and_self]; done) | fail)) only [evS, evZ, evK, evB, evL, evR, Nat.reduceBEq, Nat.reduceAdd, Nat.reduceLeDiff, boxR, rboxR, allocR, fldR, binI, unR, pickR, mknilR, mkslR, buildSlR, buildR, extR, convI, eqB, evU, wrap64, rs_R24_visit]) | (with_reducible intro _) | ((with_reducible apply And.intro); omega)))
      refine ⟨_, [(0, .row 1 ((dfs g.E (f + 1) k s).1.map cN) a0), (1, .row 1 ((dfs g.E (f + 1) k s).2.map cN) (a1 + 1))], 2, ?_, a0, a1 + 1, rfl, rfl, rfl⟩
      rw [hSe, hdfs]
      exact (Ent.tabB [(0, 0, 0), (1, 1, 0)] [] rfl rfl rfl (by (try simp only [evW, evK, evB, evL, Nat.reduceBEq, Nat.reduceAdd, Nat.reduceSub, Nat.reduceLeDiff, Nat.reduceLT, implies_true, and_self, Int.natCast_zero, Int.natCast_one, Int.cast_ofNat_Int, evV, encInts, encNats, encBools, encP]) <;> (repeat' with_reducible apply And.intro) <;> first | omega | exact vw_nats rfl rfl (by omega) | exact vw_ints rfl rfl (by omega) | exact vw_bools rfl rfl (by omega) | exact rowV_fe (fun _ => rfl) | exact rowV_fe_start (c := cN) (fun _ => rfl) rfl | exact rowsV_fam (fun _ => rfl) (by decide) ⟨rfl, rfl⟩ trivial | exact rowsV_fam (fun _ => rfl) (by decide) (fun _ _ => ⟨rfl, rfl⟩) trivial | (simp; done)) (by (try simp only [evW, evK, evB, evL, Nat.reduceBEq, Nat.reduceAdd, Nat.reduceSub, Nat.reduceLeDiff, Nat.reduceLT, implies_true, and_self, Int.natCast_zero, Int.natCast_one, Int.cast_ofNat_Int, evV, encInts, encNats, encBools, encP]) <;> (repeat' with_reducible apply And.intro) <;> first | omega | exact vw_nats rfl rfl (by omega) | exact vw_ints rfl rfl (by omega) | exact vw_bools rfl rfl (by omega) | exact rowV_fe (fun _ => rfl) | exact rowV_fe_start (c := cN) (fun _ => rfl) rfl | exact rowsV_fam (fun _ => rfl) (by decide) ⟨rfl, rfl⟩ trivial | exact rowsV_fam (fun _ => rfl) (by decide) (fun _ _ => ⟨rfl, rfl⟩) trivial | (simp; done)))

theorem rev_take_succ {α : Type} {l : List α} {j : Nat} (h : j < l.length) : l.reverse.take (j + 1) = l.reverse.take j ++ [l[l.length - 1 - j]] := by
  rw [List.take_add_one, List.getElem?_reverse h, List.getElem?_eq_getElem (by omega)]
  rfl

theorem R24_Order_ok (g : Gr) (hg : g.small) : PureFn Try.prog f_R24_Order [.agg g.cells] (· = encNats (orderL g.E)) := by
  refine fn_x cf_R24_Order rfl ?_
  unfold ac_R24_Order
  have hB : big = 9223372036854775807 := rfl
  have hlen := g.E_len
  have hn := hg.1
  (repeat (first | (simp (disch := (first | omega | (simp only [evF, evL, implies_true, and_self]; done) | fail)) only [evS, evZ, evK, evB, evL, evR, Nat.reduceBEq, Nat.reduceAdd, Nat.reduceLeDiff, boxR, rboxR, allocR, fldR, binI, unR, pickR, mknilR, mkslR, buildSlR, buildR, extR, convI, eqB, evU, wrap64, Gr.cells]) | (with_reducible intro _) | ((with_reducible apply And.intro); omega)))
  (refine condX_intro (fun h => ?_) (fun h => ?_)) <;> (try simp only [decide_eq_true_eq, decide_eq_false_iff_not, Bool.not_eq_true', Bool.not_eq_false', Bool.and_eq_true, Bool.or_eq_true, not_true_eq_false, not_false_eq_true] at h)
  · (repeat (first | (simp (disch := (first | omega | (simp only [evF, evL, implies_true, and_self]; done) | fail)) only [evS, evZ, evK, evB, evL, evR, Nat.reduceBEq, Nat.reduceAdd, Nat.reduceLeDiff, boxR, rboxR, allocR, fldR, binI, unR, pickR, mknilR, mkslR, buildSlR, buildR, extR, convI, eqB, evU, wrap64, rs_R24_Order]) | (with_reducible intro _) | ((with_reducible apply And.intro); omega)))
    refine ⟨_, ?_, rfl⟩
    have : orderL g.E = [] := by unfold orderL; rw [if_pos (by omega)]
    rw [this]
    exact vw_nats (l := []) trivial rfl (Nat.zero_le _)
  have hres : orderL g.E = (dfs g.E g.E.length 0 ([], [])).2.reverse := by unfold orderL; rw [if_neg (by omega)]
  have h0 : DfsI g.E.length 0 0 ([], []) := ⟨⟨by simp, by simp⟩, by simp, by simp⟩
  have hd := dfs_inv g.E_ok g.E.length 0 0 0 _ h0 (by omega) (by simp)
  have hdl := hd.nd.len
  have hdp := hd.post
  rw [hres]
  (repeat (first | (simp (disch := (first | omega | (simp only [evF, evL, implies_true, and_self]; done) | fail)) only [evS, evZ, evK, evB, evL, evR, Nat.reduceBEq, Nat.reduceAdd, Nat.reduceLeDiff, boxR, rboxR, allocR, fldR, binI, unR, pickR, mknilR, mkslR, buildSlR, buildR, extR, convI, eqB, evU, wrap64, Gr.two]) | (with_reducible intro _) | ((with_reducible apply And.intro); omega)))
  refine call_own [] 2 _ (R24_visit_ok g hg g.E.length 0 0 0 ([], []) 0 0 h0 (by omega) (by simp) (by omega)) rfl rfl (by (try simp only [evW, evK, evB, evL, Nat.reduceBEq, Nat.reduceAdd, Nat.reduceSub, Nat.reduceLeDiff, Nat.reduceLT, implies_true, and_self, Int.natCast_zero, Int.natCast_one, Int.cast_ofNat_Int, evV, encInts, encNats, encBools, encP, Gr.cells]) <;> (repeat' with_reducible apply And.intro) <;> first | omega | exact vw_nats rfl rfl (by omega) | exact vw_ints rfl rfl (by omega) | exact vw_bools rfl rfl (by omega) | exact rowV_fe (fun _ => rfl) | exact rowV_fe_start (c := cN) (fun _ => rfl) rfl | exact rowsV_fam (fun _ => rfl) (by decide) ⟨rfl, rfl⟩ trivial | exact rowsV_fam (fun _ => rfl) (by decide) (fun _ _ => ⟨rfl, rfl⟩) trivial | (simp; done)) (by (try simp only [evW, evK, evB, evL, Nat.reduceBEq, Nat.reduceAdd, Nat.reduceSub, Nat.reduceLeDiff, Nat.reduceLT, implies_true, and_self, Int.natCast_zero, Int.natCast_one, Int.cast_ofNat_Int, evV, encInts, encNats, encBools, encP, Gr.cells]) <;> (repeat' with_reducible apply And.intro) <;> first | omega | exact vw_nats rfl rfl (by omega) | exact vw_ints rfl rfl (by omega) | exact vw_bools rfl rfl (by omega) | exact rowV_fe (fun _ => rfl) | exact rowV_fe_start (c := cN) (fun _ => rfl) rfl | exact rowsV_fam (fun _ => rfl) (by decide) ⟨rfl, rfl⟩ trivial | exact rowsV_fam (fun _ => rfl) (by decide) (fun _ _ => ⟨rfl, rfl⟩) trivial | (simp; done)) ?_
  rintro v H' nx' ⟨g0', g1', rfl, rfl, rfl⟩
  generalize dfs g.E g.E.length 0 ([], []) = s at hdl hdp ⊢
  (repeat (first | (simp (disch := (first | omega | (simp only [evF, evL, implies_true, and_self]; done) | fail)) only [evS, evZ, evK, evB, evL, evR, Nat.reduceBEq, Nat.reduceAdd, Nat.reduceLeDiff, boxR, rboxR, allocR, fldR, binI, unR, pickR, mknilR, mkslR, buildSlR, buildR, extR, convI, eqB, evU, wrap64]) | (with_reducible intro _) | ((with_reducible apply And.intro); omega)))
  refine loopX_intro (fun j : Nat => ([(3, .own 0 0 0 0 (s.2.reverse.take j).length), (4, encNats s.2), (5, .int .i64 ((s.2.length : Int) - 1 - j))], [(0, .row 1 ((s.2.reverse.take j).map cN) 0)])) 1 (fun j => j ≤ s.2.length) (fun j => s.2.length - j) 0 (Nat.zero_le _) (Ent.tab [(0, 1, 0)] [3] rfl (by (try simp only [evW, evK, evB, evL, Nat.reduceBEq, Nat.reduceAdd, Nat.reduceSub, Nat.reduceLeDiff, Nat.reduceLT, implies_true, and_self, Int.natCast_zero, Int.natCast_one, Int.cast_ofNat_Int, evV, encInts, encNats, encBools, encP, List.take_zero]) <;> (repeat' with_reducible apply And.intro) <;> first | omega | exact vw_nats rfl rfl (by omega) | exact vw_ints rfl rfl (by omega) | exact vw_bools rfl rfl (by omega) | exact rowV_fe (fun _ => rfl) | exact rowV_fe_start (c := cN) (fun _ => rfl) rfl | exact rowsV_fam (fun _ => rfl) (by decide) ⟨rfl, rfl⟩ trivial | exact rowsV_fam (fun _ => rfl) (by decide) (fun _ _ => ⟨rfl, rfl⟩) trivial | (simp; done)) (by (try simp only [evW, evK, evB, evL, Nat.reduceBEq, Nat.reduceAdd, Nat.reduceSub, Nat.reduceLeDiff, Nat.reduceLT, implies_true, and_self, Int.natCast_zero, Int.natCast_one, Int.cast_ofNat_Int, evV, encInts, encNats, encBools, encP, List.take_zero]) <;> (repeat' with_reducible apply And.intro) <;> first | omega | exact vw_nats rfl rfl (by omega) | exact vw_ints rfl rfl (by omega) | exact vw_bools rfl rfl (by omega) | exact rowV_fe (fun _ => rfl) | exact rowV_fe_start (c := cN) (fun _ => rfl) rfl | exact rowsV_fam (fun _ => rfl) (by decide) ⟨rfl, rfl⟩ trivial | exact rowsV_fam (fun _ => rfl) (by decide) (fun _ _ => ⟨rfl, rfl⟩) trivial | (simp; done))) ?_
  intro j hj wf
  unfold ac_R24_Order_l0
  (repeat (first | (simp (disch := (first | omega | (simp only [evF, evL, implies_true, and_self]; done) | fail)) only [evS, evZ, evK, evB, evL, evR, Nat.reduceBEq, Nat.reduceAdd, Nat.reduceLeDiff, boxR, rboxR, allocR, fldR, binI, unR, pickR, mknilR, mkslR, buildSlR, buildR, extR, convI, eqB, evU, wrap64, encNats]) | (with_reducible intro _) | ((with_reducible apply And.intro); omega)))
  have hl : (s.2.reverse.take j).length = j := by simp; omega
  (refine condX_intro (fun h2 => ?_) (fun h2 => ?_)) <;> (try simp only [decide_eq_true_eq, decide_eq_false_iff_not, Bool.not_eq_true', Bool.not_eq_false', Bool.and_eq_true, Bool.or_eq_true, not_true_eq_false, not_false_eq_true] at h2)
  · have hj' : j < s.2.length := by omega
    have hst := rev_take_succ hj'
    have e : ((s.2.length : Int) - 1 - j).toNat = s.2.length - 1 - j := by omega
    generalize s.2.reverse.take j = o at hl hst ⊢
    (repeat (first | (simp (disch := (first | omega | (simp only [evF, evL, implies_true, and_self]; done) | fail)) only [evS, evZ, evK, evB, evL, evR, Nat.reduceBEq, Nat.reduceAdd, Nat.reduceLeDiff, boxR, rboxR, allocR, fldR, binI, unR, pickR, mknilR, mkslR, buildSlR, buildR, extR, convI, eqB, evU, wrap64, e, getD_map (show s.2.length - 1 - j < s.2.length by omega)]) | (with_reducible intro _) | ((with_reducible apply And.intro); omega)))
    exact ⟨j + 1, by omega, by omega, (Ent.tab [(0, 0, 1)] [] rfl (by (try simp only [evW, evK, evB, evL, Nat.reduceBEq, Nat.reduceAdd, Nat.reduceSub, Nat.reduceLeDiff, Nat.reduceLT, implies_true, and_self, Int.natCast_zero, Int.natCast_one, Int.cast_ofNat_Int, evV, encInts, encNats, encBools, encP, hst]) <;> (repeat' with_reducible apply And.intro) <;> first | omega | exact vw_nats rfl rfl (by omega) | exact vw_ints rfl rfl (by omega) | exact vw_bools rfl rfl (by omega) | exact rowV_fe (fun _ => rfl) | exact rowV_fe_start (c := cN) (fun _ => rfl) rfl | exact rowsV_fam (fun _ => rfl) (by decide) ⟨rfl, rfl⟩ trivial | exact rowsV_fam (fun _ => rfl) (by decide) (fun _ _ => ⟨rfl, rfl⟩) trivial | (simp; done)) (by (try simp only [evW, evK, evB, evL, Nat.reduceBEq, Nat.reduceAdd, Nat.reduceSub, Nat.reduceLeDiff, Nat.reduceLT, implies_true, and_self, Int.natCast_zero, Int.natCast_one, Int.cast_ofNat_Int, evV, encInts, encNats, encBools, encP, hst]) <;> (repeat' with_reducible apply And.intro) <;> first | omega | exact vw_nats rfl rfl (by omega) | exact vw_ints rfl rfl (by omega) | exact vw_bools rfl rfl (by omega) | exact rowV_fe (fun _ => rfl) | exact rowV_fe_start (c := cN) (fun _ => rfl) rfl | exact rowsV_fam (fun _ => rfl) (by decide) ⟨rfl, rfl⟩ trivial | exact rowsV_fam (fun _ => rfl) (by decide) (fun _ _ => ⟨rfl, rfl⟩) trivial | (simp; done)))⟩
  · unfold ac_R24_Order_k1
    (repeat (first | (simp (disch := (first | omega | (simp only [evF, evL, implies_true, and_self]; done) | fail)) only [evS, evZ, evK, evB, evL, evR, Nat.reduceBEq, Nat.reduceAdd, Nat.reduceLeDiff, boxR, rboxR, allocR, fldR, binI, unR, pickR, mknilR, mkslR, buildSlR, buildR, extR, convI, eqB, evU, wrap64, rs_R24_Order]) | (with_reducible intro _) | ((with_reducible apply And.intro); omega)))
    refine ⟨_, ?_, rfl⟩
    rw [List.take_of_length_le (by simp; omega)]
    exact vw_nats trivial rfl (by simp; omega)

end Go.Ab

namespace Go.Ab
open Go.RowKit Go.Proofs

theorem suc_get {A : List (List Nat)} {i : Nat} (h : i < A.length) : suc A i = A[i] := by simp [suc, List.getD_eq_getElem?_getD, h]

theorem R24_nearest_ok (A : List (List Nat)) (b : Nat) (hb : b < A.length) (hA : ∀ a ∈ suc A b, a < A.length) : PureFn Try.prog f_R24_nearest [encNN A, .int .i64 b] (· = .int .i64 (nearL A b)) := by
  refine fn_x cf_R24_nearest rfl ?_
  unfold ac_R24_nearest
  have hB : big = 9223372036854775807 := rfl
  unfold nearL
  rw [suc_get hb] at hA ⊢
  (repeat (first | (simp (disch := (first | omega | (simp only [evF, evL, implies_true, and_self]; done) | fail)) only [evS, evZ, evK, evB, evL, evR, Nat.reduceBEq, Nat.reduceAdd, Nat.reduceLeDiff, boxR, rboxR, allocR, fldR, binI, unR, pickR, mknilR, mkslR, buildSlR, buildR, extR, convI, eqB, evU, wrap64]) | (with_reducible intro _) | ((with_reducible apply And.intro); omega)))
  refine loopX_intro (fun i : Nat => ([(0, encNN A), (1, .int .i64 b), (5, .int .i64 ((A[b].take i).foldl (nearAdd A) (-1))), (6, .int .i64 i)], [])) 0
    (fun i => i ≤ A[b].length ∧ -1 ≤ (A[b].take i).foldl (nearAdd A) (-1) ∧ (A[b].take i).foldl (nearAdd A) (-1) < A.length) (fun i => A[b].length - i) 0 ⟨Nat.zero_le _, by simp, by simp; omega⟩ (Ent.keep rfl (by (try simp [subK, Kn.get, beq_eq]) <;> (repeat' with_reducible apply And.intro) <;> first | rfl | omega | (simp; done))) ?_
  intro i ⟨hi, h1, h2⟩ wf
  unfold ac_R24_nearest_l0
  (repeat (first | (simp (disch := (first | omega | (simp only [evF, evL, implies_true, and_self]; done) | fail)) only [evS, evZ, evK, evB, evL, evR, Nat.reduceBEq, Nat.reduceAdd, Nat.reduceLeDiff, boxR, rboxR, allocR, fldR, binI, unR, pickR, mknilR, mkslR, buildSlR, buildR, extR, convI, eqB, evU, wrap64, encNN, getD_map hb, encNats]) | (with_reducible intro _) | ((with_reducible apply And.intro); omega)))
  (refine condX_intro (fun h => ?_) (fun h => ?_)) <;> (try simp only [decide_eq_true_eq, decide_eq_false_iff_not, Bool.not_eq_true', Bool.not_eq_false', Bool.and_eq_true, Bool.or_eq_true, not_true_eq_false, not_false_eq_true] at h)
  · have hi' : i < A[b].length := by omega
    have hst := foldl_take_succ (f := nearAdd A) (b := (-1 : Int)) hi'
    have ha := hA A[b][i] (List.getElem_mem hi')
    generalize (A[b].take i).foldl (nearAdd A) (-1) = best at h1 h2 hst ⊢
    (repeat (first | (simp (disch := (first | omega | (simp only [evF, evL, implies_true, and_self]; done) | fail)) only [evS, evZ, evK, evB, evL, evR, Nat.reduceBEq, Nat.reduceAdd, Nat.reduceLeDiff, boxR, rboxR, allocR, fldR, binI, unR, pickR, mknilR, mkslR, buildSlR, buildR, extR, convI, eqB, evU, wrap64, encNN, getD_map hb, getD_map hi', encNats]) | (with_reducible intro _) | ((with_reducible apply And.intro); omega)))
    have hgo : ∀ v, v = nearAdd A best A[b][i] → -1 ≤ v ∧ v < A.length ∧ (A[b].take (i + 1)).foldl (nearAdd A) (-1) = v := by
      rintro v rfl
      refine ⟨?_, ?_, hst⟩ <;> unfold nearAdd <;> split <;> omega
    generalize h3 : decide (best < 0) = h3b; cases h3b <;> simp only [decide_eq_true_eq, decide_eq_false_iff_not, ne_eq, Classical.not_not] at h3
    · have hbn : best.toNat < A.length := by omega
      (repeat (first | (simp (disch := (first | omega | (simp only [evF, evL, implies_true, and_self]; done) | fail)) only [evS, evZ, evK, evB, evL, evR, Nat.reduceBEq, Nat.reduceAdd, Nat.reduceLeDiff, boxR, rboxR, allocR, fldR, binI, unR, pickR, mknilR, mkslR, buildSlR, buildR, extR, convI, eqB, evU, wrap64, getD_map ha, getD_map hbn]) | (with_reducible intro _) | ((with_reducible apply And.intro); omega)))
      (refine condX_intro (fun h4 => ?_) (fun h4 => ?_)) <;> (try simp only [decide_eq_true_eq, decide_eq_false_iff_not, Bool.not_eq_true', Bool.not_eq_false', Bool.and_eq_true, Bool.or_eq_true, not_true_eq_false, not_false_eq_true] at h4)
      · obtain ⟨k1, k2, k3⟩ := hgo A[b][i] (by unfold nearAdd; rw [if_pos (.inr (by rw [suc_get hbn, suc_get ha]; omega))])
        (repeat (first | (simp (disch := (first | omega | (simp only [evF, evL, implies_true, and_self]; done) | fail)) only [evS, evZ, evK, evB, evL, evR, Nat.reduceBEq, Nat.reduceAdd, Nat.reduceLeDiff, boxR, rboxR, allocR, fldR, binI, unR, pickR, mknilR, mkslR, buildSlR, buildR, extR, convI, eqB, evU, wrap64]) | (with_reducible intro _) | ((with_reducible apply And.intro); omega)))
        refine ⟨i + 1, ⟨by omega, by rw [k3]; omega, by rw [k3]; omega⟩, by omega, ?_⟩
        rw [k3]
        exact Ent.keep rfl (by (try simp [subK, Kn.get, beq_eq]) <;> (repeat' with_reducible apply And.intro) <;> first | rfl | omega | (simp; done))
      · obtain ⟨k1, k2, k3⟩ := hgo best (by unfold nearAdd; rw [if_neg (by rintro (h | h); exact h3 h; rw [suc_get hbn, suc_get ha] at h; omega)])
        (repeat (first | (simp (disch := (first | omega | (simp only [evF, evL, implies_true, and_self]; done) | fail)) only [evS, evZ, evK, evB, evL, evR, Nat.reduceBEq, Nat.reduceAdd, Nat.reduceLeDiff, boxR, rboxR, allocR, fldR, binI, unR, pickR, mknilR, mkslR, buildSlR, buildR, extR, convI, eqB, evU, wrap64]) | (with_reducible intro _) | ((with_reducible apply And.intro); omega)))
        refine ⟨i + 1, ⟨by omega, by rw [k3]; omega, by rw [k3]; omega⟩, by omega, ?_⟩
        rw [k3]
        exact Ent.keep rfl (by (try simp [subK, Kn.get, beq_eq]) <;> (repeat' with_reducible apply And.intro) <;> first | rfl | omega | (simp; done))
    · obtain ⟨k1, k2, k3⟩ := hgo A[b][i] (by unfold nearAdd; rw [if_pos (.inl h3)])
      (repeat (first | (simp (disch := (first | omega | (simp only [evF, evL, implies_true, and_self]; done) | fail)) only [evS, evZ, evK, evB, evL, evR, Nat.reduceBEq, Nat.reduceAdd, Nat.reduceLeDiff, boxR, rboxR, allocR, fldR, binI, unR, pickR, mknilR, mkslR, buildSlR, buildR, extR, convI, eqB, evU, wrap64]) | (with_reducible intro _) | ((with_reducible apply And.intro); omega)))
      refine ⟨i + 1, ⟨by omega, by rw [k3]; omega, by rw [k3]; omega⟩, by omega, ?_⟩
      rw [k3]
      exact Ent.keep rfl (by (try simp [subK, Kn.get, beq_eq]) <;> (repeat' with_reducible apply And.intro) <;> first | rfl | omega | (simp; done))
  · unfold ac_R24_nearest_k1
    (repeat (first | (simp (disch := (first | omega | (simp only [evF, evL, implies_true, and_self]; done) | fail)) only [evS, evZ, evK, evB, evL, evR, Nat.reduceBEq, Nat.reduceAdd, Nat.reduceLeDiff, boxR, rboxR, allocR, fldR, binI, unR, pickR, mknilR, mkslR, buildSlR, buildR, extR, convI, eqB, evU, wrap64, rs_R24_nearest]) | (with_reducible intro _) | ((with_reducible apply And.intro); omega)))
    rw [List.take_of_length_le (show A[b].length ≤ i by omega)]
    exact ⟨_, .int _ _ _, rfl⟩

theorem R24_leaves_ok (g : Gr) (hg : g.small) (l : List Nat) (hl : ∀ k ∈ l, k < g.blocks.length) : PureFn Try.prog f_R24_leaves [.agg g.cells, encNats l] (· = .bool (leavesL g.E l)) := by
  refine fn_x cf_R24_leaves rfl ?_
  unfold ac_R24_leaves
  have hB : big = 9223372036854775807 := rfl
  unfold leavesL
  (repeat (first | (simp (disch := (first | omega | (simp only [evF, evL, implies_true, and_self]; done) | fail)) only [evS, evZ, evK, evB, evL, evR, Nat.reduceBEq, Nat.reduceAdd, Nat.reduceLeDiff, boxR, rboxR, allocR, fldR, binI, unR, pickR, mknilR, mkslR, buildSlR, buildR, extR, convI, eqB, evU, wrap64, Gr.cells]) | (with_reducible intro _) | ((with_reducible apply And.intro); omega)))
  refine loopX_intro (fun i : Nat => ([(1, encNats l), (2, encP 2 g.cells), (5, .int .i64 i)], [])) 0 (fun i => i ≤ l.length ∧ (l.take i).any (fun k => (suc g.E k).isEmpty) = false) (fun i => l.length - i) 0 ⟨Nat.zero_le _, by simp⟩ (Ent.keep rfl (by (try simp [subK, Kn.get, beq_eq]) <;> (repeat' with_reducible apply And.intro) <;> first | rfl | omega | (simp; done))) ?_
  intro i ⟨hi, h1⟩ wf
  unfold ac_R24_leaves_l0
  (repeat (first | (simp (disch := (first | omega | (simp only [evF, evL, implies_true, and_self]; done) | fail)) only [evS, evZ, evK, evB, evL, evR, Nat.reduceBEq, Nat.reduceAdd, Nat.reduceLeDiff, boxR, rboxR, allocR, fldR, binI, unR, pickR, mknilR, mkslR, buildSlR, buildR, extR, convI, eqB, evU, wrap64, encP, Gr.cells, encNats]) | (with_reducible intro _) | ((with_reducible apply And.intro); omega)))
  (refine condX_intro (fun h => ?_) (fun h => ?_)) <;> (try simp only [decide_eq_true_eq, decide_eq_false_iff_not, Bool.not_eq_true', Bool.not_eq_false', Bool.and_eq_true, Bool.or_eq_true, not_true_eq_false, not_false_eq_true] at h)
  · have hi' : i < l.length := by omega
    have hk := hl l[i] (List.getElem_mem hi')
    (repeat (first | (simp (disch := (first | omega | (simp only [evF, evL, implies_true, and_self]; done) | fail)) only [evS, evZ, evK, evB, evL, evR, Nat.reduceBEq, Nat.reduceAdd, Nat.reduceLeDiff, boxR, rboxR, allocR, fldR, binI, unR, pickR, mknilR, mkslR, buildSlR, buildR, extR, convI, eqB, evU, wrap64, getD_map hi', Gr.two]) | (with_reducible intro _) | ((with_reducible apply And.intro); omega)))
    refine callqX_fix (call_flat (R24_Edges_ok g hg l[i] hk) rfl) ?_
    (repeat (first | (simp (disch := (first | omega | (simp only [evF, evL, implies_true, and_self]; done) | fail)) only [evS, evZ, evK, evB, evL, evR, Nat.reduceBEq, Nat.reduceAdd, Nat.reduceLeDiff, boxR, rboxR, allocR, fldR, binI, unR, pickR, mknilR, mkslR, buildSlR, buildR, extR, convI, eqB, evU, wrap64, encNats]) | (with_reducible intro _) | ((with_reducible apply And.intro); omega)))
    (refine condX_intro (fun h2 => ?_) (fun h2 => ?_)) <;> (try simp only [decide_eq_true_eq, decide_eq_false_iff_not, Bool.not_eq_true', Bool.not_eq_false', Bool.and_eq_true, Bool.or_eq_true, not_true_eq_false, not_false_eq_true] at h2)
    · (repeat (first | (simp (disch := (first | omega | (simp only [evF, evL, implies_true, and_self]; done) | fail)) only [evS, evZ, evK, evB, evL, evR, Nat.reduceBEq, Nat.reduceAdd, Nat.reduceLeDiff, boxR, rboxR, allocR, fldR, binI, unR, pickR, mknilR, mkslR, buildSlR, buildR, extR, convI, eqB, evU, wrap64, rs_R24_leaves]) | (with_reducible intro _) | ((with_reducible apply And.intro); omega)))
      refine ⟨_, .bool _ _, ?_⟩
      have : l.any (fun k => (suc g.E k).isEmpty) = true := List.any_eq_true.2 ⟨l[i], List.getElem_mem hi', by rw [List.isEmpty_iff]; exact List.eq_nil_of_length_eq_zero (by omega)⟩
      rw [this]
    · (repeat (first | (simp (disch := (first | omega | (simp only [evF, evL, implies_true, and_self]; done) | fail)) only [evS, evZ, evK, evB, evL, evR, Nat.reduceBEq, Nat.reduceAdd, Nat.reduceLeDiff, boxR, rboxR, allocR, fldR, binI, unR, pickR, mknilR, mkslR, buildSlR, buildR, extR, convI, eqB, evU, wrap64]) | (with_reducible intro _) | ((with_reducible apply And.intro); omega)))
      refine ⟨i + 1, ⟨by omega, ?_⟩, by omega, Ent.keep rfl (by (try simp [subK, Kn.get, beq_eq]) <;> (repeat' with_reducible apply And.intro) <;> first | rfl | omega | (simp; done))⟩
      rw [List.take_add_one, List.getElem?_eq_getElem hi', List.any_append, h1]
      simp only [Option.toList, List.any_cons, List.any_nil, Bool.or_false, Bool.false_or]
      cases he : suc g.E l[i] with
      | nil => rw [he] at h2; exact absurd rfl h2
      | cons a t => rfl
  · unfold ac_R24_leaves_k1
    (repeat (first | (simp (disch := (first | omega | (simp only [evF, evL, implies_true, and_self]; done) | fail)) only [evS, evZ, evK, evB, evL, evR, Nat.reduceBEq, Nat.reduceAdd, Nat.reduceLeDiff, boxR, rboxR, allocR, fldR, binI, unR, pickR, mknilR, mkslR, buildSlR, buildR, extR, convI, eqB, evU, wrap64, rs_R24_leaves]) | (with_reducible intro _) | ((with_reducible apply And.intro); omega)))
    rw [List.take_of_length_le (show l.length ≤ i by omega)] at h1
    rw [h1]
    exact ⟨_, .bool _ _, rfl⟩

theorem R24_Dominates_ok (t : List Int) (a b : Int) (ht : t.length ≤ 1000) : PureFn Try.prog f_R24_Dominates [encInts t, .int .i64 a, .int .i64 b] (· = .bool (domL t a b)) := by
  refine fn_x cf_R24_Dominates rfl ?_
  unfold ac_R24_Dominates
  have hB : big = 9223372036854775807 := rfl
  unfold domL
  (repeat (first | (simp (disch := (first | omega | (simp only [evF, evL, implies_true, and_self]; done) | fail)) only [evS, evZ, evK, evB, evL, evR, Nat.reduceBEq, Nat.reduceAdd, Nat.reduceLeDiff, boxR, rboxR, allocR, fldR, binI, unR, pickR, mknilR, mkslR, buildSlR, buildR, extR, convI, eqB, evU, wrap64, encInts]) | (with_reducible intro _) | ((with_reducible apply And.intro); omega)))
  generalize h1 : decide (a < 0) = h1b; cases h1b <;> simp only [decide_eq_true_eq, decide_eq_false_iff_not, ne_eq, Classical.not_not] at h1
  rotate_left
  · (repeat (first | (simp (disch := (first | omega | (simp only [evF, evL, implies_true, and_self]; done) | fail)) only [evS, evZ, evK, evB, evL, evR, Nat.reduceBEq, Nat.reduceAdd, Nat.reduceLeDiff, boxR, rboxR, allocR, fldR, binI, unR, pickR, mknilR, mkslR, buildSlR, buildR, extR, convI, eqB, evU, wrap64, rs_R24_Dominates]) | (with_reducible intro _) | ((with_reducible apply And.intro); omega)))
    rw [if_pos (.inl h1)]
    exact ⟨_, .bool _ _, rfl⟩
  (repeat (first | (simp (disch := (first | omega | (simp only [evF, evL, implies_true, and_self]; done) | fail)) only [evS, evZ, evK, evB, evL, evR, Nat.reduceBEq, Nat.reduceAdd, Nat.reduceLeDiff, boxR, rboxR, allocR, fldR, binI, unR, pickR, mknilR, mkslR, buildSlR, buildR, extR, convI, eqB, evU, wrap64]) | (with_reducible intro _) | ((with_reducible apply And.intro); omega)))
  (refine condX_intro (fun h2 => ?_) (fun h2 => ?_)) <;> (try simp only [decide_eq_true_eq, decide_eq_false_iff_not, Bool.not_eq_true', Bool.not_eq_false', Bool.and_eq_true, Bool.or_eq_true, not_true_eq_false, not_false_eq_true] at h2)
  · (repeat (first | (simp (disch := (first | omega | (simp only [evF, evL, implies_true, and_self]; done) | fail)) only [evS, evZ, evK, evB, evL, evR, Nat.reduceBEq, Nat.reduceAdd, Nat.reduceLeDiff, boxR, rboxR, allocR, fldR, binI, unR, pickR, mknilR, mkslR, buildSlR, buildR, extR, convI, eqB, evU, wrap64, rs_R24_Dominates]) | (with_reducible intro _) | ((with_reducible apply And.intro); omega)))
    rw [if_pos (.inr h2)]
    exact ⟨_, .bool _ _, rfl⟩
  rw [if_neg (by omega)]
  (repeat (first | (simp (disch := (first | omega | (simp only [evF, evL, implies_true, and_self]; done) | fail)) only [evS, evZ, evK, evB, evL, evR, Nat.reduceBEq, Nat.reduceAdd, Nat.reduceLeDiff, boxR, rboxR, allocR, fldR, binI, unR, pickR, mknilR, mkslR, buildSlR, buildR, extR, convI, eqB, evU, wrap64]) | (with_reducible intro _) | ((with_reducible apply And.intro); omega)))
  refine loopX_intro (fun s : Nat × Int => ([(0, encInts t), (1, .int .i64 a), (2, .int .i64 s.2), (7, .int .i64 s.1)], [])) 0 (fun s => s.1 ≤ t.length + 1 ∧ domGo t a (t.length + 1 - s.1) s.2 = domGo t a (t.length + 1) b) (fun s => t.length + 1 - s.1) (0, b) ⟨Nat.zero_le _, rfl⟩ (Ent.keep rfl (by (try simp [subK, Kn.get, beq_eq]) <;> (repeat' with_reducible apply And.intro) <;> first | rfl | omega | (simp; done))) ?_
  rintro ⟨i, c⟩ ⟨hi, hgo⟩ wf
  simp only at hi hgo
  rw [← hgo]
  unfold ac_R24_Dominates_l0
  (repeat (first | (simp (disch := (first | omega | (simp only [evF, evL, implies_true, and_self]; done) | fail)) only [evS, evZ, evK, evB, evL, evR, Nat.reduceBEq, Nat.reduceAdd, Nat.reduceLeDiff, boxR, rboxR, allocR, fldR, binI, unR, pickR, mknilR, mkslR, buildSlR, buildR, extR, convI, eqB, evU, wrap64, encInts]) | (with_reducible intro _) | ((with_reducible apply And.intro); omega)))
  have fin : (¬ (i ≤ t.length) ∨ ¬ (0 ≤ c) ∨ ¬ (c < t.length)) → domGo t a (t.length + 1 - i) c = false := by
    intro h
    cases hm : t.length + 1 - i with
    | zero => rfl
    | succ m => simp only [domGo]; rw [if_neg (by omega)]
  generalize h3 : decide ((i : Int) ≤ t.length) = h3b; cases h3b <;> simp only [decide_eq_true_eq, decide_eq_false_iff_not, ne_eq, Classical.not_not] at h3
  · (repeat (first | (simp (disch := (first | omega | (simp only [evF, evL, implies_true, and_self]; done) | fail)) only [evS, evZ, evK, evB, evL, evR, Nat.reduceBEq, Nat.reduceAdd, Nat.reduceLeDiff, boxR, rboxR, allocR, fldR, binI, unR, pickR, mknilR, mkslR, buildSlR, buildR, extR, convI, eqB, evU, wrap64]) | (with_reducible intro _) | ((with_reducible apply And.intro); omega)))
    unfold ac_R24_Dominates_k1
    (repeat (first | (simp (disch := (first | omega | (simp only [evF, evL, implies_true, and_self]; done) | fail)) only [evS, evZ, evK, evB, evL, evR, Nat.reduceBEq, Nat.reduceAdd, Nat.reduceLeDiff, boxR, rboxR, allocR, fldR, binI, unR, pickR, mknilR, mkslR, buildSlR, buildR, extR, convI, eqB, evU, wrap64, rs_R24_Dominates]) | (with_reducible intro _) | ((with_reducible apply And.intro); omega)))
    rw [fin (.inl (by omega))]
    exact ⟨_, .bool _ _, rfl⟩
  (repeat (first | (simp (disch := (first | omega | (simp only [evF, evL, implies_true, and_self]; done) | fail)) only [evS, evZ, evK, evB, evL, evR, Nat.reduceBEq, Nat.reduceAdd, Nat.reduceLeDiff, boxR, rboxR, allocR, fldR, binI, unR, pickR, mknilR, mkslR, buildSlR, buildR, extR, convI, eqB, evU, wrap64]) | (with_reducible intro _) | ((with_reducible apply And.intro); omega)))
  generalize h4 : decide (c ≥ 0) = h4b; cases h4b <;> simp only [decide_eq_true_eq, decide_eq_false_iff_not, ne_eq, Classical.not_not] at h4
  · (repeat (first | (simp (disch := (first | omega | (simp only [evF, evL, implies_true, and_self]; done) | fail)) only [evS, evZ, evK, evB, evL, evR, Nat.reduceBEq, Nat.reduceAdd, Nat.reduceLeDiff, boxR, rboxR, allocR, fldR, binI, unR, pickR, mknilR, mkslR, buildSlR, buildR, extR, convI, eqB, evU, wrap64]) | (with_reducible intro _) | ((with_reducible apply And.intro); omega)))
    unfold ac_R24_Dominates_k1
    (repeat (first | (simp (disch := (first | omega | (simp only [evF, evL, implies_true, and_self]; done) | fail)) only [evS, evZ, evK, evB, evL, evR, Nat.reduceBEq, Nat.reduceAdd, Nat.reduceLeDiff, boxR, rboxR, allocR, fldR, binI, unR, pickR, mknilR, mkslR, buildSlR, buildR, extR, convI, eqB, evU, wrap64, rs_R24_Dominates]) | (with_reducible intro _) | ((with_reducible apply And.intro); omega)))
    rw [fin (.inr (.inl (by omega)))]
    exact ⟨_, .bool _ _, rfl⟩
  (repeat (first | (simp (disch := (first | omega | (simp only [evF, evL, implies_true, and_self]; done) | fail)) only [evS, evZ, evK, evB, evL, evR, Nat.reduceBEq, Nat.reduceAdd, Nat.reduceLeDiff, boxR, rboxR, allocR, fldR, binI, unR, pickR, mknilR, mkslR, buildSlR, buildR, extR, convI, eqB, evU, wrap64]) | (with_reducible intro _) | ((with_reducible apply And.intro); omega)))
  (refine condX_intro (fun h5 => ?_) (fun h5 => ?_)) <;> (try simp only [decide_eq_true_eq, decide_eq_false_iff_not, Bool.not_eq_true', Bool.not_eq_false', Bool.and_eq_true, Bool.or_eq_true, not_true_eq_false, not_false_eq_true] at h5)
  · obtain ⟨m, hm⟩ : ∃ m, t.length + 1 - i = m + 1 := ⟨t.length - i, by omega⟩
    have hct : c.toNat < t.length := by omega
    have hs : domGo t a (t.length + 1 - i) c = if a = c then true else domGo t a m (t[c.toNat]) := by
      rw [hm]
      simp only [domGo]
      rw [if_pos ⟨by omega, h5⟩, List.getD_eq_getElem?_getD, List.getElem?_eq_getElem hct, Option.getD_some]
    (repeat (first | (simp (disch := (first | omega | (simp only [evF, evL, implies_true, and_self]; done) | fail)) only [evS, evZ, evK, evB, evL, evR, Nat.reduceBEq, Nat.reduceAdd, Nat.reduceLeDiff, boxR, rboxR, allocR, fldR, binI, unR, pickR, mknilR, mkslR, buildSlR, buildR, extR, convI, eqB, evU, wrap64]) | (with_reducible intro _) | ((with_reducible apply And.intro); omega)))
    (refine condX_intro (fun h6 => ?_) (fun h6 => ?_)) <;> (try simp only [decide_eq_true_eq, decide_eq_false_iff_not, Bool.not_eq_true', Bool.not_eq_false', Bool.and_eq_true, Bool.or_eq_true, not_true_eq_false, not_false_eq_true] at h6)
    · (repeat (first | (simp (disch := (first | omega | (simp only [evF, evL, implies_true, and_self]; done) | fail)) only [evS, evZ, evK, evB, evL, evR, Nat.reduceBEq, Nat.reduceAdd, Nat.reduceLeDiff, boxR, rboxR, allocR, fldR, binI, unR, pickR, mknilR, mkslR, buildSlR, buildR, extR, convI, eqB, evU, wrap64, rs_R24_Dominates]) | (with_reducible intro _) | ((with_reducible apply And.intro); omega)))
      rw [hs, if_pos h6]
      exact ⟨_, .bool _ _, rfl⟩
    · rw [if_neg h6] at hs
      (repeat (first | (simp (disch := (first | omega | (simp only [evF, evL, implies_true, and_self]; done) | fail)) only [evS, evZ, evK, evB, evL, evR, Nat.reduceBEq, Nat.reduceAdd, Nat.reduceLeDiff, boxR, rboxR, allocR, fldR, binI, unR, pickR, mknilR, mkslR, buildSlR, buildR, extR, convI, eqB, evU, wrap64, getD_map hct]) | (with_reducible intro _) | ((with_reducible apply And.intro); omega)))
      refine ⟨(i + 1, t[c.toNat]), ⟨by simp only; omega, ?_⟩, by simp only; omega, Ent.keep rfl (by (try simp [subK, Kn.get, beq_eq]) <;> (repeat' with_reducible apply And.intro) <;> first | rfl | omega | (simp; done))⟩
      simp only
      rw [hs, show t.length + 1 - (i + 1) = m by omega]
  · (repeat (first | (simp (disch := (first | omega | (simp only [evF, evL, implies_true, and_self]; done) | fail)) only [evS, evZ, evK, evB, evL, evR, Nat.reduceBEq, Nat.reduceAdd, Nat.reduceLeDiff, boxR, rboxR, allocR, fldR, binI, unR, pickR, mknilR, mkslR, buildSlR, buildR, extR, convI, eqB, evU, wrap64]) | (with_reducible intro _) | ((with_reducible apply And.intro); omega)))
    unfold ac_R24_Dominates_k1
    (repeat (first | (simp (disch := (first | omega | (simp only [evF, evL, implies_true, and_self]; done) | fail)) only [evS, evZ, evK, evB, evL, evR, Nat.reduceBEq, Nat.reduceAdd, Nat.reduceLeDiff, boxR, rboxR, allocR, fldR, binI, unR, pickR, mknilR, mkslR, buildSlR, buildR, extR, convI, eqB, evU, wrap64, rs_R24_Dominates]) | (with_reducible intro _) | ((with_reducible apply And.intro); omega)))
    rw [fin (.inr (.inr h5))]
    exact ⟨_, .bool _ _, rfl⟩

end Go.Ab

namespace Go.Ab
open Go.RowKit Go.Proofs

theorem fromGo_nd {E : Adj} (hE : E.ok) {x : Int} : ∀ {f i : Nat} {out : List Nat}, NdL E.length out → NdL E.length (fromGo E x f i out)
  | 0, _, _, h => h
  | f + 1, i, out, h => by
    simp only [fromGo]
    cases hb : out[i]? with
    | none => exact h
    | some b => exact fromGo_nd hE (h.fold (fun c hc => hE b c hc))

theorem fromL_nd {E : Adj} (hE : E.ok) (a x : Int) : NdL E.length (fromL E a x) := by
  unfold fromL
  split
  · exact ⟨by simp, by simp⟩
  · exact fromGo_nd hE ⟨by simp, fun b hb => by simp at hb; omega⟩

/-- The strict dominators below a, and at a those of the first i nodes. -/
def sLL (E : Adj) (a : Nat) (b : Nat) : List Nat := filR (fun a => sdomP E a b) a
def sLi (E : Adj) (a i : Nat) (b : Nat) : List Nat := sLL E a b ++ if b ∈ (fromL E 0 (-1)).take i ∧ b ≠ a ∧ b ∉ fromL E 0 a then [a] else []

theorem sLL_out {E : Adj} {a : Nat} (ha : a ∉ fromL E 0 (-1)) : sLL E (a + 1) = sLL E a := by
  funext b
  exact filR_neg (by simp [sdomP, ha])

theorem sLL_zero {E : Adj} : sLL E 0 = fun _ => [] := rfl

theorem sLi_zero {E : Adj} {a : Nat} : sLi E a 0 = sLL E a := by
  funext b
  simp [sLi]

theorem sLi_end {E : Adj} {a : Nat} (ha : a ∈ fromL E 0 (-1)) : sLi E a (fromL E 0 (-1)).length = sLL E (a + 1) := by
  funext b
  unfold sLi
  rw [List.take_length]
  cases h : sdomP E a b with
  | true =>
    have e : sLL E (a + 1) b = sLL E a b ++ [a] := filR_pos h
    rw [e, if_pos (by simpa [sdomP, ha, and_assoc] using h)]
  | false =>
    have e : sLL E (a + 1) b = sLL E a b := filR_neg h
    rw [e, if_neg (by intro hc; have : sdomP E a b = true := by simp [sdomP, ha, hc.1, hc.2.1, hc.2.2]
                      rw [h] at this; cases this), List.append_nil]

theorem sLi_yes {E : Adj} {a i : Nat} (hnd : (fromL E 0 (-1)).Nodup) (hi : i < (fromL E 0 (-1)).length) (h1 : (fromL E 0 (-1))[i] ≠ a) (h2 : (fromL E 0 (-1))[i] ∉ fromL E 0 a) :
    updF (sLi E a i) (fromL E 0 (-1))[i] (sLi E a i (fromL E 0 (-1))[i] ++ [a]) = sLi E a (i + 1) := by
  have hnot : (fromL E 0 (-1))[i] ∉ (fromL E 0 (-1)).take i := by
    intro h
    obtain ⟨j, hj, he⟩ := List.mem_iff_getElem.1 h
    simp only [List.length_take] at hj
    rw [List.getElem_take] at he
    have := (List.getElem_inj hnd).1 he
    omega
  funext b
  unfold updF sLi
  rw [List.take_add_one, List.getElem?_eq_getElem hi]
  simp only [Option.toList, List.mem_append, List.mem_singleton]
  by_cases hb : b = (fromL E 0 (-1))[i]
  · subst hb
    rw [if_pos rfl, if_neg (fun h => hnot h.1), if_pos ⟨.inr rfl, h1, h2⟩, List.append_nil]
  · rw [if_neg hb]
    simp only [hb, or_false]

theorem sLi_no {E : Adj} {a i : Nat} (hi : i < (fromL E 0 (-1)).length) (h : ¬ ((fromL E 0 (-1))[i] ≠ a ∧ (fromL E 0 (-1))[i] ∉ fromL E 0 a)) : sLi E a i = sLi E a (i + 1) := by
  funext b
  unfold sLi
  rw [List.take_add_one, List.getElem?_eq_getElem hi]
  simp only [Option.toList, List.mem_append, List.mem_singleton]
  by_cases hb : b = (fromL E 0 (-1))[i]
  · subst hb
    rw [if_neg (fun hh => h hh.2), if_neg (fun hh => h hh.2)]
  · simp only [hb, or_false]

theorem sLi_len {E : Adj} {a i b : Nat} : (sLi E a i b).length ≤ a + 1 := by
  unfold sLi sLL
  have := filR_le (p := fun a => sdomP E a b) (n := a)
  rw [List.length_append]
  split <;> simp <;> omega

theorem encNN_mapR (f : Nat → List Nat) (n : Nat) : encNN (mapR f n) = encL 1 (fun l => [encL 1 cN l]) ((List.range n).map f) := rfl

theorem R24_strict_ok (g : Gr) (hg : g.small) : PureFn Try.prog f_R24_strict [.agg g.cells] (· = encNN (strictL g.E)) := by
  refine fn_x cf_R24_strict rfl ?_
  unfold ac_R24_strict
  have hB : big = 9223372036854775807 := rfl
  have hlen := g.E_len
  have hn := hg.1
  (repeat (first | (simp (disch := (first | omega | (simp only [evF, evL, implies_true, and_self]; done) | fail)) only [evS, evZ, evK, evB, evL, evR, Nat.reduceBEq, Nat.reduceAdd, Nat.reduceLeDiff, boxR, rboxR, allocR, fldR, binI, unR, pickR, mknilR, mkslR, buildSlR, buildR, extR, convI, eqB, evU, wrap64, Gr.cells, Gr.two]) | (with_reducible intro _) | ((with_reducible apply And.intro); omega)))
  refine callX_fix (call_flat (R24_from_ok g hg 0 (-1)) rfl) ?_
  have hres : strictL g.E = mapR (sLL g.E g.blocks.length) g.blocks.length := by unfold strictL; rw [hlen]; rfl
  rw [hres]
  have hall := fromL_nd g.E_ok 0 (-1)
  have hallen := hall.len
  (repeat (first | (simp (disch := (first | omega | (simp only [evF, evL, implies_true, and_self]; done) | fail)) only [evS, evZ, evK, evB, evL, evR, Nat.reduceBEq, Nat.reduceAdd, Nat.reduceLeDiff, boxR, rboxR, allocR, fldR, binI, unR, pickR, mknilR, mkslR, buildSlR, buildR, extR, convI, eqB, evU, wrap64]) | (with_reducible intro _) | ((with_reducible apply And.intro); omega)))
  refine loopX_intro (fun s : Nat × (Nat → Nat) => ([(1, encP 2 g.cells), (3, .own 0 0 0 0 g.blocks.length), (4, encNats (fromL g.E 0 (-1))), (5, .int .i64 s.1)], [(0, .row 1 (fe 1 g.blocks.length (sLL g.E s.1) s.2) 0), (1, .fam 1 (fi cN g.blocks.length (sLL g.E s.1) s.2))])) 2
    (fun s => s.1 ≤ g.blocks.length) (fun s => g.blocks.length - s.1) (0, fun _ => 0) (Nat.zero_le _) (Ent.tab [(0, 1, 0)] [] rfl (by (try simp only [evW, evK, evB, evL, Nat.reduceBEq, Nat.reduceAdd, Nat.reduceSub, Nat.reduceLeDiff, Nat.reduceLT, implies_true, and_self, Int.natCast_zero, Int.natCast_one, Int.cast_ofNat_Int, evV, encInts, encNats, encBools, encP, Gr.cells, sLL_zero]) <;> (repeat' with_reducible apply And.intro) <;> first | omega | exact vw_nats rfl rfl (by omega) | exact vw_ints rfl rfl (by omega) | exact vw_bools rfl rfl (by omega) | exact rowV_fe (fun _ => rfl) | exact rowV_fe_start (c := cN) (fun _ => rfl) rfl | exact rowsV_fam (fun _ => rfl) (by decide) ⟨rfl, rfl⟩ trivial | exact rowsV_fam (fun _ => rfl) (by decide) (fun _ _ => ⟨rfl, rfl⟩) trivial | (simp; done)) (by (try simp only [evW, evK, evB, evL, Nat.reduceBEq, Nat.reduceAdd, Nat.reduceSub, Nat.reduceLeDiff, Nat.reduceLT, implies_true, and_self, Int.natCast_zero, Int.natCast_one, Int.cast_ofNat_Int, evV, encInts, encNats, encBools, encP, Gr.cells, sLL_zero]) <;> (repeat' with_reducible apply And.intro) <;> first | omega | exact vw_nats rfl rfl (by omega) | exact vw_ints rfl rfl (by omega) | exact vw_bools rfl rfl (by omega) | exact rowV_fe (fun _ => rfl) | exact rowV_fe_start (c := cN) (fun _ => rfl) rfl | exact rowsV_fam (fun _ => rfl) (by decide) ⟨rfl, rfl⟩ trivial | exact rowsV_fam (fun _ => rfl) (by decide) (fun _ _ => ⟨rfl, rfl⟩) trivial | (simp; done))) ?_
  rintro ⟨a, gs⟩ ha wf
  simp only at ha
  unfold ac_R24_strict_l2
  (repeat (first | (simp (disch := (first | omega | (simp only [evF, evL, implies_true, and_self]; done) | fail)) only [evS, evZ, evK, evB, evL, evR, Nat.reduceBEq, Nat.reduceAdd, Nat.reduceLeDiff, boxR, rboxR, allocR, fldR, binI, unR, pickR, mknilR, mkslR, buildSlR, buildR, extR, convI, eqB, evU, wrap64, encP, Gr.cells]) | (with_reducible intro _) | ((with_reducible apply And.intro); omega)))
  (refine condX_intro (fun h => ?_) (fun h => ?_)) <;> (try simp only [decide_eq_true_eq, decide_eq_false_iff_not, Bool.not_eq_true', Bool.not_eq_false', Bool.and_eq_true, Bool.or_eq_true, not_true_eq_false, not_false_eq_true] at h)
  · (repeat (first | (simp (disch := (first | omega | (simp only [evF, evL, implies_true, and_self]; done) | fail)) only [evS, evZ, evK, evB, evL, evR, Nat.reduceBEq, Nat.reduceAdd, Nat.reduceLeDiff, boxR, rboxR, allocR, fldR, binI, unR, pickR, mknilR, mkslR, buildSlR, buildR, extR, convI, eqB, evU, wrap64]) | (with_reducible intro _) | ((with_reducible apply And.intro); omega)))
    refine callX_fix hasN_flat ?_
    (repeat (first | (simp (disch := (first | omega | (simp only [evF, evL, implies_true, and_self]; done) | fail)) only [evS, evZ, evK, evB, evL, evR, Nat.reduceBEq, Nat.reduceAdd, Nat.reduceLeDiff, boxR, rboxR, allocR, fldR, binI, unR, pickR, mknilR, mkslR, buildSlR, buildR, extR, convI, eqB, evU, wrap64]) | (with_reducible intro _) | ((with_reducible apply And.intro); omega)))
    (refine condX_intro (fun h2 => ?_) (fun h2 => ?_)) <;> (try simp only [decide_eq_true_eq, decide_eq_false_iff_not, Bool.not_eq_true', Bool.not_eq_false', Bool.and_eq_true, Bool.or_eq_true, not_true_eq_false, not_false_eq_true] at h2)
    · unfold ac_R24_strict_k1
      (repeat (first | (simp (disch := (first | omega | (simp only [evF, evL, implies_true, and_self]; done) | fail)) only [evS, evZ, evK, evB, evL, evR, Nat.reduceBEq, Nat.reduceAdd, Nat.reduceLeDiff, boxR, rboxR, allocR, fldR, binI, unR, pickR, mknilR, mkslR, buildSlR, buildR, extR, convI, eqB, evU, wrap64]) | (with_reducible intro _) | ((with_reducible apply And.intro); omega)))
      exact ⟨(a + 1, gs), by simp only; omega, by simp only; omega, (Ent.tab [(0, 0, 0), (1, 1, 0)] [] rfl (by (try simp only [evW, evK, evB, evL, Nat.reduceBEq, Nat.reduceAdd, Nat.reduceSub, Nat.reduceLeDiff, Nat.reduceLT, implies_true, and_self, Int.natCast_zero, Int.natCast_one, Int.cast_ofNat_Int, evV, encInts, encNats, encBools, encP, Gr.cells, sLL_out h2]) <;> (repeat' with_reducible apply And.intro) <;> first | omega | exact vw_nats rfl rfl (by omega) | exact vw_ints rfl rfl (by omega) | exact vw_bools rfl rfl (by omega) | exact rowV_fe (fun _ => rfl) | exact rowV_fe_start (c := cN) (fun _ => rfl) rfl | exact rowsV_fam (fun _ => rfl) (by decide) ⟨rfl, rfl⟩ trivial | exact rowsV_fam (fun _ => rfl) (by decide) (fun _ _ => ⟨rfl, rfl⟩) trivial | (simp; done)) (by (try simp only [evW, evK, evB, evL, Nat.reduceBEq, Nat.reduceAdd, Nat.reduceSub, Nat.reduceLeDiff, Nat.reduceLT, implies_true, and_self, Int.natCast_zero, Int.natCast_one, Int.cast_ofNat_Int, evV, encInts, encNats, encBools, encP, Gr.cells, sLL_out h2]) <;> (repeat' with_reducible apply And.intro) <;> first | omega | exact vw_nats rfl rfl (by omega) | exact vw_ints rfl rfl (by omega) | exact vw_bools rfl rfl (by omega) | exact rowV_fe (fun _ => rfl) | exact rowV_fe_start (c := cN) (fun _ => rfl) rfl | exact rowsV_fam (fun _ => rfl) (by decide) ⟨rfl, rfl⟩ trivial | exact rowsV_fam (fun _ => rfl) (by decide) (fun _ _ => ⟨rfl, rfl⟩) trivial | (simp; done)))⟩
    · (repeat (first | (simp (disch := (first | omega | (simp only [evF, evL, implies_true, and_self]; done) | fail)) only [evS, evZ, evK, evB, evL, evR, Nat.reduceBEq, Nat.reduceAdd, Nat.reduceLeDiff, boxR, rboxR, allocR, fldR, binI, unR, pickR, mknilR, mkslR, buildSlR, buildR, extR, convI, eqB, evU, wrap64, Gr.two]) | (with_reducible intro _) | ((with_reducible apply And.intro); omega)))
      refine callX_fix (call_flat (R24_from_ok g hg 0 a) rfl) ?_
      (repeat (first | (simp (disch := (first | omega | (simp only [evF, evL, implies_true, and_self]; done) | fail)) only [evS, evZ, evK, evB, evL, evR, Nat.reduceBEq, Nat.reduceAdd, Nat.reduceLeDiff, boxR, rboxR, allocR, fldR, binI, unR, pickR, mknilR, mkslR, buildSlR, buildR, extR, convI, eqB, evU, wrap64]) | (with_reducible intro _) | ((with_reducible apply And.intro); omega)))
      refine loopX_intro (fun s : Nat × (Nat → Nat) => ([(1, encP 2 g.cells), (3, .own 0 0 0 0 g.blocks.length), (4, encNats (fromL g.E 0 (-1))), (5, .int .i64 a), (6, encNats (fromL g.E 0 a)), (7, .int .i64 s.1)],
          [(0, .row 1 (fe 1 g.blocks.length (sLi g.E a s.1) s.2) 0), (1, .fam 1 (fi cN g.blocks.length (sLi g.E a s.1) s.2))])) 2
        (fun s => s.1 ≤ (fromL g.E 0 (-1)).length) (fun s => (fromL g.E 0 (-1)).length - s.1) (0, gs) (Nat.zero_le _) (Ent.tab [(0, 0, 0), (1, 1, 0)] [] rfl (by (try simp only [evW, evK, evB, evL, Nat.reduceBEq, Nat.reduceAdd, Nat.reduceSub, Nat.reduceLeDiff, Nat.reduceLT, implies_true, and_self, Int.natCast_zero, Int.natCast_one, Int.cast_ofNat_Int, evV, encInts, encNats, encBools, encP, Gr.cells, sLi_zero]) <;> (repeat' with_reducible apply And.intro) <;> first | omega | exact vw_nats rfl rfl (by omega) | exact vw_ints rfl rfl (by omega) | exact vw_bools rfl rfl (by omega) | exact rowV_fe (fun _ => rfl) | exact rowV_fe_start (c := cN) (fun _ => rfl) rfl | exact rowsV_fam (fun _ => rfl) (by decide) ⟨rfl, rfl⟩ trivial | exact rowsV_fam (fun _ => rfl) (by decide) (fun _ _ => ⟨rfl, rfl⟩) trivial | (simp; done)) (by (try simp only [evW, evK, evB, evL, Nat.reduceBEq, Nat.reduceAdd, Nat.reduceSub, Nat.reduceLeDiff, Nat.reduceLT, implies_true, and_self, Int.natCast_zero, Int.natCast_one, Int.cast_ofNat_Int, evV, encInts, encNats, encBools, encP, Gr.cells, sLi_zero]) <;> (repeat' with_reducible apply And.intro) <;> first | omega | exact vw_nats rfl rfl (by omega) | exact vw_ints rfl rfl (by omega) | exact vw_bools rfl rfl (by omega) | exact rowV_fe (fun _ => rfl) | exact rowV_fe_start (c := cN) (fun _ => rfl) rfl | exact rowsV_fam (fun _ => rfl) (by decide) ⟨rfl, rfl⟩ trivial | exact rowsV_fam (fun _ => rfl) (by decide) (fun _ _ => ⟨rfl, rfl⟩) trivial | (simp; done))) ?_
      rintro ⟨i, gs2⟩ hi wf
      simp only at hi
      unfold ac_R24_strict_l0
      (repeat (first | (simp (disch := (first | omega | (simp only [evF, evL, implies_true, and_self]; done) | fail)) only [evS, evZ, evK, evB, evL, evR, Nat.reduceBEq, Nat.reduceAdd, Nat.reduceLeDiff, boxR, rboxR, allocR, fldR, binI, unR, pickR, mknilR, mkslR, buildSlR, buildR, extR, convI, eqB, evU, wrap64, encP, Gr.cells, encNats]) | (with_reducible intro _) | ((with_reducible apply And.intro); omega)))
      (refine condX_intro (fun h3 => ?_) (fun h3 => ?_)) <;> (try simp only [decide_eq_true_eq, decide_eq_false_iff_not, Bool.not_eq_true', Bool.not_eq_false', Bool.and_eq_true, Bool.or_eq_true, not_true_eq_false, not_false_eq_true] at h3)
      · have hi' : i < (fromL g.E 0 (-1)).length := by omega
        have hlt := hall.lt _ (List.getElem_mem hi')
        have hyes := sLi_yes (a := a) hall.nd hi'
        have hno := sLi_no (a := a) hi'
        (repeat (first | (simp (disch := (first | omega | (simp only [evF, evL, implies_true, and_self]; done) | fail)) only [evS, evZ, evK, evB, evL, evR, Nat.reduceBEq, Nat.reduceAdd, Nat.reduceLeDiff, boxR, rboxR, allocR, fldR, binI, unR, pickR, mknilR, mkslR, buildSlR, buildR, extR, convI, eqB, evU, wrap64, getD_map hi']) | (with_reducible intro _) | ((with_reducible apply And.intro); omega)))
        generalize (fromL g.E 0 (-1))[i] = b at hlt hyes hno ⊢
        have hlt' : b < g.blocks.length := by omega
        generalize h4 : decide ((b : Int) ≠ a) = h4b; cases h4b <;> simp only [decide_eq_true_eq, decide_eq_false_iff_not, ne_eq, Classical.not_not] at h4
        · rw [hno (fun h => h.1 (by omega))]
          (repeat (first | (simp (disch := (first | omega | (simp only [evF, evL, implies_true, and_self]; done) | fail)) only [evS, evZ, evK, evB, evL, evR, Nat.reduceBEq, Nat.reduceAdd, Nat.reduceLeDiff, boxR, rboxR, allocR, fldR, binI, unR, pickR, mknilR, mkslR, buildSlR, buildR, extR, convI, eqB, evU, wrap64]) | (with_reducible intro _) | ((with_reducible apply And.intro); omega)))
          exact ⟨(i + 1, gs2), by simp only; omega, by simp only; omega, (Ent.tab [(0, 0, 0), (1, 1, 0)] [] rfl (by (try simp only [evW, evK, evB, evL, Nat.reduceBEq, Nat.reduceAdd, Nat.reduceSub, Nat.reduceLeDiff, Nat.reduceLT, implies_true, and_self, Int.natCast_zero, Int.natCast_one, Int.cast_ofNat_Int, evV, encInts, encNats, encBools, encP, Gr.cells]) <;> (repeat' with_reducible apply And.intro) <;> first | omega | exact vw_nats rfl rfl (by omega) | exact vw_ints rfl rfl (by omega) | exact vw_bools rfl rfl (by omega) | exact rowV_fe (fun _ => rfl) | exact rowV_fe_start (c := cN) (fun _ => rfl) rfl | exact rowsV_fam (fun _ => rfl) (by decide) ⟨rfl, rfl⟩ trivial | exact rowsV_fam (fun _ => rfl) (by decide) (fun _ _ => ⟨rfl, rfl⟩) trivial | (simp; done)) (by (try simp only [evW, evK, evB, evL, Nat.reduceBEq, Nat.reduceAdd, Nat.reduceSub, Nat.reduceLeDiff, Nat.reduceLT, implies_true, and_self, Int.natCast_zero, Int.natCast_one, Int.cast_ofNat_Int, evV, encInts, encNats, encBools, encP, Gr.cells]) <;> (repeat' with_reducible apply And.intro) <;> first | omega | exact vw_nats rfl rfl (by omega) | exact vw_ints rfl rfl (by omega) | exact vw_bools rfl rfl (by omega) | exact rowV_fe (fun _ => rfl) | exact rowV_fe_start (c := cN) (fun _ => rfl) rfl | exact rowsV_fam (fun _ => rfl) (by decide) ⟨rfl, rfl⟩ trivial | exact rowsV_fam (fun _ => rfl) (by decide) (fun _ _ => ⟨rfl, rfl⟩) trivial | (simp; done)))⟩
        · (repeat (first | (simp (disch := (first | omega | (simp only [evF, evL, implies_true, and_self]; done) | fail)) only [evS, evZ, evK, evB, evL, evR, Nat.reduceBEq, Nat.reduceAdd, Nat.reduceLeDiff, boxR, rboxR, allocR, fldR, binI, unR, pickR, mknilR, mkslR, buildSlR, buildR, extR, convI, eqB, evU, wrap64]) | (with_reducible intro _) | ((with_reducible apply And.intro); omega)))
          refine callX_fix hasN_flat ?_
          (repeat (first | (simp (disch := (first | omega | (simp only [evF, evL, implies_true, and_self]; done) | fail)) only [evS, evZ, evK, evB, evL, evR, Nat.reduceBEq, Nat.reduceAdd, Nat.reduceLeDiff, boxR, rboxR, allocR, fldR, binI, unR, pickR, mknilR, mkslR, buildSlR, buildR, extR, convI, eqB, evU, wrap64]) | (with_reducible intro _) | ((with_reducible apply And.intro); omega)))
          (refine condX_intro (fun h5 => ?_) (fun h5 => ?_)) <;> (try simp only [decide_eq_true_eq, decide_eq_false_iff_not, Bool.not_eq_true', Bool.not_eq_false', Bool.and_eq_true, Bool.or_eq_true, not_true_eq_false, not_false_eq_true] at h5)
          · have hy := hyes (by omega) h5
            have hll := sLi_len (E := g.E) (a := a) (i := i) (b := b)
            (repeat (first | (simp (disch := (first | omega | (simp only [evF, evL, implies_true, and_self]; done) | fail)) only [evS, evZ, evK, evB, evL, evR, Nat.reduceBEq, Nat.reduceAdd, Nat.reduceLeDiff, boxR, rboxR, allocR, fldR, binI, unR, pickR, mknilR, mkslR, buildSlR, buildR, extR, convI, eqB, evU, wrap64, fe_len, fe_get hlt', fi_get hlt', fi_snoc (c := cN) (a := a) (ca := [AV.int .i64 (a : Int)]) rfl, fe_snoc (ll := sLi g.E a i) (k := b) a rfl]) | (with_reducible intro _) | ((with_reducible apply And.intro); omega)))
            rw [hy]
            exact ⟨(i + 1, _), by simp only; omega, by simp only; omega, (Ent.tab [(0, 0, 0), (1, 1, 0)] [] rfl (by (try simp only [evW, evK, evB, evL, Nat.reduceBEq, Nat.reduceAdd, Nat.reduceSub, Nat.reduceLeDiff, Nat.reduceLT, implies_true, and_self, Int.natCast_zero, Int.natCast_one, Int.cast_ofNat_Int, evV, encInts, encNats, encBools, encP, Gr.cells]) <;> (repeat' with_reducible apply And.intro) <;> first | omega | exact vw_nats rfl rfl (by omega) | exact vw_ints rfl rfl (by omega) | exact vw_bools rfl rfl (by omega) | exact rowV_fe (fun _ => rfl) | exact rowV_fe_start (c := cN) (fun _ => rfl) rfl | exact rowsV_fam (fun _ => rfl) (by decide) ⟨rfl, rfl⟩ trivial | exact rowsV_fam (fun _ => rfl) (by decide) (fun _ _ => ⟨rfl, rfl⟩) trivial | (simp; done)) (by (try simp only [evW, evK, evB, evL, Nat.reduceBEq, Nat.reduceAdd, Nat.reduceSub, Nat.reduceLeDiff, Nat.reduceLT, implies_true, and_self, Int.natCast_zero, Int.natCast_one, Int.cast_ofNat_Int, evV, encInts, encNats, encBools, encP, Gr.cells]) <;> (repeat' with_reducible apply And.intro) <;> first | omega | exact vw_nats rfl rfl (by omega) | exact vw_ints rfl rfl (by omega) | exact vw_bools rfl rfl (by omega) | exact rowV_fe (fun _ => rfl) | exact rowV_fe_start (c := cN) (fun _ => rfl) rfl | exact rowsV_fam (fun _ => rfl) (by decide) ⟨rfl, rfl⟩ trivial | exact rowsV_fam (fun _ => rfl) (by decide) (fun _ _ => ⟨rfl, rfl⟩) trivial | (simp; done)))⟩
          · rw [hno (fun h => h.2 h5)]
            (repeat (first | (simp (disch := (first | omega | (simp only [evF, evL, implies_true, and_self]; done) | fail)) only [evS, evZ, evK, evB, evL, evR, Nat.reduceBEq, Nat.reduceAdd, Nat.reduceLeDiff, boxR, rboxR, allocR, fldR, binI, unR, pickR, mknilR, mkslR, buildSlR, buildR, extR, convI, eqB, evU, wrap64]) | (with_reducible intro _) | ((with_reducible apply And.intro); omega)))
            exact ⟨(i + 1, gs2), by simp only; omega, by simp only; omega, (Ent.tab [(0, 0, 0), (1, 1, 0)] [] rfl (by (try simp only [evW, evK, evB, evL, Nat.reduceBEq, Nat.reduceAdd, Nat.reduceSub, Nat.reduceLeDiff, Nat.reduceLT, implies_true, and_self, Int.natCast_zero, Int.natCast_one, Int.cast_ofNat_Int, evV, encInts, encNats, encBools, encP, Gr.cells]) <;> (repeat' with_reducible apply And.intro) <;> first | omega | exact vw_nats rfl rfl (by omega) | exact vw_ints rfl rfl (by omega) | exact vw_bools rfl rfl (by omega) | exact rowV_fe (fun _ => rfl) | exact rowV_fe_start (c := cN) (fun _ => rfl) rfl | exact rowsV_fam (fun _ => rfl) (by decide) ⟨rfl, rfl⟩ trivial | exact rowsV_fam (fun _ => rfl) (by decide) (fun _ _ => ⟨rfl, rfl⟩) trivial | (simp; done)) (by (try simp only [evW, evK, evB, evL, Nat.reduceBEq, Nat.reduceAdd, Nat.reduceSub, Nat.reduceLeDiff, Nat.reduceLT, implies_true, and_self, Int.natCast_zero, Int.natCast_one, Int.cast_ofNat_Int, evV, encInts, encNats, encBools, encP, Gr.cells]) <;> (repeat' with_reducible apply And.intro) <;> first | omega | exact vw_nats rfl rfl (by omega) | exact vw_ints rfl rfl (by omega) | exact vw_bools rfl rfl (by omega) | exact rowV_fe (fun _ => rfl) | exact rowV_fe_start (c := cN) (fun _ => rfl) rfl | exact rowsV_fam (fun _ => rfl) (by decide) ⟨rfl, rfl⟩ trivial | exact rowsV_fam (fun _ => rfl) (by decide) (fun _ _ => ⟨rfl, rfl⟩) trivial | (simp; done)))⟩
      · obtain rfl : i = (fromL g.E 0 (-1)).length := by omega
        unfold ac_R24_strict_k1
        rw [sLi_end h2]
        (repeat (first | (simp (disch := (first | omega | (simp only [evF, evL, implies_true, and_self]; done) | fail)) only [evS, evZ, evK, evB, evL, evR, Nat.reduceBEq, Nat.reduceAdd, Nat.reduceLeDiff, boxR, rboxR, allocR, fldR, binI, unR, pickR, mknilR, mkslR, buildSlR, buildR, extR, convI, eqB, evU, wrap64]) | (with_reducible intro _) | ((with_reducible apply And.intro); omega)))
        exact ⟨(a + 1, gs2), by simp only; omega, by simp only; omega, (Ent.tab [(0, 0, 0), (1, 1, 0)] [] rfl (by (try simp only [evW, evK, evB, evL, Nat.reduceBEq, Nat.reduceAdd, Nat.reduceSub, Nat.reduceLeDiff, Nat.reduceLT, implies_true, and_self, Int.natCast_zero, Int.natCast_one, Int.cast_ofNat_Int, evV, encInts, encNats, encBools, encP, Gr.cells]) <;> (repeat' with_reducible apply And.intro) <;> first | omega | exact vw_nats rfl rfl (by omega) | exact vw_ints rfl rfl (by omega) | exact vw_bools rfl rfl (by omega) | exact rowV_fe (fun _ => rfl) | exact rowV_fe_start (c := cN) (fun _ => rfl) rfl | exact rowsV_fam (fun _ => rfl) (by decide) ⟨rfl, rfl⟩ trivial | exact rowsV_fam (fun _ => rfl) (by decide) (fun _ _ => ⟨rfl, rfl⟩) trivial | (simp; done)) (by (try simp only [evW, evK, evB, evL, Nat.reduceBEq, Nat.reduceAdd, Nat.reduceSub, Nat.reduceLeDiff, Nat.reduceLT, implies_true, and_self, Int.natCast_zero, Int.natCast_one, Int.cast_ofNat_Int, evV, encInts, encNats, encBools, encP, Gr.cells]) <;> (repeat' with_reducible apply And.intro) <;> first | omega | exact vw_nats rfl rfl (by omega) | exact vw_ints rfl rfl (by omega) | exact vw_bools rfl rfl (by omega) | exact rowV_fe (fun _ => rfl) | exact rowV_fe_start (c := cN) (fun _ => rfl) rfl | exact rowsV_fam (fun _ => rfl) (by decide) ⟨rfl, rfl⟩ trivial | exact rowsV_fam (fun _ => rfl) (by decide) (fun _ _ => ⟨rfl, rfl⟩) trivial | (simp; done)))⟩
  · obtain rfl : a = g.blocks.length := by omega
    unfold ac_R24_strict_k3
    (repeat (first | (simp (disch := (first | omega | (simp only [evF, evL, implies_true, and_self]; done) | fail)) only [evS, evZ, evK, evB, evL, evR, Nat.reduceBEq, Nat.reduceAdd, Nat.reduceLeDiff, boxR, rboxR, allocR, fldR, binI, unR, pickR, mknilR, mkslR, buildSlR, buildR, extR, convI, eqB, evU, wrap64, rs_R24_strict]) | (with_reducible intro _) | ((with_reducible apply And.intro); omega)))
    refine ⟨_, ?_, rfl⟩
    rw [encNN_mapR]
    exact vw_fam trivial rfl (by omega) rfl (fun _ _ => trivial) (fun i _ => Nat.le_trans filR_le (by omega)) (fun _ => rfl)

end Go.Ab

namespace Go.Ab
open Go.RowKit Go.Proofs

theorem strictL_len (E : Adj) : (strictL E).length = E.length := by simp [strictL]
theorem strictL_suc {E : Adj} {b : Nat} (hb : b < E.length) : suc (strictL E) b = (List.range E.length).filter fun a => sdomP E a b := by
  simp [suc, strictL, List.getD_eq_getElem?_getD, hb]
theorem strictL_lt {E : Adj} {a b : Nat} (h : a ∈ suc (strictL E) b) : a < E.length := by
  unfold suc strictL at h
  rw [List.getD_eq_getElem?_getD, List.getElem?_map] at h
  cases hx : (List.range E.length)[b]? with
  | none => rw [hx] at h; simp at h
  | some x => rw [hx] at h; simp at h; exact h.1

theorem wrapN {n : Nat} (h : n ≤ 1000) : IntKind.i64.wrap ((n : Int) + 1) = (n : Int) + 1 := wrap64 (by omega) (by omega)

theorem R24_Tree_ok (g : Gr) (hg : g.small) : PureFn Try.prog f_R24_Tree [.agg g.cells] (· = encInts (treeL g.E)) := by
  refine fn_x cf_R24_Tree rfl ?_
  unfold ac_R24_Tree
  have hB : big = 9223372036854775807 := rfl
  have hlen := g.E_len
  have hn := hg.1
  (repeat (first | (simp (disch := (first | omega | (simp only [evF, evL, implies_true, and_self]; done) | fail)) only [evS, evZ, evK, evB, evL, evR, Nat.reduceBEq, Nat.reduceAdd, Nat.reduceLeDiff, boxR, rboxR, allocR, fldR, binI, unR, pickR, mknilR, mkslR, buildSlR, buildR, extR, convI, eqB, evU, wrap64, Gr.cells, Gr.two]) | (with_reducible intro _) | ((with_reducible apply And.intro); omega)))
  refine callX_fix (call_flat (R24_strict_ok g hg) rfl) ?_
  have hsl := strictL_len g.E
  have hlt : ∀ a b, a ∈ suc (strictL g.E) b → a < (strictL g.E).length := fun a b h => by rw [hsl]; exact strictL_lt h
  have hres : treeL g.E = mapR (nearL (strictL g.E)) (strictL g.E).length := by unfold treeL; rw [hsl]; rfl
  rw [hres]
  generalize strictL g.E = A at hsl hlt ⊢
  generalize hf : nearL A = f
  (repeat (first | (simp (disch := (first | omega | (simp only [evF, evL, implies_true, and_self]; done) | fail)) only [evS, evZ, evK, evB, evL, evR, Nat.reduceBEq, Nat.reduceAdd, Nat.reduceLeDiff, boxR, rboxR, allocR, fldR, binI, unR, pickR, mknilR, mkslR, buildSlR, buildR, extR, convI, eqB, evU, wrap64, encNN]) | (with_reducible intro _) | ((with_reducible apply And.intro); omega)))
  refine loopX_intro (fun i : Nat => ([(3, encNN A), (4, .own 0 0 0 0 (mapR f i).length), (5, .int .i64 i)], [(0, .row 1 ((mapR f i).map cI) 0)])) 1 (fun i => i ≤ A.length) (fun i => A.length - i) 0 (Nat.zero_le _) (Ent.tab [(0, 1, 0)] [] rfl (by (try simp only [evW, evK, evB, evL, Nat.reduceBEq, Nat.reduceAdd, Nat.reduceSub, Nat.reduceLeDiff, Nat.reduceLT, implies_true, and_self, Int.natCast_zero, Int.natCast_one, Int.cast_ofNat_Int, evV, encInts, encNats, encBools, encP, encNN, mapR_zero]) <;> (repeat' with_reducible apply And.intro) <;> first | omega | exact vw_nats rfl rfl (by omega) | exact vw_ints rfl rfl (by omega) | exact vw_bools rfl rfl (by omega) | exact rowV_fe (fun _ => rfl) | exact rowV_fe_start (c := cN) (fun _ => rfl) rfl | exact rowsV_fam (fun _ => rfl) (by decide) ⟨rfl, rfl⟩ trivial | exact rowsV_fam (fun _ => rfl) (by decide) (fun _ _ => ⟨rfl, rfl⟩) trivial | (simp; done)) (by (try simp only [evW, evK, evB, evL, Nat.reduceBEq, Nat.reduceAdd, Nat.reduceSub, Nat.reduceLeDiff, Nat.reduceLT, implies_true, and_self, Int.natCast_zero, Int.natCast_one, Int.cast_ofNat_Int, evV, encInts, encNats, encBools, encP, encNN, mapR_zero]) <;> (repeat' with_reducible apply And.intro) <;> first | omega | exact vw_nats rfl rfl (by omega) | exact vw_ints rfl rfl (by omega) | exact vw_bools rfl rfl (by omega) | exact rowV_fe (fun _ => rfl) | exact rowV_fe_start (c := cN) (fun _ => rfl) rfl | exact rowsV_fam (fun _ => rfl) (by decide) ⟨rfl, rfl⟩ trivial | exact rowsV_fam (fun _ => rfl) (by decide) (fun _ _ => ⟨rfl, rfl⟩) trivial | (simp; done))) ?_
  intro i hi wf
  have hml := mapR_len (f := f) (n := i)
  unfold ac_R24_Tree_l0
  (repeat (first | (simp (disch := (first | omega | (simp only [evF, evL, implies_true, and_self]; done) | fail)) only [evS, evZ, evK, evB, evL, evR, Nat.reduceBEq, Nat.reduceAdd, Nat.reduceLeDiff, boxR, rboxR, allocR, fldR, binI, unR, pickR, mknilR, mkslR, buildSlR, buildR, extR, convI, eqB, evU, wrap64, encNN]) | (with_reducible intro _) | ((with_reducible apply And.intro); omega)))
  (refine condX_intro (fun h => ?_) (fun h => ?_)) <;> (try simp only [decide_eq_true_eq, decide_eq_false_iff_not, Bool.not_eq_true', Bool.not_eq_false', Bool.and_eq_true, Bool.or_eq_true, not_true_eq_false, not_false_eq_true] at h)
  · (repeat (first | (simp (disch := (first | omega | (simp only [evF, evL, implies_true, and_self]; done) | fail)) only [evS, evZ, evK, evB, evL, evR, Nat.reduceBEq, Nat.reduceAdd, Nat.reduceLeDiff, boxR, rboxR, allocR, fldR, binI, unR, pickR, mknilR, mkslR, buildSlR, buildR, extR, convI, eqB, evU, wrap64]) | (with_reducible intro _) | ((with_reducible apply And.intro); omega)))
    refine callX_fix (call_flat (R24_nearest_ok A i (by omega) (fun a ha => hlt a i ha)) rfl) ?_
    rw [hf]
    (repeat (first | (simp (disch := (first | omega | (simp only [evF, evL, implies_true, and_self]; done) | fail)) only [evS, evZ, evK, evB, evL, evR, Nat.reduceBEq, Nat.reduceAdd, Nat.reduceLeDiff, boxR, rboxR, allocR, fldR, binI, unR, pickR, mknilR, mkslR, buildSlR, buildR, extR, convI, eqB, evU, wrap64]) | (with_reducible intro _) | ((with_reducible apply And.intro); omega)))
    exact ⟨i + 1, by omega, by omega, (Ent.tab [(0, 0, 1)] [] rfl (by (try simp only [evW, evK, evB, evL, Nat.reduceBEq, Nat.reduceAdd, Nat.reduceSub, Nat.reduceLeDiff, Nat.reduceLT, implies_true, and_self, Int.natCast_zero, Int.natCast_one, Int.cast_ofNat_Int, evV, encInts, encNats, encBools, encP, encNN, mapR_succ]) <;> (repeat' with_reducible apply And.intro) <;> first | omega | exact vw_nats rfl rfl (by omega) | exact vw_ints rfl rfl (by omega) | exact vw_bools rfl rfl (by omega) | exact rowV_fe (fun _ => rfl) | exact rowV_fe_start (c := cN) (fun _ => rfl) rfl | exact rowsV_fam (fun _ => rfl) (by decide) ⟨rfl, rfl⟩ trivial | exact rowsV_fam (fun _ => rfl) (by decide) (fun _ _ => ⟨rfl, rfl⟩) trivial | (simp; done)) (by (try simp only [evW, evK, evB, evL, Nat.reduceBEq, Nat.reduceAdd, Nat.reduceSub, Nat.reduceLeDiff, Nat.reduceLT, implies_true, and_self, Int.natCast_zero, Int.natCast_one, Int.cast_ofNat_Int, evV, encInts, encNats, encBools, encP, encNN, mapR_succ]) <;> (repeat' with_reducible apply And.intro) <;> first | omega | exact vw_nats rfl rfl (by omega) | exact vw_ints rfl rfl (by omega) | exact vw_bools rfl rfl (by omega) | exact rowV_fe (fun _ => rfl) | exact rowV_fe_start (c := cN) (fun _ => rfl) rfl | exact rowsV_fam (fun _ => rfl) (by decide) ⟨rfl, rfl⟩ trivial | exact rowsV_fam (fun _ => rfl) (by decide) (fun _ _ => ⟨rfl, rfl⟩) trivial | (simp; done)))⟩
  · unfold ac_R24_Tree_k1
    (repeat (first | (simp (disch := (first | omega | (simp only [evF, evL, implies_true, and_self]; done) | fail)) only [evS, evZ, evK, evB, evL, evR, Nat.reduceBEq, Nat.reduceAdd, Nat.reduceLeDiff, boxR, rboxR, allocR, fldR, binI, unR, pickR, mknilR, mkslR, buildSlR, buildR, extR, convI, eqB, evU, wrap64, rs_R24_Tree]) | (with_reducible intro _) | ((with_reducible apply And.intro); omega)))
    refine ⟨_, ?_, rfl⟩
    obtain rfl : i = A.length := by omega
    exact vw_ints trivial rfl (by omega)

/-! ### Lists of lists that are filled one after the other -/

def gLL (P : Nat → Nat → Bool) (n b w : Nat) (i : Nat) : List Nat := if i < b then filR (P i) n else if i = b then filR (P b) w else []

theorem gLL_zero {P : Nat → Nat → Bool} {n : Nat} : gLL P n 0 0 = fun _ => [] := by
  funext i
  unfold gLL
  rw [if_neg (by omega)]
  split
  · rfl
  · rfl
theorem gLL_next {P : Nat → Nat → Bool} {n b : Nat} : gLL P n b n = gLL P n (b + 1) 0 := by
  funext i
  unfold gLL
  by_cases h1 : i < b
  · rw [if_pos h1, if_pos (by omega)]
  · by_cases h2 : i = b
    · subst h2; rw [if_neg h1, if_pos rfl, if_pos (by omega)]
    · rw [if_neg h1, if_neg h2, if_neg (by omega)]
      split
      · rfl
      · rfl
theorem filR_none {p : Nat → Bool} (h : ∀ w, p w = false) : ∀ n, filR p n = []
  | 0 => rfl
  | n + 1 => by rw [filR_neg (h n), filR_none h n]
theorem gLL_skip {P : Nat → Nat → Bool} {n b : Nat} (h : ∀ w, P b w = false) : gLL P n b 0 = gLL P n (b + 1) 0 := by
  rw [← gLL_next]
  funext i
  unfold gLL
  rw [filR_none h n]
  rfl
theorem gLL_yes {P : Nat → Nat → Bool} {n b w : Nat} (h : P b w = true) : updF (gLL P n b w) b (gLL P n b w b ++ [w]) = gLL P n b (w + 1) := by
  funext i
  unfold updF gLL
  by_cases hi : i = b
  · subst hi
    rw [if_pos rfl, if_neg (by omega), if_pos rfl, if_neg (by omega), if_pos rfl, filR_pos h]
  · rw [if_neg hi]
    simp only [hi, if_false]
theorem gLL_no {P : Nat → Nat → Bool} {n b w : Nat} (h : P b w = false) : gLL P n b w = gLL P n b (w + 1) := by
  funext i
  unfold gLL
  rw [filR_neg h]
theorem gLL_len {P : Nat → Nat → Bool} {n b w i : Nat} (hw : w ≤ n) : (gLL P n b w i).length ≤ n := by
  unfold gLL
  split
  · exact filR_le
  · split
    · exact Nat.le_trans filR_le hw
    · exact Nat.zero_le _
theorem gLL_end {P : Nat → Nat → Bool} {n : Nat} : (List.range n).map (gLL P n n 0) = (List.range n).map fun i => (List.range n).filter (P i) := by
  refine List.map_congr_left fun i hi => ?_
  unfold gLL
  rw [if_pos (List.mem_range.1 hi)]
  rfl
theorem gLL_at {P : Nat → Nat → Bool} {n b w : Nat} : (gLL P n b w b).length ≤ w := by
  unfold gLL
  rw [if_neg (by omega), if_pos rfl]
  exact filR_le

end Go.Ab

namespace Go.Ab
open Go.RowKit Go.Proofs

theorem encNN_L (l : List (List Nat)) : encNN l = encL 1 (fun l => [encL 1 cN l]) l := rfl

theorem predL_len (E : Adj) : (predL E).length = E.length := by simp [predL]
theorem predL_lt {E : Adj} {a b : Nat} (h : a ∈ suc (predL E) b) : a < E.length := by
  unfold suc predL at h
  rw [List.getD_eq_getElem?_getD, List.getElem?_map] at h
  cases hx : (List.range E.length)[b]? with
  | none => rw [hx] at h; simp at h
  | some x => rw [hx] at h; simp at h; exact h.1

theorem eq_cast (v b : Nat) : decide ((v : Int) = b) = (v == b) := by
  by_cases h : v = b
  · subst h; simp
  · have : ¬ (v : Int) = b := by omega
    simp [h, this]

theorem R24_Frontier_ok (g : Gr) (hg : g.small) : PureFn Try.prog f_R24_Frontier [.agg g.cells] (· = encNN (frontL g.E)) := by
  refine fn_x cf_R24_Frontier rfl ?_
  unfold ac_R24_Frontier
  have hB : big = 9223372036854775807 := rfl
  have hlen := g.E_len
  have hn := hg.1
  (repeat (first | (simp (disch := (first | omega | (simp only [evF, evL, implies_true, and_self]; done) | fail)) only [evS, evZ, evK, evB, evL, evR, Nat.reduceBEq, Nat.reduceAdd, Nat.reduceLeDiff, boxR, rboxR, allocR, fldR, binI, unR, pickR, mknilR, mkslR, buildSlR, buildR, extR, convI, eqB, evU, wrap64, Gr.cells, Gr.two]) | (with_reducible intro _) | ((with_reducible apply And.intro); omega)))
  refine callqX_fix (call_flat (R24_strict_ok g hg) rfl) ?_
  (repeat (first | (simp (disch := (first | omega | (simp only [evF, evL, implies_true, and_self]; done) | fail)) only [evS, evZ, evK, evB, evL, evR, Nat.reduceBEq, Nat.reduceAdd, Nat.reduceLeDiff, boxR, rboxR, allocR, fldR, binI, unR, pickR, mknilR, mkslR, buildSlR, buildR, extR, convI, eqB, evU, wrap64, Gr.two]) | (with_reducible intro _) | ((with_reducible apply And.intro); omega)))
  refine callqX_fix (call_flat (R24_from_ok g hg 0 (-1)) rfl) ?_
  (repeat (first | (simp (disch := (first | omega | (simp only [evF, evL, implies_true, and_self]; done) | fail)) only [evS, evZ, evK, evB, evL, evR, Nat.reduceBEq, Nat.reduceAdd, Nat.reduceLeDiff, boxR, rboxR, allocR, fldR, binI, unR, pickR, mknilR, mkslR, buildSlR, buildR, extR, convI, eqB, evU, wrap64, Gr.two]) | (with_reducible intro _) | ((with_reducible apply And.intro); omega)))
  refine callqX_fix (call_flat (R24_Predecessors_ok g hg) rfl) ?_
  have hres : frontL g.E = (List.range g.blocks.length).map fun b => (List.range g.blocks.length).filter (frontP g.E b) := by unfold frontL; rw [hlen]
  rw [hres, ← gLL_end, encNN_L]
  have hsl : (strictL g.E).length = g.blocks.length := by rw [strictL_len, hlen]
  have hpl : (predL g.E).length = g.blocks.length := by rw [predL_len, hlen]
  have hp : ∀ w v, v ∈ suc (predL g.E) w → v < (strictL g.E).length := fun w v h => by rw [hsl, ← hlen]; exact predL_lt h
  have hP : ∀ b w, frontP g.E b w = (decide (b ∈ fromL g.E 0 (-1)) && (suc (predL g.E) w).any (fun v => decide (v ∈ fromL g.E 0 (-1)) && (v == b || decide (b ∈ suc (strictL g.E) v))) && decide (b ∉ suc (strictL g.E) w)) := fun b w => rfl
  generalize fromL g.E 0 (-1) = all at hP ⊢
  generalize strictL g.E = A at hP hsl hp ⊢
  generalize predL g.E = p at hP hpl hp ⊢
  generalize frontP g.E = Q at hP ⊢
  (repeat (first | (simp (disch := (first | omega | (simp only [evF, evL, implies_true, and_self]; done) | fail)) only [evS, evZ, evK, evB, evL, evR, Nat.reduceBEq, Nat.reduceAdd, Nat.reduceLeDiff, boxR, rboxR, allocR, fldR, binI, unR, pickR, mknilR, mkslR, buildSlR, buildR, extR, convI, eqB, evU, wrap64]) | (with_reducible intro _) | ((with_reducible apply And.intro); omega)))
  refine loopX_intro (fun s : Nat × (Nat → Nat) => ([(3, encNN A), (4, encNats all), (5, encNN p), (6, .own 0 0 0 0 g.blocks.length), (7, .int .i64 s.1)], [(0, .row 1 (fe 1 g.blocks.length (gLL Q g.blocks.length s.1 0) s.2) 0), (1, .fam 1 (fi cN g.blocks.length (gLL Q g.blocks.length s.1 0) s.2))])) 2
    (fun s => s.1 ≤ g.blocks.length) (fun s => g.blocks.length - s.1) (0, fun _ => 0) (Nat.zero_le _) (Ent.tab [(0, 1, 0)] [] rfl (by (try simp only [evW, evK, evB, evL, Nat.reduceBEq, Nat.reduceAdd, Nat.reduceSub, Nat.reduceLeDiff, Nat.reduceLT, implies_true, and_self, Int.natCast_zero, Int.natCast_one, Int.cast_ofNat_Int, evV, encInts, encNats, encBools, encP, encNN, gLL_zero]) <;> (repeat' with_reducible apply And.intro) <;> first | omega | exact vw_nats rfl rfl (by omega) | exact vw_ints rfl rfl (by omega) | exact vw_bools rfl rfl (by omega) | exact rowV_fe (fun _ => rfl) | exact rowV_fe_start (c := cN) (fun _ => rfl) rfl | exact rowsV_fam (fun _ => rfl) (by decide) ⟨rfl, rfl⟩ trivial | exact rowsV_fam (fun _ => rfl) (by decide) (fun _ _ => ⟨rfl, rfl⟩) trivial | (simp; done)) (by (try simp only [evW, evK, evB, evL, Nat.reduceBEq, Nat.reduceAdd, Nat.reduceSub, Nat.reduceLeDiff, Nat.reduceLT, implies_true, and_self, Int.natCast_zero, Int.natCast_one, Int.cast_ofNat_Int, evV, encInts, encNats, encBools, encP, encNN, gLL_zero]) <;> (repeat' with_reducible apply And.intro) <;> first | omega | exact vw_nats rfl rfl (by omega) | exact vw_ints rfl rfl (by omega) | exact vw_bools rfl rfl (by omega) | exact rowV_fe (fun _ => rfl) | exact rowV_fe_start (c := cN) (fun _ => rfl) rfl | exact rowsV_fam (fun _ => rfl) (by decide) ⟨rfl, rfl⟩ trivial | exact rowsV_fam (fun _ => rfl) (by decide) (fun _ _ => ⟨rfl, rfl⟩) trivial | (simp; done))) ?_
  rintro ⟨b, gs⟩ hb wf
  simp only at hb
  unfold ac_R24_Frontier_l5
  (repeat (first | (simp (disch := (first | omega | (simp only [evF, evL, implies_true, and_self]; done) | fail)) only [evS, evZ, evK, evB, evL, evR, Nat.reduceBEq, Nat.reduceAdd, Nat.reduceLeDiff, boxR, rboxR, allocR, fldR, binI, unR, pickR, mknilR, mkslR, buildSlR, buildR, extR, convI, eqB, evU, wrap64, encNN]) | (with_reducible intro _) | ((with_reducible apply And.intro); omega)))
  (refine condX_intro (fun h => ?_) (fun h => ?_)) <;> (try simp only [decide_eq_true_eq, decide_eq_false_iff_not, Bool.not_eq_true', Bool.not_eq_false', Bool.and_eq_true, Bool.or_eq_true, not_true_eq_false, not_false_eq_true] at h)
  · (repeat (first | (simp (disch := (first | omega | (simp only [evF, evL, implies_true, and_self]; done) | fail)) only [evS, evZ, evK, evB, evL, evR, Nat.reduceBEq, Nat.reduceAdd, Nat.reduceLeDiff, boxR, rboxR, allocR, fldR, binI, unR, pickR, mknilR, mkslR, buildSlR, buildR, extR, convI, eqB, evU, wrap64]) | (with_reducible intro _) | ((with_reducible apply And.intro); omega)))
    refine loopX_intro (fun s : Nat × (Nat → Nat) => ([(3, encNN A), (4, encNats all), (5, encNN p), (6, .own 0 0 0 0 g.blocks.length), (7, .int .i64 b), (8, .int .i64 s.1)], [(0, .row 1 (fe 1 g.blocks.length (gLL Q g.blocks.length b s.1) s.2) 0), (1, .fam 1 (fi cN g.blocks.length (gLL Q g.blocks.length b s.1) s.2))])) 2
      (fun s => s.1 ≤ g.blocks.length) (fun s => g.blocks.length - s.1) (0, gs) (Nat.zero_le _) (Ent.tab [(0, 0, 0), (1, 1, 0)] [] rfl (by (try simp only [evW, evK, evB, evL, Nat.reduceBEq, Nat.reduceAdd, Nat.reduceSub, Nat.reduceLeDiff, Nat.reduceLT, implies_true, and_self, Int.natCast_zero, Int.natCast_one, Int.cast_ofNat_Int, evV, encInts, encNats, encBools, encP, encNN]) <;> (repeat' with_reducible apply And.intro) <;> first | omega | exact vw_nats rfl rfl (by omega) | exact vw_ints rfl rfl (by omega) | exact vw_bools rfl rfl (by omega) | exact rowV_fe (fun _ => rfl) | exact rowV_fe_start (c := cN) (fun _ => rfl) rfl | exact rowsV_fam (fun _ => rfl) (by decide) ⟨rfl, rfl⟩ trivial | exact rowsV_fam (fun _ => rfl) (by decide) (fun _ _ => ⟨rfl, rfl⟩) trivial | (simp; done)) (by (try simp only [evW, evK, evB, evL, Nat.reduceBEq, Nat.reduceAdd, Nat.reduceSub, Nat.reduceLeDiff, Nat.reduceLT, implies_true, and_self, Int.natCast_zero, Int.natCast_one, Int.cast_ofNat_Int, evV, encInts, encNats, encBools, encP, encNN]) <;> (repeat' with_reducible apply And.intro) <;> first | omega | exact vw_nats rfl rfl (by omega) | exact vw_ints rfl rfl (by omega) | exact vw_bools rfl rfl (by omega) | exact rowV_fe (fun _ => rfl) | exact rowV_fe_start (c := cN) (fun _ => rfl) rfl | exact rowsV_fam (fun _ => rfl) (by decide) ⟨rfl, rfl⟩ trivial | exact rowsV_fam (fun _ => rfl) (by decide) (fun _ _ => ⟨rfl, rfl⟩) trivial | (simp; done))) ?_
    rintro ⟨w, gs2⟩ hw wf
    simp only at hw
    unfold ac_R24_Frontier_l3
    (repeat (first | (simp (disch := (first | omega | (simp only [evF, evL, implies_true, and_self]; done) | fail)) only [evS, evZ, evK, evB, evL, evR, Nat.reduceBEq, Nat.reduceAdd, Nat.reduceLeDiff, boxR, rboxR, allocR, fldR, binI, unR, pickR, mknilR, mkslR, buildSlR, buildR, extR, convI, eqB, evU, wrap64, encNN, encNats]) | (with_reducible intro _) | ((with_reducible apply And.intro); omega)))
    generalize h2 : decide ((w : Int) < g.blocks.length) = h2b; cases h2b <;> simp only [decide_eq_true_eq, decide_eq_false_iff_not, ne_eq, Classical.not_not] at h2
    · obtain rfl : w = g.blocks.length := by omega
      unfold ac_R24_Frontier_k4
      rw [gLL_next]
      (repeat (first | (simp (disch := (first | omega | (simp only [evF, evL, implies_true, and_self]; done) | fail)) only [evS, evZ, evK, evB, evL, evR, Nat.reduceBEq, Nat.reduceAdd, Nat.reduceLeDiff, boxR, rboxR, allocR, fldR, binI, unR, pickR, mknilR, mkslR, buildSlR, buildR, extR, convI, eqB, evU, wrap64]) | (with_reducible intro _) | ((with_reducible apply And.intro); omega)))
      exact ⟨(b + 1, gs2), by simp only; omega, by simp only; omega, (Ent.tab [(0, 0, 0), (1, 1, 0)] [] rfl (by (try simp only [evW, evK, evB, evL, Nat.reduceBEq, Nat.reduceAdd, Nat.reduceSub, Nat.reduceLeDiff, Nat.reduceLT, implies_true, and_self, Int.natCast_zero, Int.natCast_one, Int.cast_ofNat_Int, evV, encInts, encNats, encBools, encP, encNN]) <;> (repeat' with_reducible apply And.intro) <;> first | omega | exact vw_nats rfl rfl (by omega) | exact vw_ints rfl rfl (by omega) | exact vw_bools rfl rfl (by omega) | exact rowV_fe (fun _ => rfl) | exact rowV_fe_start (c := cN) (fun _ => rfl) rfl | exact rowsV_fam (fun _ => rfl) (by decide) ⟨rfl, rfl⟩ trivial | exact rowsV_fam (fun _ => rfl) (by decide) (fun _ _ => ⟨rfl, rfl⟩) trivial | (simp; done)) (by (try simp only [evW, evK, evB, evL, Nat.reduceBEq, Nat.reduceAdd, Nat.reduceSub, Nat.reduceLeDiff, Nat.reduceLT, implies_true, and_self, Int.natCast_zero, Int.natCast_one, Int.cast_ofNat_Int, evV, encInts, encNats, encBools, encP, encNN]) <;> (repeat' with_reducible apply And.intro) <;> first | omega | exact vw_nats rfl rfl (by omega) | exact vw_ints rfl rfl (by omega) | exact vw_bools rfl rfl (by omega) | exact rowV_fe (fun _ => rfl) | exact rowV_fe_start (c := cN) (fun _ => rfl) rfl | exact rowsV_fam (fun _ => rfl) (by decide) ⟨rfl, rfl⟩ trivial | exact rowsV_fam (fun _ => rfl) (by decide) (fun _ _ => ⟨rfl, rfl⟩) trivial | (simp; done)))⟩
    (repeat (first | (simp (disch := (first | omega | (simp only [evF, evL, implies_true, and_self]; done) | fail)) only [evS, evZ, evK, evB, evL, evR, Nat.reduceBEq, Nat.reduceAdd, Nat.reduceLeDiff, boxR, rboxR, allocR, fldR, binI, unR, pickR, mknilR, mkslR, buildSlR, buildR, extR, convI, eqB, evU, wrap64]) | (with_reducible intro _) | ((with_reducible apply And.intro); omega)))
    refine callX_fix (hasN_flat (l := all)) ?_
    (repeat (first | (simp (disch := (first | omega | (simp only [evF, evL, implies_true, and_self]; done) | fail)) only [evS, evZ, evK, evB, evL, evR, Nat.reduceBEq, Nat.reduceAdd, Nat.reduceLeDiff, boxR, rboxR, allocR, fldR, binI, unR, pickR, mknilR, mkslR, buildSlR, buildR, extR, convI, eqB, evU, wrap64]) | (with_reducible intro _) | ((with_reducible apply And.intro); omega)))
    (refine condX_intro (fun h3 => ?_) (fun h3 => ?_)) <;> (try simp only [decide_eq_true_eq, decide_eq_false_iff_not, Bool.not_eq_true', Bool.not_eq_false', Bool.and_eq_true, Bool.or_eq_true, not_true_eq_false, not_false_eq_true] at h3)
    · have hbA : b < A.length := by omega
      have hwA : w < A.length := by omega
      have hwp : w < p.length := by omega
      (repeat (first | (simp (disch := (first | omega | (simp only [evF, evL, implies_true, and_self]; done) | fail)) only [evS, evZ, evK, evB, evL, evR, Nat.reduceBEq, Nat.reduceAdd, Nat.reduceLeDiff, boxR, rboxR, allocR, fldR, binI, unR, pickR, mknilR, mkslR, buildSlR, buildR, extR, convI, eqB, evU, wrap64]) | (with_reducible intro _) | ((with_reducible apply And.intro); omega)))
      refine loopX_intro (fun k : Nat => ([(3, encNN A), (4, encNats all), (5, encNN p), (6, .own 0 0 0 0 g.blocks.length), (7, .int .i64 b), (8, .int .i64 w), (9, .bool ((p[w].take k).any (fun v => decide (v ∈ all) && (v == b || decide (b ∈ suc A v))))), (10, .int .i64 k)], [(0, .row 1 (fe 1 g.blocks.length (gLL Q g.blocks.length b w) gs2) 0), (1, .fam 1 (fi cN g.blocks.length (gLL Q g.blocks.length b w) gs2))])) 2
        (fun k => k ≤ p[w].length) (fun k => p[w].length - k) 0 (Nat.zero_le _) (Ent.tab [(0, 0, 0), (1, 1, 0)] [] rfl (by (try simp only [evW, evK, evB, evL, Nat.reduceBEq, Nat.reduceAdd, Nat.reduceSub, Nat.reduceLeDiff, Nat.reduceLT, implies_true, and_self, Int.natCast_zero, Int.natCast_one, Int.cast_ofNat_Int, evV, encInts, encNats, encBools, encP, encNN, List.any_nil]) <;> (repeat' with_reducible apply And.intro) <;> first | omega | exact vw_nats rfl rfl (by omega) | exact vw_ints rfl rfl (by omega) | exact vw_bools rfl rfl (by omega) | exact rowV_fe (fun _ => rfl) | exact rowV_fe_start (c := cN) (fun _ => rfl) rfl | exact rowsV_fam (fun _ => rfl) (by decide) ⟨rfl, rfl⟩ trivial | exact rowsV_fam (fun _ => rfl) (by decide) (fun _ _ => ⟨rfl, rfl⟩) trivial | (simp; done)) (by (try simp only [evW, evK, evB, evL, Nat.reduceBEq, Nat.reduceAdd, Nat.reduceSub, Nat.reduceLeDiff, Nat.reduceLT, implies_true, and_self, Int.natCast_zero, Int.natCast_one, Int.cast_ofNat_Int, evV, encInts, encNats, encBools, encP, encNN, List.any_nil]) <;> (repeat' with_reducible apply And.intro) <;> first | omega | exact vw_nats rfl rfl (by omega) | exact vw_ints rfl rfl (by omega) | exact vw_bools rfl rfl (by omega) | exact rowV_fe (fun _ => rfl) | exact rowV_fe_start (c := cN) (fun _ => rfl) rfl | exact rowsV_fam (fun _ => rfl) (by decide) ⟨rfl, rfl⟩ trivial | exact rowsV_fam (fun _ => rfl) (by decide) (fun _ _ => ⟨rfl, rfl⟩) trivial | (simp; done))) ?_
      intro k hk wf
      unfold ac_R24_Frontier_l0
      (repeat (first | (simp (disch := (first | omega | (simp only [evF, evL, implies_true, and_self]; done) | fail)) only [evS, evZ, evK, evB, evL, evR, Nat.reduceBEq, Nat.reduceAdd, Nat.reduceLeDiff, boxR, rboxR, allocR, fldR, binI, unR, pickR, mknilR, mkslR, buildSlR, buildR, extR, convI, eqB, evU, wrap64, encNN, encNats, getD_map hwp]) | (with_reducible intro _) | ((with_reducible apply And.intro); omega)))
      (refine condX_intro (fun h4 => ?_) (fun h4 => ?_)) <;> (try simp only [decide_eq_true_eq, decide_eq_false_iff_not, Bool.not_eq_true', Bool.not_eq_false', Bool.and_eq_true, Bool.or_eq_true, not_true_eq_false, not_false_eq_true] at h4)
      · have hk' : k < p[w].length := by omega
        have hst : (p[w].take (k + 1)).any (fun v => decide (v ∈ all) && (v == b || decide (b ∈ suc A v))) = ((p[w].take k).any (fun v => decide (v ∈ all) && (v == b || decide (b ∈ suc A v))) || (decide (p[w][k] ∈ all) && (p[w][k] == b || decide (b ∈ suc A p[w][k])))) := by
          rw [List.take_add_one, List.getElem?_eq_getElem hk', List.any_append]
          simp [Option.toList]
        have hv : p[w][k] < A.length := hp w _ (by rw [suc_get hwp]; exact List.getElem_mem hk')
        generalize (p[w].take k).any (fun v => decide (v ∈ all) && (v == b || decide (b ∈ suc A v))) = is at hst ⊢
        (repeat (first | (simp (disch := (first | omega | (simp only [evF, evL, implies_true, and_self]; done) | fail)) only [evS, evZ, evK, evB, evL, evR, Nat.reduceBEq, Nat.reduceAdd, Nat.reduceLeDiff, boxR, rboxR, allocR, fldR, binI, unR, pickR, mknilR, mkslR, buildSlR, buildR, extR, convI, eqB, evU, wrap64, encNN, encNats, getD_map hwp, getD_map hk']) | (with_reducible intro _) | ((with_reducible apply And.intro); omega)))
        generalize p[w][k] = v at hst hv ⊢
        have fin : ∀ r : Bool, (is || (decide (v ∈ all) && (v == b || decide (b ∈ suc A v)))) = r → (p[w].take (k + 1)).any (fun v => decide (v ∈ all) && (v == b || decide (b ∈ suc A v))) = r := fun r h => by rw [hst, h]
        cases is
        · (repeat (first | (simp (disch := (first | omega | (simp only [evF, evL, implies_true, and_self]; done) | fail)) only [evS, evZ, evK, evB, evL, evR, Nat.reduceBEq, Nat.reduceAdd, Nat.reduceLeDiff, boxR, rboxR, allocR, fldR, binI, unR, pickR, mknilR, mkslR, buildSlR, buildR, extR, convI, eqB, evU, wrap64]) | (with_reducible intro _) | ((with_reducible apply And.intro); omega)))
          refine callX_fix (hasN_flat (l := all)) ?_
          (repeat (first | (simp (disch := (first | omega | (simp only [evF, evL, implies_true, and_self]; done) | fail)) only [evS, evZ, evK, evB, evL, evR, Nat.reduceBEq, Nat.reduceAdd, Nat.reduceLeDiff, boxR, rboxR, allocR, fldR, binI, unR, pickR, mknilR, mkslR, buildSlR, buildR, extR, convI, eqB, evU, wrap64]) | (with_reducible intro _) | ((with_reducible apply And.intro); omega)))
          generalize h5 : decide (v ∈ all) = h5b at fin ⊢
          cases h5b
          · have e := fin false (by simp)
            (repeat (first | (simp (disch := (first | omega | (simp only [evF, evL, implies_true, and_self]; done) | fail)) only [evS, evZ, evK, evB, evL, evR, Nat.reduceBEq, Nat.reduceAdd, Nat.reduceLeDiff, boxR, rboxR, allocR, fldR, binI, unR, pickR, mknilR, mkslR, buildSlR, buildR, extR, convI, eqB, evU, wrap64]) | (with_reducible intro _) | ((with_reducible apply And.intro); omega)))
            exact ⟨k + 1, by omega, by omega, (Ent.tab [(0, 0, 0), (1, 1, 0)] [] rfl (by (try simp only [evW, evK, evB, evL, Nat.reduceBEq, Nat.reduceAdd, Nat.reduceSub, Nat.reduceLeDiff, Nat.reduceLT, implies_true, and_self, Int.natCast_zero, Int.natCast_one, Int.cast_ofNat_Int, evV, encInts, encNats, encBools, encP, encNN, e]) <;> (repeat' with_reducible apply And.intro) <;> first | omega | exact vw_nats rfl rfl (by omega) | exact vw_ints rfl rfl (by omega) | exact vw_bools rfl rfl (by omega) | exact rowV_fe (fun _ => rfl) | exact rowV_fe_start (c := cN) (fun _ => rfl) rfl | exact rowsV_fam (fun _ => rfl) (by decide) ⟨rfl, rfl⟩ trivial | exact rowsV_fam (fun _ => rfl) (by decide) (fun _ _ => ⟨rfl, rfl⟩) trivial | (simp; done)) (by (try simp only [evW, evK, evB, evL, Nat.reduceBEq, Nat.reduceAdd, Nat.reduceSub, Nat.reduceLeDiff, Nat.reduceLT, implies_true, and_self, Int.natCast_zero, Int.natCast_one, Int.cast_ofNat_Int, evV, encInts, encNats, encBools, encP, encNN, e]) <;> (repeat' with_reducible apply And.intro) <;> first | omega | exact vw_nats rfl rfl (by omega) | exact vw_ints rfl rfl (by omega) | exact vw_bools rfl rfl (by omega) | exact rowV_fe (fun _ => rfl) | exact rowV_fe_start (c := cN) (fun _ => rfl) rfl | exact rowsV_fam (fun _ => rfl) (by decide) ⟨rfl, rfl⟩ trivial | exact rowsV_fam (fun _ => rfl) (by decide) (fun _ _ => ⟨rfl, rfl⟩) trivial | (simp; done)))⟩
          · (repeat (first | (simp (disch := (first | omega | (simp only [evF, evL, implies_true, and_self]; done) | fail)) only [evS, evZ, evK, evB, evL, evR, Nat.reduceBEq, Nat.reduceAdd, Nat.reduceLeDiff, boxR, rboxR, allocR, fldR, binI, unR, pickR, mknilR, mkslR, buildSlR, buildR, extR, convI, eqB, evU, wrap64]) | (with_reducible intro _) | ((with_reducible apply And.intro); omega)))
            have hvb : decide ((v : Int) = b) = (v == b) := eq_cast v b
            rw [hvb]
            generalize h6 : (v == b) = h6b at fin ⊢
            cases h6b
            · (repeat (first | (simp (disch := (first | omega | (simp only [evF, evL, implies_true, and_self]; done) | fail)) only [evS, evZ, evK, evB, evL, evR, Nat.reduceBEq, Nat.reduceAdd, Nat.reduceLeDiff, boxR, rboxR, allocR, fldR, binI, unR, pickR, mknilR, mkslR, buildSlR, buildR, extR, convI, eqB, evU, wrap64, getD_map hv]) | (with_reducible intro _) | ((with_reducible apply And.intro); omega)))
              refine callX_fix (hasN_flat (l := A[v])) ?_
              have e := fin (decide (b ∈ A[v])) (by simp [suc_get hv])
              (repeat (first | (simp (disch := (first | omega | (simp only [evF, evL, implies_true, and_self]; done) | fail)) only [evS, evZ, evK, evB, evL, evR, Nat.reduceBEq, Nat.reduceAdd, Nat.reduceLeDiff, boxR, rboxR, allocR, fldR, binI, unR, pickR, mknilR, mkslR, buildSlR, buildR, extR, convI, eqB, evU, wrap64]) | (with_reducible intro _) | ((with_reducible apply And.intro); omega)))
              exact ⟨k + 1, by omega, by omega, (Ent.tab [(0, 0, 0), (1, 1, 0)] [] rfl (by (try simp only [evW, evK, evB, evL, Nat.reduceBEq, Nat.reduceAdd, Nat.reduceSub, Nat.reduceLeDiff, Nat.reduceLT, implies_true, and_self, Int.natCast_zero, Int.natCast_one, Int.cast_ofNat_Int, evV, encInts, encNats, encBools, encP, encNN, e]) <;> (repeat' with_reducible apply And.intro) <;> first | omega | exact vw_nats rfl rfl (by omega) | exact vw_ints rfl rfl (by omega) | exact vw_bools rfl rfl (by omega) | exact rowV_fe (fun _ => rfl) | exact rowV_fe_start (c := cN) (fun _ => rfl) rfl | exact rowsV_fam (fun _ => rfl) (by decide) ⟨rfl, rfl⟩ trivial | exact rowsV_fam (fun _ => rfl) (by decide) (fun _ _ => ⟨rfl, rfl⟩) trivial | (simp; done)) (by (try simp only [evW, evK, evB, evL, Nat.reduceBEq, Nat.reduceAdd, Nat.reduceSub, Nat.reduceLeDiff, Nat.reduceLT, implies_true, and_self, Int.natCast_zero, Int.natCast_one, Int.cast_ofNat_Int, evV, encInts, encNats, encBools, encP, encNN, e]) <;> (repeat' with_reducible apply And.intro) <;> first | omega | exact vw_nats rfl rfl (by omega) | exact vw_ints rfl rfl (by omega) | exact vw_bools rfl rfl (by omega) | exact rowV_fe (fun _ => rfl) | exact rowV_fe_start (c := cN) (fun _ => rfl) rfl | exact rowsV_fam (fun _ => rfl) (by decide) ⟨rfl, rfl⟩ trivial | exact rowsV_fam (fun _ => rfl) (by decide) (fun _ _ => ⟨rfl, rfl⟩) trivial | (simp; done)))⟩
            · have e := fin true (by simp)
              (repeat (first | (simp (disch := (first | omega | (simp only [evF, evL, implies_true, and_self]; done) | fail)) only [evS, evZ, evK, evB, evL, evR, Nat.reduceBEq, Nat.reduceAdd, Nat.reduceLeDiff, boxR, rboxR, allocR, fldR, binI, unR, pickR, mknilR, mkslR, buildSlR, buildR, extR, convI, eqB, evU, wrap64]) | (with_reducible intro _) | ((with_reducible apply And.intro); omega)))
              exact ⟨k + 1, by omega, by omega, (Ent.tab [(0, 0, 0), (1, 1, 0)] [] rfl (by (try simp only [evW, evK, evB, evL, Nat.reduceBEq, Nat.reduceAdd, Nat.reduceSub, Nat.reduceLeDiff, Nat.reduceLT, implies_true, and_self, Int.natCast_zero, Int.natCast_one, Int.cast_ofNat_Int, evV, encInts, encNats, encBools, encP, encNN, e]) <;> (repeat' with_reducible apply And.intro) <;> first | omega | exact vw_nats rfl rfl (by omega) | exact vw_ints rfl rfl (by omega) | exact vw_bools rfl rfl (by omega) | exact rowV_fe (fun _ => rfl) | exact rowV_fe_start (c := cN) (fun _ => rfl) rfl | exact rowsV_fam (fun _ => rfl) (by decide) ⟨rfl, rfl⟩ trivial | exact rowsV_fam (fun _ => rfl) (by decide) (fun _ _ => ⟨rfl, rfl⟩) trivial | (simp; done)) (by (try simp only [evW, evK, evB, evL, Nat.reduceBEq, Nat.reduceAdd, Nat.reduceSub, Nat.reduceLeDiff, Nat.reduceLT, implies_true, and_self, Int.natCast_zero, Int.natCast_one, Int.cast_ofNat_Int, evV, encInts, encNats, encBools, encP, encNN, e]) <;> (repeat' with_reducible apply And.intro) <;> first | omega | exact vw_nats rfl rfl (by omega) | exact vw_ints rfl rfl (by omega) | exact vw_bools rfl rfl (by omega) | exact rowV_fe (fun _ => rfl) | exact rowV_fe_start (c := cN) (fun _ => rfl) rfl | exact rowsV_fam (fun _ => rfl) (by decide) ⟨rfl, rfl⟩ trivial | exact rowsV_fam (fun _ => rfl) (by decide) (fun _ _ => ⟨rfl, rfl⟩) trivial | (simp; done)))⟩
        · have e := fin true (by simp)
          (repeat (first | (simp (disch := (first | omega | (simp only [evF, evL, implies_true, and_self]; done) | fail)) only [evS, evZ, evK, evB, evL, evR, Nat.reduceBEq, Nat.reduceAdd, Nat.reduceLeDiff, boxR, rboxR, allocR, fldR, binI, unR, pickR, mknilR, mkslR, buildSlR, buildR, extR, convI, eqB, evU, wrap64]) | (with_reducible intro _) | ((with_reducible apply And.intro); omega)))
          exact ⟨k + 1, by omega, by omega, (Ent.tab [(0, 0, 0), (1, 1, 0)] [] rfl (by (try simp only [evW, evK, evB, evL, Nat.reduceBEq, Nat.reduceAdd, Nat.reduceSub, Nat.reduceLeDiff, Nat.reduceLT, implies_true, and_self, Int.natCast_zero, Int.natCast_one, Int.cast_ofNat_Int, evV, encInts, encNats, encBools, encP, encNN, e]) <;> (repeat' with_reducible apply And.intro) <;> first | omega | exact vw_nats rfl rfl (by omega) | exact vw_ints rfl rfl (by omega) | exact vw_bools rfl rfl (by omega) | exact rowV_fe (fun _ => rfl) | exact rowV_fe_start (c := cN) (fun _ => rfl) rfl | exact rowsV_fam (fun _ => rfl) (by decide) ⟨rfl, rfl⟩ trivial | exact rowsV_fam (fun _ => rfl) (by decide) (fun _ _ => ⟨rfl, rfl⟩) trivial | (simp; done)) (by (try simp only [evW, evK, evB, evL, Nat.reduceBEq, Nat.reduceAdd, Nat.reduceSub, Nat.reduceLeDiff, Nat.reduceLT, implies_true, and_self, Int.natCast_zero, Int.natCast_one, Int.cast_ofNat_Int, evV, encInts, encNats, encBools, encP, encNN, e]) <;> (repeat' with_reducible apply And.intro) <;> first | omega | exact vw_nats rfl rfl (by omega) | exact vw_ints rfl rfl (by omega) | exact vw_bools rfl rfl (by omega) | exact rowV_fe (fun _ => rfl) | exact rowV_fe_start (c := cN) (fun _ => rfl) rfl | exact rowsV_fam (fun _ => rfl) (by decide) ⟨rfl, rfl⟩ trivial | exact rowsV_fam (fun _ => rfl) (by decide) (fun _ _ => ⟨rfl, rfl⟩) trivial | (simp; done)))⟩
      · unfold ac_R24_Frontier_k1
        rw [List.take_of_length_le (show p[w].length ≤ k by omega)]
        have hq := hP b w
        rw [suc_get hwp, suc_get hwA] at hq
        generalize p[w].any (fun v => decide (v ∈ all) && (v == b || decide (b ∈ suc A v))) = is at hq ⊢
        have hd : decide (b ∈ all) = true := by simpa using h3
        rw [hd] at hq
        have hll := gLL_at (P := Q) (n := g.blocks.length) (b := b) (w := w)
        have hbn : b < g.blocks.length := by omega
        cases is
        · unfold ac_R24_Frontier_k2
          rw [gLL_no (by rw [hq]; rfl)]
          (repeat (first | (simp (disch := (first | omega | (simp only [evF, evL, implies_true, and_self]; done) | fail)) only [evS, evZ, evK, evB, evL, evR, Nat.reduceBEq, Nat.reduceAdd, Nat.reduceLeDiff, boxR, rboxR, allocR, fldR, binI, unR, pickR, mknilR, mkslR, buildSlR, buildR, extR, convI, eqB, evU, wrap64]) | (with_reducible intro _) | ((with_reducible apply And.intro); omega)))
          exact ⟨(w + 1, gs2), by simp only; omega, by simp only; omega, (Ent.tab [(0, 0, 0), (1, 1, 0)] [] rfl (by (try simp only [evW, evK, evB, evL, Nat.reduceBEq, Nat.reduceAdd, Nat.reduceSub, Nat.reduceLeDiff, Nat.reduceLT, implies_true, and_self, Int.natCast_zero, Int.natCast_one, Int.cast_ofNat_Int, evV, encInts, encNats, encBools, encP, encNN]) <;> (repeat' with_reducible apply And.intro) <;> first | omega | exact vw_nats rfl rfl (by omega) | exact vw_ints rfl rfl (by omega) | exact vw_bools rfl rfl (by omega) | exact rowV_fe (fun _ => rfl) | exact rowV_fe_start (c := cN) (fun _ => rfl) rfl | exact rowsV_fam (fun _ => rfl) (by decide) ⟨rfl, rfl⟩ trivial | exact rowsV_fam (fun _ => rfl) (by decide) (fun _ _ => ⟨rfl, rfl⟩) trivial | (simp; done)) (by (try simp only [evW, evK, evB, evL, Nat.reduceBEq, Nat.reduceAdd, Nat.reduceSub, Nat.reduceLeDiff, Nat.reduceLT, implies_true, and_self, Int.natCast_zero, Int.natCast_one, Int.cast_ofNat_Int, evV, encInts, encNats, encBools, encP, encNN]) <;> (repeat' with_reducible apply And.intro) <;> first | omega | exact vw_nats rfl rfl (by omega) | exact vw_ints rfl rfl (by omega) | exact vw_bools rfl rfl (by omega) | exact rowV_fe (fun _ => rfl) | exact rowV_fe_start (c := cN) (fun _ => rfl) rfl | exact rowsV_fam (fun _ => rfl) (by decide) ⟨rfl, rfl⟩ trivial | exact rowsV_fam (fun _ => rfl) (by decide) (fun _ _ => ⟨rfl, rfl⟩) trivial | (simp; done)))⟩
        · (repeat (first | (simp (disch := (first | omega | (simp only [evF, evL, implies_true, and_self]; done) | fail)) only [evS, evZ, evK, evB, evL, evR, Nat.reduceBEq, Nat.reduceAdd, Nat.reduceLeDiff, boxR, rboxR, allocR, fldR, binI, unR, pickR, mknilR, mkslR, buildSlR, buildR, extR, convI, eqB, evU, wrap64, getD_map hwA]) | (with_reducible intro _) | ((with_reducible apply And.intro); omega)))
          refine callX_fix (hasN_flat (l := A[w])) ?_
          (repeat (first | (simp (disch := (first | omega | (simp only [evF, evL, implies_true, and_self]; done) | fail)) only [evS, evZ, evK, evB, evL, evR, Nat.reduceBEq, Nat.reduceAdd, Nat.reduceLeDiff, boxR, rboxR, allocR, fldR, binI, unR, pickR, mknilR, mkslR, buildSlR, buildR, extR, convI, eqB, evU, wrap64]) | (with_reducible intro _) | ((with_reducible apply And.intro); omega)))
          (refine condX_intro (fun h6 => ?_) (fun h6 => ?_)) <;> (try simp only [decide_eq_true_eq, decide_eq_false_iff_not, Bool.not_eq_true', Bool.not_eq_false', Bool.and_eq_true, Bool.or_eq_true, not_true_eq_false, not_false_eq_true] at h6)
          · have hy := gLL_yes (P := Q) (n := g.blocks.length) (b := b) (w := w) (by rw [hq]; simp [h6])
            unfold ac_R24_Frontier_k2
            (repeat (first | (simp (disch := (first | omega | (simp only [evF, evL, implies_true, and_self]; done) | fail)) only [evS, evZ, evK, evB, evL, evR, Nat.reduceBEq, Nat.reduceAdd, Nat.reduceLeDiff, boxR, rboxR, allocR, fldR, binI, unR, pickR, mknilR, mkslR, buildSlR, buildR, extR, convI, eqB, evU, wrap64, fe_len, fe_get hbn, fi_get hbn, fi_snoc (c := cN) (a := w) (ca := [AV.int .i64 (w : Int)]) rfl, fe_snoc (ll := gLL Q g.blocks.length b w) (k := b) w rfl]) | (with_reducible intro _) | ((with_reducible apply And.intro); omega)))
            rw [hy]
            exact ⟨(w + 1, _), by simp only; omega, by simp only; omega, (Ent.tab [(0, 0, 0), (1, 1, 0)] [] rfl (by (try simp only [evW, evK, evB, evL, Nat.reduceBEq, Nat.reduceAdd, Nat.reduceSub, Nat.reduceLeDiff, Nat.reduceLT, implies_true, and_self, Int.natCast_zero, Int.natCast_one, Int.cast_ofNat_Int, evV, encInts, encNats, encBools, encP, encNN]) <;> (repeat' with_reducible apply And.intro) <;> first | omega | exact vw_nats rfl rfl (by omega) | exact vw_ints rfl rfl (by omega) | exact vw_bools rfl rfl (by omega) | exact rowV_fe (fun _ => rfl) | exact rowV_fe_start (c := cN) (fun _ => rfl) rfl | exact rowsV_fam (fun _ => rfl) (by decide) ⟨rfl, rfl⟩ trivial | exact rowsV_fam (fun _ => rfl) (by decide) (fun _ _ => ⟨rfl, rfl⟩) trivial | (simp; done)) (by (try simp only [evW, evK, evB, evL, Nat.reduceBEq, Nat.reduceAdd, Nat.reduceSub, Nat.reduceLeDiff, Nat.reduceLT, implies_true, and_self, Int.natCast_zero, Int.natCast_one, Int.cast_ofNat_Int, evV, encInts, encNats, encBools, encP, encNN]) <;> (repeat' with_reducible apply And.intro) <;> first | omega | exact vw_nats rfl rfl (by omega) | exact vw_ints rfl rfl (by omega) | exact vw_bools rfl rfl (by omega) | exact rowV_fe (fun _ => rfl) | exact rowV_fe_start (c := cN) (fun _ => rfl) rfl | exact rowsV_fam (fun _ => rfl) (by decide) ⟨rfl, rfl⟩ trivial | exact rowsV_fam (fun _ => rfl) (by decide) (fun _ _ => ⟨rfl, rfl⟩) trivial | (simp; done)))⟩
          · unfold ac_R24_Frontier_k2
            rw [gLL_no (P := Q) (n := g.blocks.length) (b := b) (w := w) (by rw [hq]; simp [h6])]
            (repeat (first | (simp (disch := (first | omega | (simp only [evF, evL, implies_true, and_self]; done) | fail)) only [evS, evZ, evK, evB, evL, evR, Nat.reduceBEq, Nat.reduceAdd, Nat.reduceLeDiff, boxR, rboxR, allocR, fldR, binI, unR, pickR, mknilR, mkslR, buildSlR, buildR, extR, convI, eqB, evU, wrap64]) | (with_reducible intro _) | ((with_reducible apply And.intro); omega)))
            exact ⟨(w + 1, gs2), by simp only; omega, by simp only; omega, (Ent.tab [(0, 0, 0), (1, 1, 0)] [] rfl (by (try simp only [evW, evK, evB, evL, Nat.reduceBEq, Nat.reduceAdd, Nat.reduceSub, Nat.reduceLeDiff, Nat.reduceLT, implies_true, and_self, Int.natCast_zero, Int.natCast_one, Int.cast_ofNat_Int, evV, encInts, encNats, encBools, encP, encNN]) <;> (repeat' with_reducible apply And.intro) <;> first | omega | exact vw_nats rfl rfl (by omega) | exact vw_ints rfl rfl (by omega) | exact vw_bools rfl rfl (by omega) | exact rowV_fe (fun _ => rfl) | exact rowV_fe_start (c := cN) (fun _ => rfl) rfl | exact rowsV_fam (fun _ => rfl) (by decide) ⟨rfl, rfl⟩ trivial | exact rowsV_fam (fun _ => rfl) (by decide) (fun _ _ => ⟨rfl, rfl⟩) trivial | (simp; done)) (by (try simp only [evW, evK, evB, evL, Nat.reduceBEq, Nat.reduceAdd, Nat.reduceSub, Nat.reduceLeDiff, Nat.reduceLT, implies_true, and_self, Int.natCast_zero, Int.natCast_one, Int.cast_ofNat_Int, evV, encInts, encNats, encBools, encP, encNN]) <;> (repeat' with_reducible apply And.intro) <;> first | omega | exact vw_nats rfl rfl (by omega) | exact vw_ints rfl rfl (by omega) | exact vw_bools rfl rfl (by omega) | exact rowV_fe (fun _ => rfl) | exact rowV_fe_start (c := cN) (fun _ => rfl) rfl | exact rowsV_fam (fun _ => rfl) (by decide) ⟨rfl, rfl⟩ trivial | exact rowsV_fam (fun _ => rfl) (by decide) (fun _ _ => ⟨rfl, rfl⟩) trivial | (simp; done)))⟩
    · have hno : ∀ w, Q b w = false := fun w => by rw [hP]; simp [h3]
      unfold ac_R24_Frontier_k4
      have e : gLL Q g.blocks.length b w = gLL Q g.blocks.length (b + 1) 0 := by
        rw [← gLL_skip hno]
        funext i
        unfold gLL
        rw [filR_none hno w]
        rfl
      rw [e]
      (repeat (first | (simp (disch := (first | omega | (simp only [evF, evL, implies_true, and_self]; done) | fail)) only [evS, evZ, evK, evB, evL, evR, Nat.reduceBEq, Nat.reduceAdd, Nat.reduceLeDiff, boxR, rboxR, allocR, fldR, binI, unR, pickR, mknilR, mkslR, buildSlR, buildR, extR, convI, eqB, evU, wrap64]) | (with_reducible intro _) | ((with_reducible apply And.intro); omega)))
      exact ⟨(b + 1, gs2), by simp only; omega, by simp only; omega, (Ent.tab [(0, 0, 0), (1, 1, 0)] [] rfl (by (try simp only [evW, evK, evB, evL, Nat.reduceBEq, Nat.reduceAdd, Nat.reduceSub, Nat.reduceLeDiff, Nat.reduceLT, implies_true, and_self, Int.natCast_zero, Int.natCast_one, Int.cast_ofNat_Int, evV, encInts, encNats, encBools, encP, encNN]) <;> (repeat' with_reducible apply And.intro) <;> first | omega | exact vw_nats rfl rfl (by omega) | exact vw_ints rfl rfl (by omega) | exact vw_bools rfl rfl (by omega) | exact rowV_fe (fun _ => rfl) | exact rowV_fe_start (c := cN) (fun _ => rfl) rfl | exact rowsV_fam (fun _ => rfl) (by decide) ⟨rfl, rfl⟩ trivial | exact rowsV_fam (fun _ => rfl) (by decide) (fun _ _ => ⟨rfl, rfl⟩) trivial | (simp; done)) (by (try simp only [evW, evK, evB, evL, Nat.reduceBEq, Nat.reduceAdd, Nat.reduceSub, Nat.reduceLeDiff, Nat.reduceLT, implies_true, and_self, Int.natCast_zero, Int.natCast_one, Int.cast_ofNat_Int, evV, encInts, encNats, encBools, encP, encNN]) <;> (repeat' with_reducible apply And.intro) <;> first | omega | exact vw_nats rfl rfl (by omega) | exact vw_ints rfl rfl (by omega) | exact vw_bools rfl rfl (by omega) | exact rowV_fe (fun _ => rfl) | exact rowV_fe_start (c := cN) (fun _ => rfl) rfl | exact rowsV_fam (fun _ => rfl) (by decide) ⟨rfl, rfl⟩ trivial | exact rowsV_fam (fun _ => rfl) (by decide) (fun _ _ => ⟨rfl, rfl⟩) trivial | (simp; done)))⟩
  · obtain rfl : b = g.blocks.length := by omega
    unfold ac_R24_Frontier_k6
    (repeat (first | (simp (disch := (first | omega | (simp only [evF, evL, implies_true, and_self]; done) | fail)) only [evS, evZ, evK, evB, evL, evR, Nat.reduceBEq, Nat.reduceAdd, Nat.reduceLeDiff, boxR, rboxR, allocR, fldR, binI, unR, pickR, mknilR, mkslR, buildSlR, buildR, extR, convI, eqB, evU, wrap64, rs_R24_Frontier]) | (with_reducible intro _) | ((with_reducible apply And.intro); omega)))
    refine ⟨_, ?_, rfl⟩
    exact vw_fam trivial rfl (by omega) rfl (fun _ _ => trivial) (fun i _ => Nat.le_trans (gLL_len (Nat.zero_le _)) (by omega)) (fun _ => rfl)

end Go.Ab
