/-
  Part 6 of the proof: how the calls of this program run, over values instead of memory, and what each function computes.
-/
import Derived.KernelRfl
import Derived.Test.YtglokgacghadbaaKe
set_option linter.unusedVariables false
set_option linter.unusedSimpArgs false

namespace Go.Ab
open Go.RowKit Go.Proofs

theorem postsL_len (E : Adj) : (postsL E).length = E.length := by simp [postsL]

theorem gLL_row {P : Nat → Nat → Bool} {n b : Nat} (hb : b < n) : suc ((List.range n).map (gLL P n n 0)) b = (List.range n).filter (P b) := by
  rw [gLL_end]
  simp [suc, List.getD_eq_getElem?_getD, hb]

theorem R24_PostTree_ok (g : Gr) (hg : g.small) : PureFn Try.prog f_R24_PostTree [.agg g.cells] (· = encInts (postL g.E)) := by
  refine fn_x cf_R24_PostTree rfl ?_
  unfold ac_R24_PostTree
  have hB : big = 9223372036854775807 := rfl
  have hlen := g.E_len
  have hn := hg.1
  have hfl : ∀ b x, ∀ k ∈ fromL g.E b x, k < g.blocks.length := fun b x k hk => by rw [← hlen]; exact (fromL_nd g.E_ok b x).lt k hk
  have hP : ∀ b a, pdomP g.E b a = (leavesL g.E (fromL g.E b (-1)) && decide (a ≠ b) && !leavesL g.E (fromL g.E b a)) := fun b a => rfl
  have hres : postL g.E = mapR (nearL ((List.range g.blocks.length).map (gLL (pdomP g.E) g.blocks.length g.blocks.length 0))) g.blocks.length := by
    rw [gLL_end]
    unfold postL postsL
    rw [hlen]
    rfl
  rw [hres]
  generalize pdomP g.E = Q at hP ⊢
  (repeat (first | (simp (disch := (first | omega | (simp only [evF, evL, implies_true, and_self]; done) | fail)) only [evS, evZ, evK, evB, evL, evR, Nat.reduceBEq, Nat.reduceAdd, Nat.reduceLeDiff, boxR, rboxR, allocR, fldR, binI, unR, pickR, mknilR, mkslR, buildSlR, buildR, extR, convI, eqB, evU, wrap64, Gr.cells]) | (with_reducible intro _) | ((with_reducible apply And.intro); omega)))
  refine loopX_intro (fun s : Nat × (Nat → Nat) => ([(1, encP 2 g.cells), (3, .own 0 0 0 0 g.blocks.length), (4, .int .i64 s.1)], [(0, .row 1 (fe 1 g.blocks.length (gLL Q g.blocks.length s.1 0) s.2) 0), (1, .fam 1 (fi cN g.blocks.length (gLL Q g.blocks.length s.1 0) s.2))])) 2
    (fun s => s.1 ≤ g.blocks.length) (fun s => g.blocks.length - s.1) (0, fun _ => 0) (Nat.zero_le _) (Ent.tab [(0, 1, 0)] [] rfl (by (try simp only [evW, evK, evB, evL, Nat.reduceBEq, Nat.reduceAdd, Nat.reduceSub, Nat.reduceLeDiff, Nat.reduceLT, implies_true, and_self, Int.natCast_zero, Int.natCast_one, Int.cast_ofNat_Int, evV, encInts, encNats, encBools, encP, Gr.cells, gLL_zero]) <;> (repeat' with_reducible apply And.intro) <;> first | omega | exact vw_nats rfl rfl (by omega) | exact vw_ints rfl rfl (by omega) | exact vw_bools rfl rfl (by omega) | exact rowV_fe (fun _ => rfl) | exact rowV_fe_start (c := cN) (fun _ => rfl) rfl | exact rowsV_fam (fun _ => rfl) (by decide) ⟨rfl, rfl⟩ trivial | exact rowsV_fam (fun _ => rfl) (by decide) (fun _ _ => ⟨rfl, rfl⟩) trivial | (simp; done)) (by (try simp only [evW, evK, evB, evL, Nat.reduceBEq, Nat.reduceAdd, Nat.reduceSub, Nat.reduceLeDiff, Nat.reduceLT, implies_true, and_self, Int.natCast_zero, Int.natCast_one, Int.cast_ofNat_Int, evV, encInts, encNats, encBools, encP, Gr.cells, gLL_zero]) <;> (repeat' with_reducible apply And.intro) <;> first | omega | exact vw_nats rfl rfl (by omega) | exact vw_ints rfl rfl (by omega) | exact vw_bools rfl rfl (by omega) | exact rowV_fe (fun _ => rfl) | exact rowV_fe_start (c := cN) (fun _ => rfl) rfl | exact rowsV_fam (fun _ => rfl) (by decide) ⟨rfl, rfl⟩ trivial | exact rowsV_fam (fun _ => rfl) (by decide) (fun _ _ => ⟨rfl, rfl⟩) trivial | (simp; done))) ?_
  rintro ⟨b, gs⟩ hb wf
  simp only at hb
  unfold ac_R24_PostTree_l2
  (repeat (first | (simp (disch := (first | omega | (simp only [evF, evL, implies_true, and_self]; done) | fail)) only [evS, evZ, evK, evB, evL, evR, Nat.reduceBEq, Nat.reduceAdd, Nat.reduceLeDiff, boxR, rboxR, allocR, fldR, binI, unR, pickR, mknilR, mkslR, buildSlR, buildR, extR, convI, eqB, evU, wrap64, encP, Gr.cells]) | (with_reducible intro _) | ((with_reducible apply And.intro); omega)))
  (refine condX_intro (fun h => ?_) (fun h => ?_)) <;> (try simp only [decide_eq_true_eq, decide_eq_false_iff_not, Bool.not_eq_true', Bool.not_eq_false', Bool.and_eq_true, Bool.or_eq_true, not_true_eq_false, not_false_eq_true] at h)
  · have hbn : b < g.blocks.length := by omega
    (repeat (first | (simp (disch := (first | omega | (simp only [evF, evL, implies_true, and_self]; done) | fail)) only [evS, evZ, evK, evB, evL, evR, Nat.reduceBEq, Nat.reduceAdd, Nat.reduceLeDiff, boxR, rboxR, allocR, fldR, binI, unR, pickR, mknilR, mkslR, buildSlR, buildR, extR, convI, eqB, evU, wrap64]) | (with_reducible intro _) | ((with_reducible apply And.intro); omega)))
    refine loopX_intro (fun s : Nat × (Nat → Nat) => ([(1, encP 2 g.cells), (3, .own 0 0 0 0 g.blocks.length), (4, .int .i64 b), (5, .int .i64 s.1)], [(0, .row 1 (fe 1 g.blocks.length (gLL Q g.blocks.length b s.1) s.2) 0), (1, .fam 1 (fi cN g.blocks.length (gLL Q g.blocks.length b s.1) s.2))])) 2
      (fun s => s.1 ≤ g.blocks.length) (fun s => g.blocks.length - s.1) (0, gs) (Nat.zero_le _) (Ent.tab [(0, 0, 0), (1, 1, 0)] [] rfl (by (try simp only [evW, evK, evB, evL, Nat.reduceBEq, Nat.reduceAdd, Nat.reduceSub, Nat.reduceLeDiff, Nat.reduceLT, implies_true, and_self, Int.natCast_zero, Int.natCast_one, Int.cast_ofNat_Int, evV, encInts, encNats, encBools, encP, Gr.cells]) <;> (repeat' with_reducible apply And.intro) <;> first | omega | exact vw_nats rfl rfl (by omega) | exact vw_ints rfl rfl (by omega) | exact vw_bools rfl rfl (by omega) | exact rowV_fe (fun _ => rfl) | exact rowV_fe_start (c := cN) (fun _ => rfl) rfl | exact rowsV_fam (fun _ => rfl) (by decide) ⟨rfl, rfl⟩ trivial | exact rowsV_fam (fun _ => rfl) (by decide) (fun _ _ => ⟨rfl, rfl⟩) trivial | (simp; done)) (by (try simp only [evW, evK, evB, evL, Nat.reduceBEq, Nat.reduceAdd, Nat.reduceSub, Nat.reduceLeDiff, Nat.reduceLT, implies_true, and_self, Int.natCast_zero, Int.natCast_one, Int.cast_ofNat_Int, evV, encInts, encNats, encBools, encP, Gr.cells]) <;> (repeat' with_reducible apply And.intro) <;> first | omega | exact vw_nats rfl rfl (by omega) | exact vw_ints rfl rfl (by omega) | exact vw_bools rfl rfl (by omega) | exact rowV_fe (fun _ => rfl) | exact rowV_fe_start (c := cN) (fun _ => rfl) rfl | exact rowsV_fam (fun _ => rfl) (by decide) ⟨rfl, rfl⟩ trivial | exact rowsV_fam (fun _ => rfl) (by decide) (fun _ _ => ⟨rfl, rfl⟩) trivial | (simp; done))) ?_
    rintro ⟨a, gs2⟩ ha wf
    simp only at ha
    unfold ac_R24_PostTree_l0
    (repeat (first | (simp (disch := (first | omega | (simp only [evF, evL, implies_true, and_self]; done) | fail)) only [evS, evZ, evK, evB, evL, evR, Nat.reduceBEq, Nat.reduceAdd, Nat.reduceLeDiff, boxR, rboxR, allocR, fldR, binI, unR, pickR, mknilR, mkslR, buildSlR, buildR, extR, convI, eqB, evU, wrap64, encP, Gr.cells]) | (with_reducible intro _) | ((with_reducible apply And.intro); omega)))
    generalize h2 : decide ((a : Int) < g.blocks.length) = h2b; cases h2b <;> simp only [decide_eq_true_eq, decide_eq_false_iff_not, ne_eq, Classical.not_not] at h2
    · obtain rfl : a = g.blocks.length := by omega
      unfold ac_R24_PostTree_k1
      rw [gLL_next]
      (repeat (first | (simp (disch := (first | omega | (simp only [evF, evL, implies_true, and_self]; done) | fail)) only [evS, evZ, evK, evB, evL, evR, Nat.reduceBEq, Nat.reduceAdd, Nat.reduceLeDiff, boxR, rboxR, allocR, fldR, binI, unR, pickR, mknilR, mkslR, buildSlR, buildR, extR, convI, eqB, evU, wrap64]) | (with_reducible intro _) | ((with_reducible apply And.intro); omega)))
      exact ⟨(b + 1, gs2), by simp only; omega, by simp only; omega, (Ent.tab [(0, 0, 0), (1, 1, 0)] [] rfl (by (try simp only [evW, evK, evB, evL, Nat.reduceBEq, Nat.reduceAdd, Nat.reduceSub, Nat.reduceLeDiff, Nat.reduceLT, implies_true, and_self, Int.natCast_zero, Int.natCast_one, Int.cast_ofNat_Int, evV, encInts, encNats, encBools, encP, Gr.cells]) <;> (repeat' with_reducible apply And.intro) <;> first | omega | exact vw_nats rfl rfl (by omega) | exact vw_ints rfl rfl (by omega) | exact vw_bools rfl rfl (by omega) | exact rowV_fe (fun _ => rfl) | exact rowV_fe_start (c := cN) (fun _ => rfl) rfl | exact rowsV_fam (fun _ => rfl) (by decide) ⟨rfl, rfl⟩ trivial | exact rowsV_fam (fun _ => rfl) (by decide) (fun _ _ => ⟨rfl, rfl⟩) trivial | (simp; done)) (by (try simp only [evW, evK, evB, evL, Nat.reduceBEq, Nat.reduceAdd, Nat.reduceSub, Nat.reduceLeDiff, Nat.reduceLT, implies_true, and_self, Int.natCast_zero, Int.natCast_one, Int.cast_ofNat_Int, evV, encInts, encNats, encBools, encP, Gr.cells]) <;> (repeat' with_reducible apply And.intro) <;> first | omega | exact vw_nats rfl rfl (by omega) | exact vw_ints rfl rfl (by omega) | exact vw_bools rfl rfl (by omega) | exact rowV_fe (fun _ => rfl) | exact rowV_fe_start (c := cN) (fun _ => rfl) rfl | exact rowsV_fam (fun _ => rfl) (by decide) ⟨rfl, rfl⟩ trivial | exact rowsV_fam (fun _ => rfl) (by decide) (fun _ _ => ⟨rfl, rfl⟩) trivial | (simp; done)))⟩
    (repeat (first | (simp (disch := (first | omega | (simp only [evF, evL, implies_true, and_self]; done) | fail)) only [evS, evZ, evK, evB, evL, evR, Nat.reduceBEq, Nat.reduceAdd, Nat.reduceLeDiff, boxR, rboxR, allocR, fldR, binI, unR, pickR, mknilR, mkslR, buildSlR, buildR, extR, convI, eqB, evU, wrap64, Gr.two]) | (with_reducible intro _) | ((with_reducible apply And.intro); omega)))
    refine callqX_fix (call_flat (R24_from_ok g hg b (-1)) rfl) ?_
    (repeat (first | (simp (disch := (first | omega | (simp only [evF, evL, implies_true, and_self]; done) | fail)) only [evS, evZ, evK, evB, evL, evR, Nat.reduceBEq, Nat.reduceAdd, Nat.reduceLeDiff, boxR, rboxR, allocR, fldR, binI, unR, pickR, mknilR, mkslR, buildSlR, buildR, extR, convI, eqB, evU, wrap64, Gr.two]) | (with_reducible intro _) | ((with_reducible apply And.intro); omega)))
    refine callqX_fix (call_flat (R24_leaves_ok g hg _ (hfl b (-1))) rfl) ?_
    (repeat (first | (simp (disch := (first | omega | (simp only [evF, evL, implies_true, and_self]; done) | fail)) only [evS, evZ, evK, evB, evL, evR, Nat.reduceBEq, Nat.reduceAdd, Nat.reduceLeDiff, boxR, rboxR, allocR, fldR, binI, unR, pickR, mknilR, mkslR, buildSlR, buildR, extR, convI, eqB, evU, wrap64]) | (with_reducible intro _) | ((with_reducible apply And.intro); omega)))
    (refine condX_intro (fun h3 => ?_) (fun h3 => ?_)) <;> (try simp only [decide_eq_true_eq, decide_eq_false_iff_not, Bool.not_eq_true', Bool.not_eq_false', Bool.and_eq_true, Bool.or_eq_true, not_true_eq_false, not_false_eq_true] at h3)
    · (repeat (first | (simp (disch := (first | omega | (simp only [evF, evL, implies_true, and_self]; done) | fail)) only [evS, evZ, evK, evB, evL, evR, Nat.reduceBEq, Nat.reduceAdd, Nat.reduceLeDiff, boxR, rboxR, allocR, fldR, binI, unR, pickR, mknilR, mkslR, buildSlR, buildR, extR, convI, eqB, evU, wrap64, Gr.two]) | (with_reducible intro _) | ((with_reducible apply And.intro); omega)))
      have hq := hP b a
      rw [h3] at hq
      have hll := gLL_at (P := Q) (n := g.blocks.length) (b := b) (w := a)
      generalize h4 : decide ((a : Int) ≠ b) = h4b; cases h4b <;> simp only [decide_eq_true_eq, decide_eq_false_iff_not, ne_eq, Classical.not_not] at h4
      · rw [gLL_no (P := Q) (n := g.blocks.length) (b := b) (w := a) (by rw [hq]; simp; omega)]
        (repeat (first | (simp (disch := (first | omega | (simp only [evF, evL, implies_true, and_self]; done) | fail)) only [evS, evZ, evK, evB, evL, evR, Nat.reduceBEq, Nat.reduceAdd, Nat.reduceLeDiff, boxR, rboxR, allocR, fldR, binI, unR, pickR, mknilR, mkslR, buildSlR, buildR, extR, convI, eqB, evU, wrap64]) | (with_reducible intro _) | ((with_reducible apply And.intro); omega)))
        exact ⟨(a + 1, gs2), by simp only; omega, by simp only; omega, (Ent.tab [(0, 0, 0), (1, 1, 0)] [] rfl (by (try simp only [evW, evK, evB, evL, Nat.reduceBEq, Nat.reduceAdd, Nat.reduceSub, Nat.reduceLeDiff, Nat.reduceLT, implies_true, and_self, Int.natCast_zero, Int.natCast_one, Int.cast_ofNat_Int, evV, encInts, encNats, encBools, encP, Gr.cells]) <;> (repeat' with_reducible apply And.intro) <;> first | omega | exact vw_nats rfl rfl (by omega) | exact vw_ints rfl rfl (by omega) | exact vw_bools rfl rfl (by omega) | exact rowV_fe (fun _ => rfl) | exact rowV_fe_start (c := cN) (fun _ => rfl) rfl | exact rowsV_fam (fun _ => rfl) (by decide) ⟨rfl, rfl⟩ trivial | exact rowsV_fam (fun _ => rfl) (by decide) (fun _ _ => ⟨rfl, rfl⟩) trivial | (simp; done)) (by (try simp only [evW, evK, evB, evL, Nat.reduceBEq, Nat.reduceAdd, Nat.reduceSub, Nat.reduceLeDiff, Nat.reduceLT, implies_true, and_self, Int.natCast_zero, Int.natCast_one, Int.cast_ofNat_Int, evV, encInts, encNats, encBools, encP, Gr.cells]) <;> (repeat' with_reducible apply And.intro) <;> first | omega | exact vw_nats rfl rfl (by omega) | exact vw_ints rfl rfl (by omega) | exact vw_bools rfl rfl (by omega) | exact rowV_fe (fun _ => rfl) | exact rowV_fe_start (c := cN) (fun _ => rfl) rfl | exact rowsV_fam (fun _ => rfl) (by decide) ⟨rfl, rfl⟩ trivial | exact rowsV_fam (fun _ => rfl) (by decide) (fun _ _ => ⟨rfl, rfl⟩) trivial | (simp; done)))⟩
      · (repeat (first | (simp (disch := (first | omega | (simp only [evF, evL, implies_true, and_self]; done) | fail)) only [evS, evZ, evK, evB, evL, evR, Nat.reduceBEq, Nat.reduceAdd, Nat.reduceLeDiff, boxR, rboxR, allocR, fldR, binI, unR, pickR, mknilR, mkslR, buildSlR, buildR, extR, convI, eqB, evU, wrap64, Gr.two]) | (with_reducible intro _) | ((with_reducible apply And.intro); omega)))
        refine callqX_fix (call_flat (R24_from_ok g hg b a) rfl) ?_
        (repeat (first | (simp (disch := (first | omega | (simp only [evF, evL, implies_true, and_self]; done) | fail)) only [evS, evZ, evK, evB, evL, evR, Nat.reduceBEq, Nat.reduceAdd, Nat.reduceLeDiff, boxR, rboxR, allocR, fldR, binI, unR, pickR, mknilR, mkslR, buildSlR, buildR, extR, convI, eqB, evU, wrap64, Gr.two]) | (with_reducible intro _) | ((with_reducible apply And.intro); omega)))
        refine callqX_fix (call_flat (R24_leaves_ok g hg _ (hfl b a)) rfl) ?_
        have hab : decide (a ≠ b) = true := by simp; omega
        rw [hab] at hq
        (repeat (first | (simp (disch := (first | omega | (simp only [evF, evL, implies_true, and_self]; done) | fail)) only [evS, evZ, evK, evB, evL, evR, Nat.reduceBEq, Nat.reduceAdd, Nat.reduceLeDiff, boxR, rboxR, allocR, fldR, binI, unR, pickR, mknilR, mkslR, buildSlR, buildR, extR, convI, eqB, evU, wrap64]) | (with_reducible intro _) | ((with_reducible apply And.intro); omega)))
        (refine condX_intro (fun h5 => ?_) (fun h5 => ?_)) <;> (try simp only [decide_eq_true_eq, decide_eq_false_iff_not, Bool.not_eq_true', Bool.not_eq_false', Bool.and_eq_true, Bool.or_eq_true, not_true_eq_false, not_false_eq_true] at h5)
        · have hy := gLL_yes (P := Q) (n := g.blocks.length) (b := b) (w := a) (by rw [hq, h5]; rfl)
          (repeat (first | (simp (disch := (first | omega | (simp only [evF, evL, implies_true, and_self]; done) | fail)) only [evS, evZ, evK, evB, evL, evR, Nat.reduceBEq, Nat.reduceAdd, Nat.reduceLeDiff, boxR, rboxR, allocR, fldR, binI, unR, pickR, mknilR, mkslR, buildSlR, buildR, extR, convI, eqB, evU, wrap64, fe_len, fe_get hbn, fi_get hbn, fi_snoc (c := cN) (a := a) (ca := [AV.int .i64 (a : Int)]) rfl, fe_snoc (ll := gLL Q g.blocks.length b a) (k := b) a rfl]) | (with_reducible intro _) | ((with_reducible apply And.intro); omega)))
          rw [hy]
          exact ⟨(a + 1, _), by simp only; omega, by simp only; omega, (Ent.tab [(0, 0, 0), (1, 1, 0)] [] rfl (by (try simp only [evW, evK, evB, evL, Nat.reduceBEq, Nat.reduceAdd, Nat.reduceSub, Nat.reduceLeDiff, Nat.reduceLT, implies_true, and_self, Int.natCast_zero, Int.natCast_one, Int.cast_ofNat_Int, evV, encInts, encNats, encBools, encP, Gr.cells]) <;> (repeat' with_reducible apply And.intro) <;> first | omega | exact vw_nats rfl rfl (by omega) | exact vw_ints rfl rfl (by omega) | exact vw_bools rfl rfl (by omega) | exact rowV_fe (fun _ => rfl) | exact rowV_fe_start (c := cN) (fun _ => rfl) rfl | exact rowsV_fam (fun _ => rfl) (by decide) ⟨rfl, rfl⟩ trivial | exact rowsV_fam (fun _ => rfl) (by decide) (fun _ _ => ⟨rfl, rfl⟩) trivial | (simp; done)) (by (try simp only [evW, evK, evB, evL, Nat.reduceBEq, Nat.reduceAdd, Nat.reduceSub, Nat.reduceLeDiff, Nat.reduceLT, implies_true, and_self, Int.natCast_zero, Int.natCast_one, Int.cast_ofNat_Int, evV, encInts, encNats, encBools, encP, Gr.cells]) <;> (repeat' with_reducible apply And.intro) <;> first | omega | exact vw_nats rfl rfl (by omega) | exact vw_ints rfl rfl (by omega) | exact vw_bools rfl rfl (by omega) | exact rowV_fe (fun _ => rfl) | exact rowV_fe_start (c := cN) (fun _ => rfl) rfl | exact rowsV_fam (fun _ => rfl) (by decide) ⟨rfl, rfl⟩ trivial | exact rowsV_fam (fun _ => rfl) (by decide) (fun _ _ => ⟨rfl, rfl⟩) trivial | (simp; done)))⟩
        · rw [gLL_no (P := Q) (n := g.blocks.length) (b := b) (w := a) (by rw [hq]; simpa using h5)]
          (repeat (first | (simp (disch := (first | omega | (simp only [evF, evL, implies_true, and_self]; done) | fail)) only [evS, evZ, evK, evB, evL, evR, Nat.reduceBEq, Nat.reduceAdd, Nat.reduceLeDiff, boxR, rboxR, allocR, fldR, binI, unR, pickR, mknilR, mkslR, buildSlR, buildR, extR, convI, eqB, evU, wrap64]) | (with_reducible intro _) | ((with_reducible apply And.intro); omega)))
          exact ⟨(a + 1, gs2), by simp only; omega, by simp only; omega, (Ent.tab [(0, 0, 0), (1, 1, 0)] [] rfl (by (try simp only [evW, evK, evB, evL, Nat.reduceBEq, Nat.reduceAdd, Nat.reduceSub, Nat.reduceLeDiff, Nat.reduceLT, implies_true, and_self, Int.natCast_zero, Int.natCast_one, Int.cast_ofNat_Int, evV, encInts, encNats, encBools, encP, Gr.cells]) <;> (repeat' with_reducible apply And.intro) <;> first | omega | exact vw_nats rfl rfl (by omega) | exact vw_ints rfl rfl (by omega) | exact vw_bools rfl rfl (by omega) | exact rowV_fe (fun _ => rfl) | exact rowV_fe_start (c := cN) (fun _ => rfl) rfl | exact rowsV_fam (fun _ => rfl) (by decide) ⟨rfl, rfl⟩ trivial | exact rowsV_fam (fun _ => rfl) (by decide) (fun _ _ => ⟨rfl, rfl⟩) trivial | (simp; done)) (by (try simp only [evW, evK, evB, evL, Nat.reduceBEq, Nat.reduceAdd, Nat.reduceSub, Nat.reduceLeDiff, Nat.reduceLT, implies_true, and_self, Int.natCast_zero, Int.natCast_one, Int.cast_ofNat_Int, evV, encInts, encNats, encBools, encP, Gr.cells]) <;> (repeat' with_reducible apply And.intro) <;> first | omega | exact vw_nats rfl rfl (by omega) | exact vw_ints rfl rfl (by omega) | exact vw_bools rfl rfl (by omega) | exact rowV_fe (fun _ => rfl) | exact rowV_fe_start (c := cN) (fun _ => rfl) rfl | exact rowsV_fam (fun _ => rfl) (by decide) ⟨rfl, rfl⟩ trivial | exact rowsV_fam (fun _ => rfl) (by decide) (fun _ _ => ⟨rfl, rfl⟩) trivial | (simp; done)))⟩
    · have hno : ∀ w, Q b w = false := fun w => by
        rw [hP]
        have : leavesL g.E (fromL g.E b (-1)) = false := by simpa using h3
        rw [this]; rfl
      unfold ac_R24_PostTree_k1
      have e : gLL Q g.blocks.length b a = gLL Q g.blocks.length (b + 1) 0 := by
        rw [← gLL_skip hno]
        funext i
        unfold gLL
        rw [filR_none hno a]
        rfl
      rw [e]
      (repeat (first | (simp (disch := (first | omega | (simp only [evF, evL, implies_true, and_self]; done) | fail)) only [evS, evZ, evK, evB, evL, evR, Nat.reduceBEq, Nat.reduceAdd, Nat.reduceLeDiff, boxR, rboxR, allocR, fldR, binI, unR, pickR, mknilR, mkslR, buildSlR, buildR, extR, convI, eqB, evU, wrap64]) | (with_reducible intro _) | ((with_reducible apply And.intro); omega)))
      exact ⟨(b + 1, gs2), by simp only; omega, by simp only; omega, (Ent.tab [(0, 0, 0), (1, 1, 0)] [] rfl (by (try simp only [evW, evK, evB, evL, Nat.reduceBEq, Nat.reduceAdd, Nat.reduceSub, Nat.reduceLeDiff, Nat.reduceLT, implies_true, and_self, Int.natCast_zero, Int.natCast_one, Int.cast_ofNat_Int, evV, encInts, encNats, encBools, encP, Gr.cells]) <;> (repeat' with_reducible apply And.intro) <;> first | omega | exact vw_nats rfl rfl (by omega) | exact vw_ints rfl rfl (by omega) | exact vw_bools rfl rfl (by omega) | exact rowV_fe (fun _ => rfl) | exact rowV_fe_start (c := cN) (fun _ => rfl) rfl | exact rowsV_fam (fun _ => rfl) (by decide) ⟨rfl, rfl⟩ trivial | exact rowsV_fam (fun _ => rfl) (by decide) (fun _ _ => ⟨rfl, rfl⟩) trivial | (simp; done)) (by (try simp only [evW, evK, evB, evL, Nat.reduceBEq, Nat.reduceAdd, Nat.reduceSub, Nat.reduceLeDiff, Nat.reduceLT, implies_true, and_self, Int.natCast_zero, Int.natCast_one, Int.cast_ofNat_Int, evV, encInts, encNats, encBools, encP, Gr.cells]) <;> (repeat' with_reducible apply And.intro) <;> first | omega | exact vw_nats rfl rfl (by omega) | exact vw_ints rfl rfl (by omega) | exact vw_bools rfl rfl (by omega) | exact rowV_fe (fun _ => rfl) | exact rowV_fe_start (c := cN) (fun _ => rfl) rfl | exact rowsV_fam (fun _ => rfl) (by decide) ⟨rfl, rfl⟩ trivial | exact rowsV_fam (fun _ => rfl) (by decide) (fun _ _ => ⟨rfl, rfl⟩) trivial | (simp; done)))⟩
  · obtain rfl : b = g.blocks.length := by omega
    unfold ac_R24_PostTree_k5
    (repeat (first | (simp (disch := (first | omega | (simp only [evF, evL, implies_true, and_self]; done) | fail)) only [evS, evZ, evK, evB, evL, evR, Nat.reduceBEq, Nat.reduceAdd, Nat.reduceLeDiff, boxR, rboxR, allocR, fldR, binI, unR, pickR, mknilR, mkslR, buildSlR, buildR, extR, convI, eqB, evU, wrap64]) | (with_reducible intro _) | ((with_reducible apply And.intro); omega)))
    have hA : ((List.range g.blocks.length).map (gLL Q g.blocks.length g.blocks.length 0)).length = g.blocks.length := by simp
    have hlt : ∀ i, i < g.blocks.length → ∀ a ∈ suc ((List.range g.blocks.length).map (gLL Q g.blocks.length g.blocks.length 0)) i, a < ((List.range g.blocks.length).map (gLL Q g.blocks.length g.blocks.length 0)).length := by
      intro i hi a ha
      rw [gLL_row hi] at ha
      rw [hA]
      exact List.mem_range.1 (List.mem_filter.1 ha).1
    have hfr : ∀ (H HH : AH) (σ : Nat → Nat → Option (Nat × Nat × Nat)) (D : Nat → Nat → Prop), D 0 0 → (∀ i, D 1 i) → H.get 0 0 = some (.row 1 (fe 1 g.blocks.length (gLL Q g.blocks.length g.blocks.length 0) gs) 0) → H.look 1 = some (.fam 1 (fi cN g.blocks.length (gLL Q g.blocks.length g.blocks.length 0) gs)) →
        Vw H HH σ D true (.own 0 0 0 0 g.blocks.length) (encNN ((List.range g.blocks.length).map (gLL Q g.blocks.length g.blocks.length 0))) := fun H HH σ D h1 h2 h3 h4 => by
      rw [encNN_L]
      exact vw_fam h1 h3 (by omega) h4 (fun _ _ => h2 _) (fun i _ => Nat.le_trans (gLL_len (Nat.zero_le _)) (by omega)) (fun _ => rfl)
    generalize hAA : (List.range g.blocks.length).map (gLL Q g.blocks.length g.blocks.length 0) = A at hA hlt hfr ⊢
    generalize hf : nearL A = f
    refine loopX_intro (fun i : Nat => ([(3, encNN A), (6, .own 0 0 0 0 (mapR f i).length), (7, .int .i64 i)], [(0, .row 1 ((mapR f i).map cI) 0)])) 1 (fun i => i ≤ g.blocks.length) (fun i => g.blocks.length - i) 0 (Nat.zero_le _) (Ent.tab [(0, 2, 0)] [0, 1] rfl (by simp only [evW, evK, evB, evL, Nat.reduceBEq, Nat.reduceAdd, Nat.reduceSub, Nat.reduceLeDiff, Nat.reduceLT, implies_true, and_self, Int.natCast_zero, Int.natCast_one, Int.cast_ofNat_Int, evV, encInts, encNats, encBools, encP, mapR_zero]) ?_) ?_
    · refine ⟨hfr _ _ _ _ rfl (fun _ => rfl) rfl rfl, ?_⟩
      simp only [evW, evK, evB, evL, Nat.reduceBEq, Nat.reduceAdd, Nat.reduceSub, Nat.reduceLeDiff, Nat.reduceLT, implies_true, and_self, Int.natCast_zero, Int.natCast_one, Int.cast_ofNat_Int, evV, encInts, encNats, encBools, encP, mapR_zero]
    intro i hi wf
    have hml := mapR_len (f := f) (n := i)
    unfold ac_R24_PostTree_l3
    (repeat (first | (simp (disch := (first | omega | (simp only [evF, evL, implies_true, and_self]; done) | fail)) only [evS, evZ, evK, evB, evL, evR, Nat.reduceBEq, Nat.reduceAdd, Nat.reduceLeDiff, boxR, rboxR, allocR, fldR, binI, unR, pickR, mknilR, mkslR, buildSlR, buildR, extR, convI, eqB, evU, wrap64, encNN]) | (with_reducible intro _) | ((with_reducible apply And.intro); omega)))
    (refine condX_intro (fun h2 => ?_) (fun h2 => ?_)) <;> (try simp only [decide_eq_true_eq, decide_eq_false_iff_not, Bool.not_eq_true', Bool.not_eq_false', Bool.and_eq_true, Bool.or_eq_true, not_true_eq_false, not_false_eq_true] at h2)
    · (repeat (first | (simp (disch := (first | omega | (simp only [evF, evL, implies_true, and_self]; done) | fail)) only [evS, evZ, evK, evB, evL, evR, Nat.reduceBEq, Nat.reduceAdd, Nat.reduceLeDiff, boxR, rboxR, allocR, fldR, binI, unR, pickR, mknilR, mkslR, buildSlR, buildR, extR, convI, eqB, evU, wrap64]) | (with_reducible intro _) | ((with_reducible apply And.intro); omega)))
      refine callX_fix (call_flat (R24_nearest_ok A i (by omega) (hlt i (by omega))) rfl) ?_
      rw [hf]
      (repeat (first | (simp (disch := (first | omega | (simp only [evF, evL, implies_true, and_self]; done) | fail)) only [evS, evZ, evK, evB, evL, evR, Nat.reduceBEq, Nat.reduceAdd, Nat.reduceLeDiff, boxR, rboxR, allocR, fldR, binI, unR, pickR, mknilR, mkslR, buildSlR, buildR, extR, convI, eqB, evU, wrap64]) | (with_reducible intro _) | ((with_reducible apply And.intro); omega)))
      exact ⟨i + 1, by omega, by omega, (Ent.tab [(0, 0, 1)] [] rfl (by (try simp only [evW, evK, evB, evL, Nat.reduceBEq, Nat.reduceAdd, Nat.reduceSub, Nat.reduceLeDiff, Nat.reduceLT, implies_true, and_self, Int.natCast_zero, Int.natCast_one, Int.cast_ofNat_Int, evV, encInts, encNats, encBools, encP, encNN, mapR_succ]) <;> (repeat' with_reducible apply And.intro) <;> first | omega | exact vw_nats rfl rfl (by omega) | exact vw_ints rfl rfl (by omega) | exact vw_bools rfl rfl (by omega) | exact rowV_fe (fun _ => rfl) | exact rowV_fe_start (c := cN) (fun _ => rfl) rfl | exact rowsV_fam (fun _ => rfl) (by decide) ⟨rfl, rfl⟩ trivial | exact rowsV_fam (fun _ => rfl) (by decide) (fun _ _ => ⟨rfl, rfl⟩) trivial | (simp; done)) (by (try simp only [evW, evK, evB, evL, Nat.reduceBEq, Nat.reduceAdd, Nat.reduceSub, Nat.reduceLeDiff, Nat.reduceLT, implies_true, and_self, Int.natCast_zero, Int.natCast_one, Int.cast_ofNat_Int, evV, encInts, encNats, encBools, encP, encNN, mapR_succ]) <;> (repeat' with_reducible apply And.intro) <;> first | omega | exact vw_nats rfl rfl (by omega) | exact vw_ints rfl rfl (by omega) | exact vw_bools rfl rfl (by omega) | exact rowV_fe (fun _ => rfl) | exact rowV_fe_start (c := cN) (fun _ => rfl) rfl | exact rowsV_fam (fun _ => rfl) (by decide) ⟨rfl, rfl⟩ trivial | exact rowsV_fam (fun _ => rfl) (by decide) (fun _ _ => ⟨rfl, rfl⟩) trivial | (simp; done)))⟩
    · unfold ac_R24_PostTree_k4
      (repeat (first | (simp (disch := (first | omega | (simp only [evF, evL, implies_true, and_self]; done) | fail)) only [evS, evZ, evK, evB, evL, evR, Nat.reduceBEq, Nat.reduceAdd, Nat.reduceLeDiff, boxR, rboxR, allocR, fldR, binI, unR, pickR, mknilR, mkslR, buildSlR, buildR, extR, convI, eqB, evU, wrap64, rs_R24_PostTree]) | (with_reducible intro _) | ((with_reducible apply And.intro); omega)))
      refine ⟨_, ?_, rfl⟩
      obtain rfl : i = g.blocks.length := by omega
      exact vw_ints trivial rfl (by omega)

end Go.Ab

namespace Go.Ab

/-- In list P the node p comes behind m. -/
def After (P : List Nat) (m p : Nat) : Prop := ∃ A B, P = A ++ m :: B ∧ p ∈ B

theorem After.left {P : List Nat} {m p : Nat} (h : After P m p) (L : List Nat) : After (L ++ P) m p := by
  obtain ⟨A, B, rfl, hp⟩ := h
  exact ⟨L ++ A, B, by simp, hp⟩
theorem After.right {P : List Nat} {m p : Nat} (h : After P m p) (R : List Nat) : After (P ++ R) m p := by
  obtain ⟨A, B, rfl, hp⟩ := h
  exact ⟨A, B ++ R, by simp, by simp [hp]⟩
theorem After.last {P : List Nat} {m k : Nat} (h : m ∈ P) : After (P ++ [k]) m k := by
  obtain ⟨A, B, rfl⟩ := List.append_of_mem h
  exact ⟨A, B ++ [k], by simp, by simp⟩

/-- From s a piece of a search comes to s', by P behind the left, Q behind the seen; 'cs': where it began. -/
structure Grew (E : Adj) (cs : List Nat) (s s' : List Nat × List Nat) (P Q : List Nat) : Prop where
  post : s'.2 = s.2 ++ P
  seen : s'.1 = s.1 ++ Q
  same : ∀ x, x ∈ P ↔ x ∈ Q
  nd : P.Nodup
  new : ∀ x ∈ P, x ∉ s.1
  closed : ∀ p ∈ P, ∀ c ∈ suc E p, c ∈ s'.1
  got : ∀ c ∈ cs, c ∈ s'.1
  reach : ∀ x ∈ P, ∃ c ∈ cs, RA E (fun _ => False) c x
  from' : ∀ m ∈ P, m ∈ cs ∨ ∃ p, m ∈ suc E p ∧ After P m p

theorem RA.trans {E : Adj} {X : Nat → Prop} {a b c : Nat} (h1 : RA E X a b) (h2 : RA E X b c) : RA E X a c := by
  induction h2 with
  | refl => exact h1
  | step _ h3 h4 ih => exact ih.step h3 h4

theorem Grew.append {E : Adj} {cs ds : List Nat} {s s' s'' : List Nat × List Nat} {P Q P2 Q2 : List Nat} (h1 : Grew E cs s s' P Q) (h2 : Grew E ds s' s'' P2 Q2) : Grew E (cs ++ ds) s s'' (P ++ P2) (Q ++ Q2) := by
  have sub : ∀ x, x ∈ s'.1 → x ∈ s''.1 := fun x hx => by rw [h2.seen]; exact List.mem_append.2 (.inl hx)
  refine ⟨by rw [h2.post, h1.post, List.append_assoc], by rw [h2.seen, h1.seen, List.append_assoc], fun x => by simp only [List.mem_append, h1.same, h2.same], ?_, fun x hx => ?_, fun p hp c hc => ?_, fun c hc => ?_, fun x hx => ?_, fun m hm => ?_⟩
  · rw [List.nodup_append]
    refine ⟨h1.nd, h2.nd, fun a ha b hb e => ?_⟩
    subst e
    exact h2.new a hb (by rw [h1.seen]; exact List.mem_append.2 (.inr ((h1.same a).1 ha)))
  · rcases List.mem_append.1 hx with hx | hx
    · exact h1.new x hx
    · exact fun h => h2.new x hx (by rw [h1.seen]; exact List.mem_append.2 (.inl h))
  · rcases List.mem_append.1 hp with hp | hp
    · exact sub c (h1.closed p hp c hc)
    · exact h2.closed p hp c hc
  · rcases List.mem_append.1 hc with hc | hc
    · exact sub c (h1.got c hc)
    · exact h2.got c hc
  · rcases List.mem_append.1 hx with hx | hx
    · obtain ⟨c, hc, hr⟩ := h1.reach x hx
      exact ⟨c, by simp [hc], hr⟩
    · obtain ⟨c, hc, hr⟩ := h2.reach x hx
      exact ⟨c, by simp [hc], hr⟩
  · rcases List.mem_append.1 hm with hm | hm
    · rcases h1.from' m hm with h | ⟨p, hp, ha⟩
      · exact .inl (by simp [h])
      · exact .inr ⟨p, hp, ha.right _⟩
    · rcases h2.from' m hm with h | ⟨p, hp, ha⟩
      · exact .inl (by simp [h])
      · exact .inr ⟨p, hp, ha.left _⟩

theorem grew_fold {E : Adj} {f m d : Nat} (hok : E.ok) (ih : ∀ (k : Nat) (s : List Nat × List Nat), DfsI E.length m d s → k < E.length → k ∉ s.1 → ∃ P Q, Grew E [k] s (dfs E f k s) P Q) :
    ∀ (cs : List Nat) (t : List Nat × List Nat), (∀ c ∈ cs, c < E.length) → DfsI E.length m d t → ∃ P Q, Grew E cs t (cs.foldl (dfsStep E f) t) P Q
  | [], t, _, _ => ⟨[], [], by simp, by simp, by simp, by simp, by simp, by simp, by simp, by simp, by simp⟩
  | c :: cs, t, hc, ht => by
    have hstep : DfsI E.length m d (dfsStep E f t c) := by
      unfold dfsStep
      split
      · exact ht
      · exact dfs_inv hok f m d c t ht (hc c (by simp)) ‹_›
    obtain ⟨P2, Q2, h2⟩ := grew_fold hok ih cs (dfsStep E f t c) (fun d hd => hc d (by simp [hd])) hstep
    have h1 : ∃ P Q, Grew E [c] t (dfsStep E f t c) P Q := by
      unfold dfsStep
      split
      · exact ⟨[], [], by simp, by simp, by simp, by simp, by simp, by simp, by simpa, by simp, by simp⟩
      · exact ih c t ht (hc c (by simp)) ‹_›
    obtain ⟨P, Q, h1⟩ := h1
    exact ⟨P ++ P2, Q ++ Q2, h1.append h2⟩

theorem dfs_grew {E : Adj} (hok : E.ok) : ∀ (f m d k : Nat) (s : List Nat × List Nat), DfsI E.length m d s → k < E.length → k ∉ s.1 → E.length ≤ f + m → ∃ P Q, Grew E [k] s (dfs E f k s) (P ++ [k]) (k :: Q) ∧ ∀ x, x ∈ P ↔ x ∈ Q
  | 0, m, d, k, s, h, hk, hn, hf => by
    have := (h.nd.snoc hk hn).len
    have := h.le
    simp at *
    omega
  | f + 1, m, d, k, s, h, hk, hn, hf => by
    have hstart : DfsI E.length (m + 1) (d + 1) (s.1 ++ [k], s.2) := ⟨h.nd.snoc hk hn, by have := h.le; simp; omega, by have := h.post; simp; omega⟩
    obtain ⟨P, Q, g⟩ := grew_fold (f := f) (m := m + 1) (d := d + 1) hok (fun c t ht hc hn => by
      obtain ⟨P, Q, h, _⟩ := dfs_grew hok f (m + 1) (d + 1) c t ht hc hn (by omega)
      exact ⟨_, _, h⟩) (suc E k) (s.1 ++ [k], s.2) (hok k) hstart
    refine ⟨P, Q, ?_, g.same⟩
    rw [dfs_succ]
    have hkP : k ∉ P := fun hh => g.new k hh (by simp)
    refine ⟨by simp [g.post], by simp [g.seen], fun x => ?_, ?_, fun x hx => ?_, fun p hp c hc => ?_, fun c hc => ?_, fun x hx => ?_, fun x hx => ?_⟩
    · simp only [List.mem_append, List.mem_cons, List.not_mem_nil, or_false, g.same]
      exact Or.comm
    · rw [List.nodup_append]
      exact ⟨g.nd, by simp, fun a ha b hb e => by simp at hb; subst hb; subst e; exact hkP ha⟩
    · rcases List.mem_append.1 hx with hx | hx
      · exact fun hh => g.new x hx (by simp [hh])
      · simp at hx; subst hx; exact hn
    · rcases List.mem_append.1 hp with hp | hp
      · exact g.closed p hp c hc
      · simp at hp; subst hp; exact g.got c hc
    · simp at hc; subst hc
      show c ∈ _
      rw [g.seen]
      simp
    · rcases List.mem_append.1 hx with hx | hx
      · obtain ⟨c, hc, hr⟩ := g.reach x hx
        exact ⟨k, by simp, ((RA.refl id).step hc id).trans hr⟩
      · simp at hx; subst hx; exact ⟨x, by simp, .refl id⟩
    · rcases List.mem_append.1 hx with hx | hx
      · rcases g.from' x hx with hh | ⟨p, hp, ha⟩
        · exact .inr ⟨k, hh, After.last hx⟩
        · exact .inr ⟨p, hp, ha.right _⟩
      · exact .inl hx

theorem nodup_rev {l : List Nat} (h : l.Nodup) : l.reverse.Nodup := by
  unfold List.Nodup at *
  rw [List.pairwise_reverse]
  exact h.imp fun h e => h e.symm

/-- The reverse of what a search leaves: its root first, the nodes that it reaches, each once and behind one that leads to it. -/
structure Rpo (E : Adj) (r : Nat) (l : List Nat) : Prop where
  head : ∃ t, l = r :: t
  nd : l.Nodup
  lt : ∀ x ∈ l, x < E.length
  mem : ∀ x, x ∈ l ↔ RA E (fun _ => False) r x
  pred : ∀ x ∈ l, x ≠ r → ∃ p A B, l = A ++ x :: B ∧ p ∈ A ∧ x ∈ suc E p

theorem rpo {E : Adj} (hok : E.ok) {r : Nat} (hr : r < E.length) : Rpo E r (dfs E E.length r ([], [])).2.reverse := by
  have h0 : DfsI E.length 0 0 ([], []) := ⟨⟨by simp, by simp⟩, by simp, by simp⟩
  obtain ⟨P, Q, g, hs⟩ := dfs_grew hok E.length 0 0 r ([], []) h0 hr (by simp) (by omega)
  have hp := g.post
  have hq := g.seen
  simp only [List.nil_append] at hp hq
  have hd := dfs_inv hok E.length 0 0 r _ h0 hr (by simp)
  have hmem : ∀ x, x ∈ P ++ [r] ↔ RA E (fun _ => False) r x := by
    intro x
    constructor
    · intro hx
      obtain ⟨c, hc, hh⟩ := g.reach x hx
      simp at hc; subst hc; exact hh
    · intro hx
      induction hx with
      | refl => simp
      | step _ h3 _ ih =>
        have := g.closed _ ih _ h3
        rw [hq] at this
        exact (g.same _).2 this
  rw [hp]
  refine ⟨⟨P.reverse, by simp⟩, nodup_rev g.nd, fun x hx => ?_, fun x => by rw [List.mem_reverse]; exact hmem x, fun x hx hxr => ?_⟩
  · rw [List.mem_reverse] at hx
    exact hd.nd.lt x (by rw [hq]; exact (g.same x).1 hx)
  · rw [List.mem_reverse] at hx
    rcases g.from' x hx with hh | ⟨p, hp, A, B, he, hpB⟩
    · simp at hh; exact absurd hh hxr
    · exact ⟨p, B.reverse, A.reverse, by rw [he]; simp, by simpa using hpB, hp⟩

end Go.Ab

namespace Go.Ab

/-- x lies on the way up from k. -/
inductive Ch (T : Nat → Option Nat) : Nat → Nat → Prop
  | refl (k : Nat) : Ch T k k
  | up {k j x : Nat} : T k = some j → Ch T j x → Ch T k x

theorem Ch.trans {T : Nat → Option Nat} {a b c : Nat} (h1 : Ch T a b) (h2 : Ch T b c) : Ch T a c := by
  induction h1 with
  | refl => exact h2
  | up h _ ih => exact .up h (ih h2)

theorem Ch.cases' {T : Nat → Option Nat} {k x : Nat} (h : Ch T k x) : x = k ∨ ∃ j, T k = some j ∧ Ch T j x := by
  cases h with
  | refl => exact .inl rfl
  | up h1 h2 => exact .inr ⟨_, h1, h2⟩

/-- An order of the nodes that are reached, each behind a node f that leads to it. -/
structure Lay (A : Adj) (r : Nat) (l : List Nat) (f : Nat → Nat) : Prop where
  nd : l.Nodup
  root : r ∈ l
  pl0 : l.idxOf r = 0
  mem : ∀ x, x ∈ l ↔ RA A (fun _ => False) r x
  fm : ∀ k ∈ l, k ≠ r → f k ∈ l ∧ k ∈ suc A (f k) ∧ l.idxOf (f k) < l.idxOf k

section
variable {A : Adj} {r : Nat} {l : List Nat} {f : Nat → Nat} {T U : Nat → Option Nat}

theorem Lay.inj (L : Lay A r l f) {x y : Nat} (hx : x ∈ l) (hy : y ∈ l) (h : l.idxOf x = l.idxOf y) : x = y := by
  have h1 := List.getElem_idxOf (List.idxOf_lt_length_iff.2 hx)
  have h2 := List.getElem_idxOf (List.idxOf_lt_length_iff.2 hy)
  rw [← h1, ← h2]
  congr 1

theorem Lay.pos (L : Lay A r l f) {x : Nat} (hx : x ∈ l) (hr : x ≠ r) : 0 < l.idxOf x := by
  rcases Nat.eq_zero_or_pos (l.idxOf x) with h | h
  · exact absurd (L.inj hx L.root (h.trans L.pl0.symm)) hr
  · exact h

/-- An edge among the nodes reached. -/
def Pr (A : Adj) (l : List Nat) (p k : Nat) : Prop := p ∈ l ∧ k ∈ suc A p

theorem Lay.edge (L : Lay A r l f) {p k : Nat} (hp : p ∈ l) (hk : k ∈ suc A p) : k ∈ l := (L.mem k).2 (((L.mem p).1 hp).step hk id)

/-- The tree goes up. -/
structure WT (r : Nat) (l : List Nat) (T : Nat → Option Nat) : Prop where
  root : T r = none
  up : ∀ k j, T k = some j → k ∈ l ∧ j ∈ l ∧ l.idxOf j < l.idxOf k ∧ (j = r ∨ T j ≠ none)

/-- A node that the tree holds. -/
def Hd (r : Nat) (T : Nat → Option Nat) (k : Nat) : Prop := k = r ∨ T k ≠ none

theorem WT.mem (w : WT r l T) (hr : r ∈ l) {k x : Nat} (hk : k ∈ l) (h : Ch T k x) : x ∈ l ∧ l.idxOf x ≤ l.idxOf k ∧ (l.idxOf x = l.idxOf k → x = k) := by
  induction h with
  | refl => exact ⟨hk, Nat.le_refl _, fun _ => rfl⟩
  | up h1 _ ih =>
    obtain ⟨_, h3, h4, _⟩ := w.up _ _ h1
    obtain ⟨h5, h6, _⟩ := ih h3
    exact ⟨h5, by omega, fun e => by omega⟩

theorem WT.root_ch (w : WT r l T) {x : Nat} (h : Ch T r x) : x = r := by
  rcases h.cases' with h | ⟨j, h, _⟩
  · exact h
  · rw [w.root] at h; cases h

theorem WT.held (w : WT r l T) {k x : Nat} (hk : Hd r T k) (h : Ch T k x) : Hd r T x := by
  induction h with
  | refl => exact hk
  | up h1 _ ih => exact ih (w.up _ _ h1).2.2.2

theorem WT.to_root (w : WT r l T) : ∀ (n : Nat) {k : Nat}, l.idxOf k ≤ n → Hd r T k → Ch T k r := by
  intro n
  induction n with
  | zero =>
    intro k hn hk
    rcases hk with rfl | hk
    · exact .refl _
    · cases hj : T k with
      | none => exact absurd hj hk
      | some j => have := (w.up _ _ hj).2.2.1; omega
  | succ n ih =>
    intro k hn hk
    rcases hk with rfl | hk
    · exact .refl _
    · cases hj : T k with
      | none => exact absurd hj hk
      | some j =>
        obtain ⟨_, _, h3, h4⟩ := w.up _ _ hj
        exact .up hj (ih (by omega) h4)

/-- Of two on one way up, one lies above the other. -/
theorem Ch.total {T : Nat → Option Nat} {k x y : Nat} (h1 : Ch T k x) (h2 : Ch T k y) : Ch T x y ∨ Ch T y x := by
  induction h1 with
  | refl => exact .inl h2
  | up h _ ih =>
    rcases h2.cases' with rfl | ⟨j, h3, h4⟩
    · exact .inr (.up h ‹_›)
    · rw [h] at h3
      cases h3
      exact ih h4

theorem WT.le_ch (w : WT r l T) (hr : r ∈ l) {k x y : Nat} (hk : k ∈ l) (h1 : Ch T k x) (h2 : Ch T k y) (h : l.idxOf x ≤ l.idxOf y) : Ch T y x := by
  rcases h1.total h2 with h3 | h3
  · obtain ⟨hx, _, _⟩ := w.mem hr hk h1
    obtain ⟨_, h4, h5⟩ := w.mem hr hx h3
    rw [h5 (by omega)]
    exact .refl _
  · exact h3

/-- The first node on the way up from p that lies ahead of place j. -/
def Fst (l : List Nat) (T : Nat → Option Nat) (j p q : Nat) : Prop := Ch T p q ∧ l.idxOf q < j ∧ ∀ q2, Ch T p q2 → l.idxOf q2 < j → Ch T q q2

theorem WT.fst (w : WT r l T) (hr0 : l.idxOf r = 0) (hr : r ∈ l) {j : Nat} (hj : 0 < j) : ∀ (n : Nat) {p : Nat}, l.idxOf p ≤ n → p ∈ l → Hd r T p → ∃ q, Fst l T j p q := by
  intro n
  induction n with
  | zero =>
    intro p hn hp hh
    exact ⟨p, .refl _, by omega, fun q2 h _ => h⟩
  | succ n ih =>
    intro p hn hp hh
    by_cases hpj : l.idxOf p < j
    · exact ⟨p, .refl _, hpj, fun q2 h _ => h⟩
    · rcases hh with rfl | hh
      · omega
      · cases hT : T p with
        | none => exact absurd hT hh
        | some p' =>
          obtain ⟨_, h2, h3, h4⟩ := w.up _ _ hT
          obtain ⟨q, h5, h6, h7⟩ := ih (by omega) h2 h4
          refine ⟨q, .up hT h5, h6, fun q2 h8 h9 => ?_⟩
          rcases h8.cases' with rfl | ⟨p2, h10, h11⟩
          · exact absurd h9 hpj
          · rw [hT] at h10
            cases h10
            exact h7 q2 h11 h9

/-- What a pass has done, as far as place j: ahead of it the new tree U, from there on the old one. -/
structure PassTo (A : Adj) (r : Nat) (l : List Nat) (T : Nat → Option Nat) (j : Nat) (U : Nat → Option Nat) : Prop where
  wt : WT r l U
  old : ∀ v, (v ∉ l ∨ j ≤ l.idxOf v) → U v = T v
  new : ∀ k ∈ l, k ≠ r → l.idxOf k < j → ∃ c, U k = some c ∧
    ∀ x, Ch U c x ↔ (∀ p, Pr A l p k → l.idxOf p < l.idxOf k → Ch U p x) ∧ (∀ p, Pr A l p k → l.idxOf k ≤ l.idxOf p → Hd r T p → ∃ q, Fst l T (l.idxOf k) p q ∧ Ch U q x)

theorem ch_congr {n : Nat} (w : WT r l T) (h : ∀ v, v ∈ l → l.idxOf v ≤ n → U v = T v) {k x : Nat} (hk : k ∈ l) (hn : l.idxOf k ≤ n) (hc : Ch T k x) : Ch U k x := by
  induction hc with
  | refl => exact .refl _
  | up h1 _ ih =>
    obtain ⟨_, h3, h4, _⟩ := w.up _ _ h1
    exact .up (by rw [h _ hk hn]; exact h1) (ih h3 (by omega))

/-- Behind place j the new tree goes up as the old one, till it is ahead of j. -/
theorem PassTo.down {j : Nat} (P : PassTo A r l T j U) (wT : WT r l T) (hr : r ∈ l) (hr0 : l.idxOf r = 0) (hj : 0 < j) {p x : Nat} (hp : p ∈ l) (hpj : j ≤ l.idxOf p) (hx : l.idxOf x < j) :
    Ch U p x ↔ ∃ q, Fst l T j p q ∧ Ch U q x := by
  constructor
  · intro h
    induction h with
    | refl => omega
    | @up k j' x h1 h2 ih =>
      have hT : T k = some j' := by rw [← P.old k (.inr hpj)]; exact h1
      obtain ⟨_, h4, h5, h6⟩ := wT.up _ _ hT
      by_cases hjj : l.idxOf j' < j
      · refine ⟨j', ⟨.up hT (.refl _), hjj, fun q2 h7 h8 => ?_⟩, h2⟩
        rcases h7.cases' with rfl | ⟨p2, h9, h10⟩
        · omega
        · rw [hT] at h9; cases h9; exact h10
      · obtain ⟨q, ⟨h7, h8, h9⟩, h10⟩ := ih h4 (by omega) hx
        refine ⟨q, ⟨.up hT h7, h8, fun q2 h11 h12 => ?_⟩, h10⟩
        rcases h11.cases' with rfl | ⟨p2, h13, h14⟩
        · omega
        · rw [hT] at h13; cases h13; exact h9 q2 h14 h12
  · rintro ⟨q, ⟨h1, h2, hmax⟩, h3⟩
    have key : Ch U p q := by
      clear h3
      induction h1 with
      | refl => omega
      | @up k j' q h4 h5 ih =>
        have hU : U k = some j' := by rw [P.old k (.inr hpj)]; exact h4
        obtain ⟨_, h6, h7, h8⟩ := wT.up _ _ h4
        by_cases hjj : l.idxOf j' < j
        · have h9 := hmax j' (.up h4 (.refl _)) hjj
          obtain ⟨h10, h11, h12⟩ := wT.mem hr h6 h5
          obtain ⟨_, h13, _⟩ := wT.mem hr h10 h9
          rw [h12 (by omega)]
          exact .up hU (.refl _)
        · exact .up hU (ih h6 (by omega) h2 fun q2 h9 h10 => hmax q2 (.up h4 h9) h10)
    exact key.trans h3

/-- The next node of a pass. -/
theorem PassTo.step {j : Nat} (L : Lay A r l f) (wT : WT r l T) (P : PassTo A r l T j U) {k c : Nat} (hk : k ∈ l) (hkr : k ≠ r) (hkj : l.idxOf k = j)
    (hc : ∀ x, Ch U c x ↔ ∀ p, Pr A l p k → Hd r U p → Ch U p x) : PassTo A r l T (j + 1) (updF U k (some c)) := by
  have hj : 0 < j := by rw [← hkj]; exact L.pos hk hkr
  obtain ⟨hf1, hf2, hf3⟩ := L.fm k hk hkr
  have held : ∀ p, p ∈ l → l.idxOf p < j → Hd r U p := by
    intro p hp hpj
    by_cases hpr : p = r
    · exact .inl hpr
    · obtain ⟨c, h, _⟩ := P.new p hp hpr hpj
      exact .inr (by rw [h]; simp)
  have hfU := held (f k) hf1 (by omega)
  have hcf : Ch U (f k) c := (hc c).1 (.refl _) _ ⟨hf1, hf2⟩ hfU
  obtain ⟨hcl, hcp, _⟩ := P.wt.mem L.root hf1 hcf
  have hch := P.wt.held hfU hcf
  have hsame : ∀ v, v ≠ k → updF U k (some c) v = U v := fun v hv => updF_ne hv
  have wt' : WT r l (updF U k (some c)) := by
    refine ⟨by rw [hsame r (Ne.symm hkr)]; exact P.wt.root, fun v j' h => ?_⟩
    by_cases hv : v = k
    · subst hv
      rw [updF_same] at h
      cases h
      refine ⟨hk, hcl, by omega, ?_⟩
      rcases hch with h | h
      · exact .inl h
      · by_cases hck : c = v
        · subst hck; omega
        · exact .inr (by rw [hsame c hck]; exact h)
    · rw [hsame v hv] at h
      obtain ⟨h1, h2, h3, h4⟩ := P.wt.up v j' h
      refine ⟨h1, h2, h3, ?_⟩
      rcases h4 with h4 | h4
      · exact .inl h4
      · by_cases hjk : j' = k
        · subst hjk; rw [updF_same]; exact .inr (by simp)
        · exact .inr (by rw [hsame j' hjk]; exact h4)
  have chs : ∀ {v x : Nat}, v ∈ l → l.idxOf v < j → (Ch (updF U k (some c)) v x ↔ Ch U v x) := by
    intro v x hv hvj
    have e : ∀ u, u ∈ l → l.idxOf u ≤ l.idxOf v → updF U k (some c) u = U u := fun u hu huv => hsame u (fun e => by subst e; omega)
    exact ⟨fun h => ch_congr (n := l.idxOf v) wt' (fun u hu huv => (e u hu huv).symm) hv (Nat.le_refl _) h, fun h => ch_congr (n := l.idxOf v) P.wt e hv (Nat.le_refl _) h⟩
  refine ⟨wt', fun v hv => ?_, fun v hv hvr hvj => ?_⟩
  · have hvk : v ≠ k := fun e => by
      subst e
      rcases hv with hv | hv
      · exact hv hk
      · omega
    rw [hsame v hvk]
    exact P.old v (hv.imp id (fun h => by omega))
  · by_cases hvk : v = k
    · subst hvk
      refine ⟨c, updF_same, fun x => ?_⟩
      rw [chs hcl (by omega), hc x]
      constructor
      · intro h
        have hxf := h (f v) ⟨hf1, hf2⟩ hfU
        have hxj : l.idxOf x < j := by have := (P.wt.mem L.root hf1 hxf).2.1; omega
        refine ⟨fun p hp hpv => (chs hp.1 (by omega)).2 (h p hp (held p hp.1 (by omega))), fun p hp hpv hT => ?_⟩
        have hUp : Hd r U p := by
          rcases hT with hT | hT
          · exact .inl hT
          · exact .inr (by rw [P.old p (.inr (by omega))]; exact hT)
        rw [hkj]
        obtain ⟨q, hq, hqx⟩ := (P.down wT L.root L.pl0 hj hp.1 (by omega) hxj).1 (h p hp hUp)
        have hql : q ∈ l := (wT.mem L.root hp.1 hq.1).1
        exact ⟨q, hq, (chs hql hq.2.1).2 hqx⟩
      · rintro ⟨h1, h2⟩ p hp hUp
        have hxj : l.idxOf x < j := by
          have h3 := (chs hf1 (by omega)).1 (h1 (f v) ⟨hf1, hf2⟩ hf3)
          have := (P.wt.mem L.root hf1 h3).2.1
          omega
        by_cases hpj : l.idxOf p < j
        · exact (chs hp.1 hpj).1 (h1 p hp (by omega))
        · have hTp : Hd r T p := by
            rcases hUp with hUp | hUp
            · exact .inl hUp
            · exact .inr (by rw [← P.old p (.inr (by omega))]; exact hUp)
          obtain ⟨q, hq, hqx⟩ := h2 p hp (by omega) hTp
          rw [hkj] at hq
          have hql : q ∈ l := (wT.mem L.root hp.1 hq.1).1
          exact (P.down wT L.root L.pl0 hj hp.1 (by omega) hxj).2 ⟨q, hq, (chs hql hq.2.1).1 hqx⟩
    · have hvj' : l.idxOf v < j := by
        rcases Nat.lt_or_ge (l.idxOf v) j with h | h
        · exact h
        · exact absurd (L.inj hv hk (by omega)) hvk
      obtain ⟨c', h1, h2⟩ := P.new v hv hvr hvj'
      obtain ⟨_, hc'l, hc'p, _⟩ := P.wt.up v c' h1
      refine ⟨c', by rw [hsame v hvk]; exact h1, fun x => ?_⟩
      rw [chs hc'l (by omega), h2 x]
      constructor
      · rintro ⟨h3, h4⟩
        refine ⟨fun p hp hpv => (chs hp.1 (by omega)).2 (h3 p hp hpv), fun p hp hpv hT => ?_⟩
        obtain ⟨q, hq, hqx⟩ := h4 p hp hpv hT
        exact ⟨q, hq, (chs (wT.mem L.root hp.1 hq.1).1 (by have := hq.2.1; omega)).2 hqx⟩
      · rintro ⟨h3, h4⟩
        refine ⟨fun p hp hpv => (chs hp.1 (by omega)).1 (h3 p hp hpv), fun p hp hpv hT => ?_⟩
        obtain ⟨q, hq, hqx⟩ := h4 p hp hpv hT
        exact ⟨q, hq, (chs (wT.mem L.root hp.1 hq.1).1 (by have := hq.2.1; omega)).1 hqx⟩

theorem PassTo.start (L : Lay A r l f) (wT : WT r l T) : PassTo A r l T 1 T := by
  refine ⟨wT, fun _ _ => rfl, fun k hk hkr hkj => ?_⟩
  have := L.pos hk hkr
  omega

end
end Go.Ab

namespace Go.Ab

section
variable {A : Adj} {r : Nat} {l : List Nat} {f : Nat → Nat} {T U V : Nat → Option Nat}

/-- A whole pass. -/
abbrev Pass (A : Adj) (r : Nat) (l : List Nat) (T U : Nat → Option Nat) : Prop := PassTo A r l T l.length U

theorem idxOf_lt' {l : List Nat} {k : Nat} (h : k ∈ l) : l.idxOf k < l.length := List.idxOf_lt_length_iff.2 h

theorem Pass.get (P : Pass A r l T U) {k : Nat} (hk : k ∈ l) (hkr : k ≠ r) : ∃ c, U k = some c ∧
    ∀ x, Ch U c x ↔ (∀ p, Pr A l p k → l.idxOf p < l.idxOf k → Ch U p x) ∧ (∀ p, Pr A l p k → l.idxOf k ≤ l.idxOf p → Hd r T p → ∃ q, Fst l T (l.idxOf k) p q ∧ Ch U q x) := P.new k hk hkr (idxOf_lt' hk)

theorem Pass.held (P : Pass A r l T U) {k : Nat} (hk : k ∈ l) : Hd r U k := by
  by_cases hkr : k = r
  · exact .inl hkr
  · obtain ⟨c, h, _⟩ := P.get hk hkr
    exact .inr (by rw [h]; simp)

/-- a lies on the way of the search to b. -/
inductive SA (r : Nat) (l : List Nat) (f : Nat → Nat) (a : Nat) : Nat → Prop
  | refl : SA r l f a a
  | step {b : Nat} : b ∈ l → b ≠ r → SA r l f a (f b) → SA r l f a b

theorem SA.le (L : Lay A r l f) {a b : Nat} (h : SA r l f a b) : l.idxOf a ≤ l.idxOf b := by
  induction h with
  | refl => exact Nat.le_refl _
  | step h1 h2 _ ih => have := (L.fm _ h1 h2).2.2; omega

theorem SA.path (L : Lay A r l f) {a b d : Nat} (h : SA r l f a b) (ha : a ∈ l) (hd : d ∈ l) (hda : l.idxOf d < l.idxOf a) : RA A (· = d) a b := by
  induction h with
  | refl => exact .refl (fun e => by subst e; omega)
  | step h1 h2 h3 ih =>
    have h4 := h3.le L
    have h5 := (L.fm _ h1 h2).2.2
    exact ih.step (L.fm _ h1 h2).2.1 (fun e => by subst e; omega)

/-- What lies above in a tree lies on the way of the search. -/
theorem Pass.anc (L : Lay A r l f) (P : Pass A r l T U) : ∀ (n : Nat) {b y : Nat}, l.idxOf b ≤ n → b ∈ l → Ch U b y → SA r l f y b := by
  intro n
  induction n with
  | zero =>
    intro b y hn hb h
    have hbr : b = r := L.inj hb L.root (by rw [L.pl0]; omega)
    subst hbr
    rw [P.wt.root_ch h]
    exact .refl
  | succ n ih =>
    intro b y hn hb h
    rcases h.cases' with rfl | ⟨c, h1, h2⟩
    · exact .refl
    · have hbr : b ≠ r := fun e => by subst e; rw [P.wt.root] at h1; cases h1
      obtain ⟨c', h3, h4⟩ := P.get hb hbr
      rw [h1] at h3
      cases h3
      obtain ⟨f1, f2, f3⟩ := L.fm b hb hbr
      exact .step hb hbr (ih (by omega) f1 (((h4 y).1 h2).1 _ ⟨f1, f2⟩ f3))

/-- What lies above b, and above a on the way to b, lies above a. -/
theorem Pass.mid (L : Lay A r l f) (P : Pass A r l T U) {a b y : Nat} (h : SA r l f a b) (hy : l.idxOf y < l.idxOf a) (hc : Ch U b y) : Ch U a y := by
  induction h with
  | refl => exact hc
  | step h1 h2 h3 ih =>
    have h4 := h3.le L
    obtain ⟨f1, f2, f3⟩ := L.fm _ h1 h2
    rcases hc.cases' with rfl | ⟨c, h5, h6⟩
    · omega
    · obtain ⟨c', h7, h8⟩ := P.get h1 h2
      rw [h5] at h7
      cases h7
      exact ih (((h8 y).1 h6).1 _ ⟨f1, f2⟩ f3)

/-- What holds of a tree and the one before it. -/
structure Gd (A : Adj) (r : Nat) (l : List Nat) (f : Nat → Nat) (T U : Nat → Option Nat) : Prop where
  wt : WT r l T
  pass : Pass A r l T U
  anc : ∀ v y, v ∈ l → Hd r T v → Ch T v y → SA r l f y v
  mono : ∀ v y, v ∈ l → Hd r T v → Ch U v y → Ch T v y

theorem wt_none : WT r l (fun _ => none) := ⟨rfl, fun k j h => by cases h⟩

theorem Gd.first (P : Pass A r l (fun _ => none) U) : Gd A r l f (fun _ => none) U := by
  refine ⟨wt_none, P, fun v y hv hh h => ?_, fun v y hv hh h => ?_⟩
  · rcases hh with rfl | hh
    · rcases h.cases' with rfl | ⟨j, h1, _⟩
      · exact .refl
      · cases h1
    · exact absurd rfl hh
  · rcases hh with rfl | hh
    · rw [P.wt.root_ch h]; exact .refl _
    · exact absurd rfl hh

theorem Gd.next (L : Lay A r l f) (G : Gd A r l f T U) (P : Pass A r l U V) : Gd A r l f U V := by
  have wU := G.pass.wt
  refine ⟨wU, P, fun v y hv _ h => G.pass.anc L _ (Nat.le_refl _) hv h, ?_⟩
  have key : ∀ (n : Nat) (k x : Nat), l.idxOf k ≤ n → k ∈ l → Ch V k x → Ch U k x := by
    intro n
    induction n with
    | zero =>
      intro k x hn hk h
      have hkr : k = r := L.inj hk L.root (by rw [L.pl0]; omega)
      subst hkr
      rw [P.wt.root_ch h]
      exact .refl _
    | succ n ih =>
      intro k x hn hk h
      rcases h.cases' with rfl | ⟨c, h1, h2⟩
      · exact .refl _
      · have hkr : k ≠ r := fun e => by subst e; rw [P.wt.root] at h1; cases h1
        obtain ⟨c0, h3, h4⟩ := P.get hk hkr
        rw [h1] at h3
        cases h3
        obtain ⟨h5, h6⟩ := (h4 x).1 h2
        obtain ⟨c', h7, h8⟩ := G.pass.get hk hkr
        refine .up h7 ((h8 x).2 ⟨fun p hp hpk => ih p x (by omega) hp.1 (h5 p hp hpk), fun p hp hpk hT => ?_⟩)
        obtain ⟨q, ⟨q1, q2, q3⟩, q4⟩ := h6 p hp hpk (G.pass.held hp.1)
        have hql := (wU.mem L.root hp.1 q1).1
        have hqx := ih q x (by omega) hql q4
        have hpx := q1.trans hqx
        have hpq := G.mono p q hp.1 hT q1
        obtain ⟨q', hq'⟩ := G.wt.fst L.pl0 L.root (L.pos hk hkr) _ (Nat.le_refl _) hp.1 hT
        refine ⟨q', hq', ?_⟩
        have hq'q := hq'.2.2 q hpq q2
        obtain ⟨hq'l, _, _⟩ := G.wt.mem L.root hp.1 hq'.1
        obtain ⟨_, hle, _⟩ := G.wt.mem L.root hq'l hq'q
        obtain ⟨hxl, hxq, hxe⟩ := wU.mem L.root hql hqx
        by_cases he : l.idxOf x = l.idxOf q'
        · rw [L.inj hxl hq'l he]; exact .refl _
        · exact G.pass.mid L (G.anc p q' hp.1 hT hq'.1) (by omega) hpx
  exact fun v y hv _ h => key _ v y (Nat.le_refl _) hv h

/-- How far the tree is from its end. -/
def far (l : List Nat) (T : Nat → Option Nat) : Nat := (l.map fun k => match T k with | none => l.length + 1 | some c => l.idxOf c).sum

theorem sum_le {l : List Nat} {g h : Nat → Nat} (hh : ∀ k ∈ l, g k ≤ h k) : (l.map g).sum ≤ (l.map h).sum := by
  induction l with
  | nil => simp
  | cons a l ih =>
    have h1 := hh a (by simp)
    have h2 := ih fun k hk => hh k (by simp [hk])
    simp only [List.map_cons, List.sum_cons]
    omega

theorem sum_lt {l : List Nat} {g h : Nat → Nat} (hh : ∀ k ∈ l, g k ≤ h k) {k : Nat} (hk : k ∈ l) (hlt : g k < h k) : (l.map g).sum < (l.map h).sum := by
  induction l with
  | nil => cases hk
  | cons a l ih =>
    have h1 := hh a (by simp)
    have h3 := sum_le (l := l) (g := g) (h := h) fun k hk => hh k (by simp [hk])
    simp only [List.map_cons, List.sum_cons]
    rcases List.mem_cons.1 hk with rfl | hk'
    · omega
    · have := ih (fun k hk => hh k (by simp [hk])) hk'
      omega

theorem Gd.far (L : Lay A r l f) (G : Gd A r l f T U) {k : Nat} (hk : k ∈ l) (hne : U k ≠ T k) : far l U < far l T := by
  have le : ∀ v ∈ l, (match U v with | none => l.length + 1 | some c => l.idxOf c) ≤ (match T v with | none => l.length + 1 | some c => l.idxOf c) ∧ (U v ≠ T v → (match U v with | none => l.length + 1 | some c => l.idxOf c) < (match T v with | none => l.length + 1 | some c => l.idxOf c)) := by
    intro v hv
    by_cases hvr : v = r
    · subst hvr
      rw [G.pass.wt.root, G.wt.root]
      exact ⟨Nat.le_refl _, fun h => absurd rfl h⟩
    · obtain ⟨c, h1, _⟩ := G.pass.get hv hvr
      rw [h1]
      obtain ⟨_, hc2, hc3, _⟩ := G.pass.wt.up v c h1
      have hcl := idxOf_lt' hc2
      cases hT : T v with
      | none => simp only; exact ⟨by omega, fun _ => by omega⟩
      | some c' =>
        simp only
        have h2 := G.mono v c hv (.inr (by rw [hT]; simp)) (.up h1 (.refl _))
        rcases h2.cases' with h2 | ⟨j, h3, h4⟩
        · subst h2; omega
        · rw [hT] at h3
          cases h3
          obtain ⟨_, hj, _, _⟩ := G.wt.up v c' hT
          obtain ⟨_, h5, h6⟩ := G.wt.mem L.root hj h4
          exact ⟨h5, fun hne => by
            rcases Nat.lt_or_ge (l.idxOf c) (l.idxOf c') with h | h
            · exact h
            · exact absurd (by rw [h6 (by omega)]) hne⟩
  exact sum_lt (fun v hv => (le v hv).1) hk ((le k hk).2 hne)

/-- x dominates k. -/
def Dm (A : Adj) (r x k : Nat) : Prop := ¬ RA A (· = x) r k

theorem Dm.refl (k : Nat) : Dm A r k k := by
  intro h
  cases h with
  | refl h => exact h rfl
  | step _ _ h => exact h rfl

theorem Dm.pred {x p k : Nat} (h : Dm A r x k) (hk : k ∈ suc A p) (hx : x ≠ k) : Dm A r x p := fun h2 => h (h2.step hk (fun e => hx e.symm))

/-- Every dominator lies above. -/
def Sd (A : Adj) (r : Nat) (l : List Nat) (T : Nat → Option Nat) : Prop := ∀ k ∈ l, Hd r T k → ∀ x ∈ l, Dm A r x k → Ch T k x

theorem sd_none : Sd A r l (fun _ => none) := by
  intro k hk hh x hx hd
  rcases hh with rfl | hh
  · have : x = k := Classical.byContradiction fun hn => hd (.refl fun e => hn e.symm)
    subst this
    exact .refl _
  · exact absurd rfl hh

theorem Gd.sd (L : Lay A r l f) (G : Gd A r l f T U) (hs : Sd A r l T) : Sd A r l U := by
  have key : ∀ (n : Nat) (k x : Nat), l.idxOf k ≤ n → k ∈ l → x ∈ l → Dm A r x k → Ch U k x := by
    intro n
    induction n with
    | zero =>
      intro k x hn hk hx hd
      have hkr : k = r := L.inj hk L.root (by rw [L.pl0]; omega)
      subst hkr
      have : x = k := Classical.byContradiction fun hn => hd (.refl fun e => hn e.symm)
      subst this
      exact .refl _
    | succ n ih =>
      intro k x hn hk hx hd
      by_cases hkr : k = r
      · subst hkr
        have : x = k := Classical.byContradiction fun hn => hd (.refl fun e => hn e.symm)
        subst this
        exact .refl _
      · by_cases hxk : x = k
        · subst hxk; exact .refl _
        · obtain ⟨c, h1, h2⟩ := G.pass.get hk hkr
          refine .up h1 ((h2 x).2 ⟨fun p hp hpk => ih p x (by omega) hp.1 hx (hd.pred hp.2 hxk), fun p hp hpk hT => ?_⟩)
          obtain ⟨f1, f2, f3⟩ := L.fm k hk hkr
          have hxf := ih (f k) x (by omega) f1 hx (hd.pred f2 hxk)
          have hxlt : l.idxOf x < l.idxOf k := by have := (G.pass.wt.mem L.root f1 hxf).2.1; omega
          have hdp := hd.pred hp.2 hxk
          have hTx := hs p hp.1 hT x hx hdp
          obtain ⟨q, hq⟩ := G.wt.fst L.pl0 L.root (L.pos hk hkr) _ (Nat.le_refl _) hp.1 hT
          refine ⟨q, hq, ?_⟩
          have hqx := hq.2.2 x hTx hxlt
          obtain ⟨hql, _, _⟩ := G.wt.mem L.root hp.1 hq.1
          obtain ⟨_, hle, he⟩ := G.wt.mem L.root hql hqx
          by_cases hxq : x = q
          · subst hxq; exact .refl _
          · have hlt : l.idxOf x < l.idxOf q := by
              rcases Nat.lt_or_ge (l.idxOf x) (l.idxOf q) with h | h
              · exact h
              · exact absurd (L.inj hx hql (by omega)) hxq
            have := hq.2.1
            exact ih q x (by omega) hql hx fun hra => hdp (hra.trans ((G.anc p q hp.1 hT hq.1).path L hql hx hlt))
  exact fun k hk _ x hx hd => key _ k x (Nat.le_refl _) hk hx hd

/-- Where a pass changes nothing, what lies above is the dominators. -/
theorem Gd.fix (L : Lay A r l f) (G : Gd A r l f T T) {k x : Nat} (hk : k ∈ l) (h : Ch T k x) : Dm A r x k := by
  have hedge : ∀ k ∈ l, k ≠ r → ∀ x, x ≠ k → Ch T k x → ∀ p, Pr A l p k → Ch T p x := by
    intro k hk hkr x hx h p hp
    rcases h.cases' with h | ⟨c, h1, h2⟩
    · exact absurd h hx
    · obtain ⟨c', h3, h4⟩ := G.pass.get hk hkr
      rw [h1] at h3
      cases h3
      obtain ⟨h5, h6⟩ := (h4 x).1 h2
      by_cases hpk : l.idxOf p < l.idxOf k
      · exact h5 p hp hpk
      · obtain ⟨q, hq, hqx⟩ := h6 p hp (by omega) (G.pass.held hp.1)
        exact hq.1.trans hqx
  intro hra
  have : ∀ b, RA A (· = x) r b → b ∈ l ∧ ¬ Ch T b x := by
    intro b hb
    induction hb with
    | refl h => exact ⟨L.root, fun hc => h (G.wt.root_ch hc).symm⟩
    | @step b c hb hc hx ih =>
      obtain ⟨hbl, hbx⟩ := ih
      have hcl := L.edge hbl hc
      refine ⟨hcl, fun hcx => ?_⟩
      by_cases hcr : c = r
      · subst hcr
        exact hx (G.wt.root_ch hcx).symm
      · exact hbx (hedge c hcl hcr x (fun e => hx e.symm) hcx b ⟨hbl, hc⟩)
  exact (this k hra).2 h

/-- A tree of the dominators. -/
structure DTree' (A : Adj) (r : Nat) (l : List Nat) (T : Nat → Option Nat) : Prop where
  wt : WT r l T
  held : ∀ k ∈ l, k ≠ r → T k ≠ none
  ch : ∀ k ∈ l, ∀ x ∈ l, Ch T k x ↔ Dm A r x k

theorem Gd.done (L : Lay A r l f) (G : Gd A r l f T T) (hs : Sd A r l T) : DTree' A r l T :=
  ⟨G.wt, fun k hk hkr => (G.pass.held hk).resolve_left hkr, fun k hk x hx => ⟨fun h => G.fix L hk h, fun h => hs k hk (G.pass.held hk) x hx h⟩⟩

end
end Go.Ab

namespace Go.Ab

/-- The node that is left out. -/
def IsN (x : Int) : Nat → Prop := fun y => (y : Int) = x

structure FromI (E : Adj) (x : Int) (a i : Nat) (out : List Nat) : Prop where
  nd : NdL E.length out
  root : a ∈ out
  sound : ∀ b ∈ out, RA E (IsN x) a b
  closed : ∀ j (h : j < out.length), j < i → ∀ c ∈ suc E out[j], (c : Int) ≠ x → c ∈ out

theorem fromAdd_mem {x : Int} {out : List Nat} {c b : Nat} : b ∈ fromAdd x out c ↔ b ∈ out ∨ (b = c ∧ (c : Int) ≠ x) := by
  unfold fromAdd
  split
  · rename_i h
    simp only [List.mem_append, List.mem_singleton]
    exact ⟨fun h2 => h2.imp id (fun h3 => ⟨h3, h.1⟩), fun h2 => h2.imp id (fun h3 => h3.1)⟩
  · rename_i h
    constructor
    · exact .inl
    · rintro (h2 | ⟨rfl, h2⟩)
      · exact h2
      · exact Classical.byContradiction fun h3 => h ⟨h2, h3⟩

theorem fold_mem {x : Int} {b : Nat} : ∀ {cs out : List Nat}, b ∈ cs.foldl (fromAdd x) out ↔ b ∈ out ∨ (b ∈ cs ∧ (b : Int) ≠ x)
  | [], out => by simp
  | c :: cs, out => by
    rw [List.foldl_cons, fold_mem (cs := cs), fromAdd_mem]
    constructor
    · rintro ((h | ⟨rfl, h⟩) | ⟨h, h2⟩)
      · exact .inl h
      · exact .inr ⟨by simp, h⟩
      · exact .inr ⟨by simp [h], h2⟩
    · rintro (h | ⟨h, h2⟩)
      · exact .inl (.inl h)
      · rcases List.mem_cons.1 h with rfl | h
        · exact .inl (.inr ⟨rfl, h2⟩)
        · exact .inr ⟨h, h2⟩

theorem fold_pre {x : Int} : ∀ (cs out : List Nat), ∃ t, cs.foldl (fromAdd x) out = out ++ t
  | [], out => ⟨[], by simp⟩
  | c :: cs, out => by
    obtain ⟨t, ht⟩ := fold_pre (x := x) cs (fromAdd x out c)
    rw [List.foldl_cons, ht]
    unfold fromAdd
    split
    · exact ⟨c :: t, by simp⟩
    · exact ⟨t, rfl⟩

theorem fromGo_mem {E : Adj} (hE : E.ok) {x : Int} {a : Nat} : ∀ (f i : Nat) (out : List Nat), FromI E x a i out → E.length ≤ f + i → ∀ b, b ∈ fromGo E x f i out ↔ RA E (IsN x) a b := by
  have fin : ∀ (i : Nat) (out : List Nat), FromI E x a i out → out.length ≤ i → ∀ b, b ∈ out ↔ RA E (IsN x) a b := by
    intro i out h hl b
    refine ⟨h.sound b, fun hb => ?_⟩
    induction hb with
    | refl => exact h.root
    | step _ h2 h3 ih =>
      obtain ⟨j, hj, he⟩ := List.mem_iff_getElem.1 ih
      exact h.closed j hj (by omega) _ (by rw [he]; exact h2) h3
  intro f
  induction f with
  | zero =>
    intro i out h hf b
    exact fin i out h (by have := h.nd.len; omega) b
  | succ f ih =>
    intro i out h hf b
    simp only [fromGo]
    by_cases hi : i < out.length
    · rw [List.getElem?_eq_getElem hi]
      simp only
      refine ih (i + 1) _ ⟨h.nd.fold (fun c hc => hE _ c hc), fold_mem.2 (.inl h.root), fun b hb => ?_, fun j hj hji c hc hcx => ?_⟩ (by omega) b
      · rcases fold_mem.1 hb with hb | ⟨hb, hbx⟩
        · exact h.sound b hb
        · exact (h.sound _ (List.getElem_mem hi)).step hb hbx
      · obtain ⟨t, ht⟩ := fold_pre (x := x) (suc E out[i]) out
        have hjl : j < out.length := by omega
        have e : ((suc E out[i]).foldl (fromAdd x) out)[j] = out[j] := by
          simp only [ht]
          exact List.getElem_append_left hjl
        rw [e] at hc
        by_cases hje : j = i
        · subst hje; exact fold_mem.2 (.inr ⟨hc, hcx⟩)
        · exact fold_mem.2 (.inl (h.closed j hjl (by omega) c hc hcx))
    · rw [List.getElem?_eq_none (by omega)]
      exact fin i out h (by omega) b

theorem fromL_mem {E : Adj} (hE : E.ok) {a : Nat} (ha : a < E.length) {x : Int} {b : Nat} : b ∈ fromL E a x ↔ RA E (IsN x) a b := by
  unfold fromL
  by_cases hx : (a : Int) = x
  · rw [if_pos (.inl hx)]
    constructor
    · intro h; cases h
    · intro h
      exfalso
      induction h with
      | refl h => exact h hx
      | step _ _ _ ih => exact ih
  · rw [if_neg (by omega)]
    refine fromGo_mem hE _ _ _ ⟨⟨by simp, fun b hb => ?_⟩, by simp, fun b hb => ?_, fun j _ h => absurd h (Nat.not_lt_zero _)⟩ (by omega) b
    · simp at hb; omega
    · simp at hb; subst hb; exact .refl hx

theorem fromL_all {E : Adj} (hE : E.ok) {a : Nat} (ha : a < E.length) {b : Nat} : b ∈ fromL E a (-1) ↔ RA E (fun _ => False) a b := by
  rw [fromL_mem hE ha]
  have : IsN (-1) = fun _ => False := by
    funext y
    refine eq_false fun h => ?_
    unfold IsN at h
    omega
  rw [this]

theorem fromL_dm {E : Adj} (hE : E.ok) {r : Nat} (hr : r < E.length) {a b : Nat} : b ∉ fromL E r a ↔ Dm E r a b := by
  rw [fromL_mem hE hr]
  have : IsN (a : Int) = (· = a) := by
    funext y
    refine propext ⟨fun h => ?_, fun h => ?_⟩
    · unfold IsN at h; show y = a; omega
    · subst h; rfl
  rw [this]
  rfl

theorem mono_RA {E : Adj} {X Y : Nat → Prop} (h : ∀ y, Y y → X y) {a b : Nat} (hr : RA E X a b) : RA E Y a b := by
  induction hr with
  | refl h1 => exact .refl fun h2 => h1 (h _ h2)
  | step _ h2 h3 ih => exact ih.step h2 fun h4 => h3 (h _ h4)

/-- A dominator of a node that is reached is reached. -/
theorem dm_reach {E : Adj} {r a b : Nat} (hb : RA E (fun _ => False) r b) (h : Dm E r a b) : RA E (fun _ => False) r a := by
  have key : ∀ c, RA E (fun _ => False) r c → RA E (· = a) r c ∨ RA E (fun _ => False) r a := by
    intro c hc
    induction hc with
    | refl =>
      by_cases he : r = a
      · subst he; exact .inr (.refl id)
      · exact .inl (.refl he)
    | @step b c h1 h2 _ ih =>
      rcases ih with ih | ih
      · by_cases he : c = a
        · subst he; exact .inr (h1.step h2 id)
        · exact .inl (ih.step h2 he)
      · exact .inr ih
  rcases key b hb with h1 | h1
  · exact absurd h1 h
  · exact h1

theorem sdomP_iff {E : Adj} (hE : E.ok) (hn : 0 < E.length) {a b : Nat} : sdomP E a b = true ↔ RA E (fun _ => False) 0 b ∧ b ≠ a ∧ Dm E 0 a b := by
  unfold sdomP
  have h2 : ∀ b, b ∈ fromL E 0 (-1) ↔ RA E (fun _ => False) 0 b := fun b => fromL_all hE hn (b := b)
  have h3 : b ∉ fromL E 0 a ↔ Dm E 0 a b := fromL_dm hE hn (a := a) (b := b)
  simp only [Bool.and_eq_true, decide_eq_true_eq]
  rw [h2, h2, h3]
  constructor
  · rintro ⟨⟨⟨_, h5⟩, h6⟩, h7⟩; exact ⟨h5, h6, h7⟩
  · rintro ⟨h5, h6, h7⟩; exact ⟨⟨⟨dm_reach h5 h7, h5⟩, h6⟩, h7⟩

end Go.Ab

namespace Go.Ab
open Go.RowKit Go.Proofs


/-- decompiler/dominator.Tree -/
def ac_dominator_Tree : ACode :=
  .seq /-0-/
  (.region [
    ⟨(some 1), .rbox (.t 0), none⟩,
    ⟨(some 2), .mknil 1, none⟩] [0, 2])
  (.seq /-1-/
  (.seq /-2-/
  (.region [
    ⟨(some 3), .fldaddr 1 1 (.t 1), none⟩,
    ⟨(some 4), .load false 1 (.t 3), none⟩,
    ⟨(some 5), .len (.t 4), none⟩,
    ⟨(some 6), .bin .eql (.t 5) (.c (.int .i64 0)), none⟩] [3, 4, 5])
  (.cond (.t 6)
    (.seq /-3-/
    (.region [
      ⟨(some 2), .mknil 1, none⟩] [1, 6])
    (.ret))
    (.skip)))
  (.seq /-4-/
  (.region [
    ⟨(some 7), .load true 2 (.t 1), none⟩,
    ⟨(some 8), .call f_dominator_all [(.t 7)], none⟩,
    ⟨(some 9), .call f_dominator_tree [(.t 8), (.c (.int .i64 0))], none⟩,
    ⟨(some 2), .mov (.t 9), none⟩] [1, 6, 7, 8, 9])
  (.ret)))

def rs_dominator_Tree : List ARet := [.tmp 2]

set_option maxRecDepth 100000 in
theorem cf_dominator_Tree : compF Try.prog f_dominator_Tree (qRo [1]) = some (ac_dominator_Tree.strip, rs_dominator_Tree, 10) := by kernel_rfl

def ac_dominator_Reachable_l0 : ACode :=
  /-live [3, 11, 12, 13]-/ .seq /-4-/
  (.region [
    ⟨(some 14), .bin .lss (.t 13) (.t 12), none⟩] [])
  (.seq /-5-/
  (.cond (.t 14)
    (.skip)
    (.exit 0))
  (.seq /-6-/
  (.block 1
    (.seq /-7-/
    (.region [
      ⟨(some 15), .idx 1 (.t 11) (.t 13), none⟩,
      ⟨(some 16), .load false 1 (.t 15), none⟩,
      ⟨(some 5), .mov (.t 16), none⟩] [14, 15, 16])
    (.region [
      ⟨(some 17), .mov (.t 3), none⟩,
      ⟨(some 18), .mov (.t 5), none⟩,
      ⟨(some 19), .idx 1 (.t 17) (.t 18), none⟩,
      ⟨none, .store 1 (.t 19) (.c (.bool true)), none⟩] [5, 17, 18, 19])))
  (.region [
    ⟨(some 20), .bin .add (.t 13) (.c (.int .i64 1)), none⟩,
    ⟨(some 13), .mov (.t 20), none⟩] [20])))

def ac_dominator_Reachable_k1 : ACode :=
  /-live [3]-/ .seq /-8-/
  (.region [
    ⟨(some 21), .mov (.t 3), none⟩,
    ⟨(some 2), .mov (.t 21), none⟩] [3, 11, 12, 13, 21])
  (.ret)

/-- decompiler/dominator.Reachable -/
def ac_dominator_Reachable : ACode :=
  .seq /-0-/
  (.region [
    ⟨(some 1), .rbox (.t 0), none⟩,
    ⟨(some 2), .mknil 1, none⟩] [0, 2])
  (.seq /-1-/
  (.region [
    ⟨(some 6), .fldaddr 1 1 (.t 1), none⟩,
    ⟨(some 7), .load false 1 (.t 6), none⟩,
    ⟨(some 8), .len (.t 7), none⟩,
    ⟨(some 9), .mksl 1 1 [.bool false] (.t 8) (.t 8), none⟩,
    ⟨(some 3), .mov (.t 9), none⟩] [6, 7, 8, 9])
  (.seq /-2-/
  (.seq /-3-/
  (.region [
    ⟨(some 10), .load true 2 (.t 1), none⟩,
    ⟨(some 11), .call f_dominator_Order [(.t 10)], none⟩,
    ⟨(some 12), .len (.t 11), none⟩,
    ⟨(some 13), .mov (.c (.int .i64 0)), none⟩] [1, 10])
  (.block 0
    (.loop ac_dominator_Reachable_l0)))
  (ac_dominator_Reachable_k1)))

def rs_dominator_Reachable : List ARet := [.tmp 2]

set_option maxRecDepth 100000 in
theorem cf_dominator_Reachable : compF Try.prog f_dominator_Reachable (qRo [1]) = some (ac_dominator_Reachable.strip, rs_dominator_Reachable, 22) := by kernel_rfl

def ac_dominator_Dominates_l0 : ACode :=
  /-live [0, 1, 2, 27, 28]-/ .seq /-6-/
  (.region [
    ⟨(some 29), .bin .lss (.t 28) (.t 27), none⟩] [])
  (.seq /-7-/
  (.cond (.t 29)
    (.skip)
    (.exit 0))
  (.seq /-8-/
  (.block 1
    (.seq /-9-/
    (.seq /-10-/
    (.region [
      ⟨(some 30), .mov (.t 1), none⟩,
      ⟨(some 31), .mov (.t 2), none⟩,
      ⟨(some 32), .bin .eql (.t 30) (.t 31), none⟩] [29, 30, 31])
    (.cond (.t 32)
      (.seq /-11-/
      (.region [
        ⟨(some 6), .mov (.c (.bool true)), none⟩] [0, 1, 2, 27, 28, 32])
      (.ret))
      (.skip)))
    (.seq /-12-/
    (.region [
      ⟨(some 33), .mov (.t 0), none⟩,
      ⟨(some 34), .mov (.t 2), none⟩,
      ⟨(some 35), .idx 1 (.t 33) (.t 34), none⟩,
      ⟨(some 36), .load false 1 (.t 35), none⟩,
      ⟨(some 2), .mov (.t 36), none⟩] [6, 32, 33, 34, 35, 36])
    (.seq /-13-/
    (.region [
      ⟨(some 37), .mov (.t 2), none⟩,
      ⟨(some 38), .bin .lss (.t 37) (.c (.int .i64 0)), none⟩,
      ⟨(some 39), .mov (.t 38), none⟩,
      ⟨(some 40), .mov (.t 2), (some (39, false))⟩,
      ⟨(some 41), .mov (.t 0), (some (39, false))⟩,
      ⟨(some 42), .len (.t 41), (some (39, false))⟩,
      ⟨(some 43), .bin .geq (.t 40) (.t 42), (some (39, false))⟩,
      ⟨(some 44), .pick (.t 39) (.c (.bool true)) (.t 43), none⟩] [37, 38, 39, 40, 41, 42, 43])
    (.cond (.t 44)
      (.seq /-14-/
      (.region [
        ⟨(some 6), .mov (.c (.bool false)), none⟩] [0, 1, 2, 27, 28, 44])
      (.ret))
      (.skip))))))
  (.region [
    ⟨(some 45), .bin .add (.t 28) (.c (.int .i64 1)), none⟩,
    ⟨(some 28), .mov (.t 45), none⟩] [6, 44, 45])))

def ac_dominator_Dominates_k1 : ACode :=
  /-live []-/ .seq /-15-/
  (.region [
    ⟨(some 6), .mov (.c (.bool false)), none⟩] [0, 1, 2, 27, 28])
  (.ret)

/-- decompiler/dominator.Dominates -/
def ac_dominator_Dominates : ACode :=
  .seq /-0-/
  (.region [
    ⟨(some 6), .mov (.c (.bool false)), none⟩] [6])
  (.seq /-1-/
  (.seq /-2-/
  (.region [
    ⟨(some 7), .mov (.t 1), none⟩,
    ⟨(some 8), .bin .lss (.t 7) (.c (.int .i64 0)), none⟩,
    ⟨(some 9), .mov (.t 8), none⟩,
    ⟨(some 10), .mov (.t 1), (some (9, false))⟩,
    ⟨(some 11), .mov (.t 0), (some (9, false))⟩,
    ⟨(some 12), .len (.t 11), (some (9, false))⟩,
    ⟨(some 13), .bin .geq (.t 10) (.t 12), (some (9, false))⟩,
    ⟨(some 14), .pick (.t 9) (.c (.bool true)) (.t 13), none⟩,
    ⟨(some 15), .mov (.t 14), none⟩,
    ⟨(some 16), .mov (.t 2), (some (15, false))⟩,
    ⟨(some 17), .bin .lss (.t 16) (.c (.int .i64 0)), (some (15, false))⟩,
    ⟨(some 18), .pick (.t 15) (.c (.bool true)) (.t 17), none⟩,
    ⟨(some 19), .mov (.t 18), none⟩,
    ⟨(some 20), .mov (.t 2), (some (19, false))⟩,
    ⟨(some 21), .mov (.t 0), (some (19, false))⟩,
    ⟨(some 22), .len (.t 21), (some (19, false))⟩,
    ⟨(some 23), .bin .geq (.t 20) (.t 22), (some (19, false))⟩,
    ⟨(some 24), .pick (.t 19) (.c (.bool true)) (.t 23), none⟩] [7, 8, 9, 10, 11, 12, 13, 14, 15, 16, 17, 18, 19, 20, 21, 22, 23])
  (.cond (.t 24)
    (.seq /-3-/
    (.region [
      ⟨(some 6), .mov (.c (.bool false)), none⟩] [0, 1, 2, 24])
    (.ret))
    (.skip)))
  (.seq /-4-/
  (.seq /-5-/
  (.region [
    ⟨(some 25), .mov (.t 0), none⟩,
    ⟨(some 26), .len (.t 25), none⟩,
    ⟨(some 27), .bin .add (.t 26) (.c (.int .i64 1)), none⟩,
    ⟨(some 28), .mov (.c (.int .i64 0)), none⟩] [6, 24, 25, 26])
  (.block 0
    (.loop ac_dominator_Dominates_l0)))
  (ac_dominator_Dominates_k1)))

def rs_dominator_Dominates : List ARet := [.tmp 6]

set_option maxRecDepth 100000 in
theorem cf_dominator_Dominates : compF Try.prog f_dominator_Dominates (qRo []) = some (ac_dominator_Dominates.strip, rs_dominator_Dominates, 46) := by kernel_rfl


/-- decompiler/dominator.Order -/
def ac_dominator_Order : ACode :=
  .seq /-0-/
  (.region [
    ⟨(some 1), .rbox (.t 0), none⟩,
    ⟨(some 2), .mknil 1, none⟩] [0, 2])
  (.seq /-1-/
  (.region [
    ⟨(some 3), .load true 2 (.t 1), none⟩,
    ⟨(some 4), .call f_dominator_all [(.t 3)], none⟩,
    ⟨(some 5), .call f_dominator_order [(.t 4), (.c (.int .i64 0))], none⟩,
    ⟨(some 2), .mov (.t 5), none⟩] [1, 3, 4, 5])
  (.ret))

def rs_dominator_Order : List ARet := [.tmp 2]

set_option maxRecDepth 100000 in
theorem cf_dominator_Order : compF Try.prog f_dominator_Order (qRo [1]) = some (ac_dominator_Order.strip, rs_dominator_Order, 6) := by kernel_rfl

def ac_dominator_Frontier_l0 : ACode :=
  /-live [3, 4, 5, 6, 7, 10, 23, 24, 35, 36, 37]-/ .seq /-21-/
  (.seq /-22-/
  (.region [
    ⟨(some 47), .mov (.t 10), none⟩,
    ⟨(some 48), .bin .geq (.t 47) (.c (.int .i64 0)), none⟩] [47])
  (.cond (.t 48)
    (.skip)
    (.exit 4)))
  (.seq /-23-/
  (.block 5
    (.seq /-24-/
    (.seq /-25-/
    (.region [
      ⟨(some 53), .mov (.t 10), none⟩,
      ⟨(some 54), .mov (.t 7), none⟩,
      ⟨(some 55), .bin .neq (.t 53) (.t 54), none⟩,
      ⟨(some 56), .mov (.t 55), none⟩,
      ⟨(some 57), .mov (.t 4), (some (56, true))⟩,
      ⟨(some 58), .mov (.t 10), (some (56, true))⟩,
      ⟨(some 59), .mov (.t 7), (some (56, true))⟩,
      ⟨(some 60), .call f_dominator_Dominates [(.t 57), (.t 58), (.t 59)], (some (56, true))⟩,
      ⟨(some 61), .pick (.t 56) (.t 60) (.c (.bool false)), none⟩] [48, 53, 54, 55, 56, 57, 58, 59, 60])
    (.cond (.t 61)
      (.exit 4)
      (.skip)))
    (.seq /-26-/
    (.region [
      ⟨(some 62), .mov (.t 3), none⟩,
      ⟨(some 63), .mov (.t 10), none⟩,
      ⟨(some 64), .idx 1 (.t 62) (.t 63), none⟩,
      ⟨(some 65), .load false 1 (.t 64), none⟩,
      ⟨(some 66), .mov (.t 7), none⟩,
      ⟨(some 67), .call f_slices_Contains_int_int [(.t 65), (.t 66)], none⟩,
      ⟨(some 68), .un .not (.t 67), none⟩] [61, 62, 63, 64, 65, 66, 67])
    (.cond (.t 68)
      (.region [
        ⟨(some 69), .mov (.t 3), none⟩,
        ⟨(some 70), .mov (.t 10), none⟩,
        ⟨(some 71), .mov (.t 3), none⟩,
        ⟨(some 72), .mov (.t 10), none⟩,
        ⟨(some 73), .idx 1 (.t 71) (.t 72), none⟩,
        ⟨(some 74), .load false 1 (.t 73), none⟩,
        ⟨(some 75), .mov (.t 7), none⟩,
        ⟨(some 76), .buildSl 1 1 [.int .i64 0] [(0, (.t 75))], none⟩,
        ⟨(some 77), .append 1 8 (.t 74) (.t 76), none⟩,
        ⟨(some 78), .idx 1 (.t 69) (.t 70), none⟩,
        ⟨none, .store 1 (.t 78) (.t 77), none⟩] [68, 69, 70, 71, 72, 73, 74, 75, 76, 77, 78])
      (.skip)))))
  (.region [
    ⟨(some 49), .mov (.t 4), none⟩,
    ⟨(some 50), .mov (.t 10), none⟩,
    ⟨(some 51), .idx 1 (.t 49) (.t 50), none⟩,
    ⟨(some 52), .load false 1 (.t 51), none⟩,
    ⟨(some 10), .mov (.t 52), none⟩] [49, 50, 51, 52, 68]))

def ac_dominator_Frontier_k1 : ACode :=
  /-live [3, 4, 5, 6, 7, 23, 24, 35, 36, 37]-/ .region [
    ⟨(some 79), .bin .add (.t 37) (.c (.int .i64 1)), none⟩,
    ⟨(some 37), .mov (.t 79), none⟩] [10, 79]

def ac_dominator_Frontier_l2 : ACode :=
  /-live [3, 4, 5, 6, 7, 23, 24, 35, 36, 37]-/ .seq /-14-/
  (.region [
    ⟨(some 38), .bin .lss (.t 37) (.t 36), none⟩] [])
  (.seq /-15-/
  (.cond (.t 38)
    (.skip)
    (.exit 2))
  (.seq /-16-/
  (.block 3
    (.seq /-17-/
    (.region [
      ⟨(some 39), .idx 1 (.t 35) (.t 37), none⟩,
      ⟨(some 40), .load false 1 (.t 39), none⟩,
      ⟨(some 9), .mov (.t 40), none⟩] [38, 39, 40])
    (.seq /-18-/
    (.seq /-19-/
    (.region [
      ⟨(some 41), .mov (.t 5), none⟩,
      ⟨(some 42), .mov (.t 9), none⟩,
      ⟨(some 43), .idx 1 (.t 41) (.t 42), none⟩,
      ⟨(some 44), .load false 1 (.t 43), none⟩,
      ⟨(some 45), .un .not (.t 44), none⟩] [41, 42, 43, 44])
    (.cond (.t 45)
      (.exit 3)
      (.skip)))
    (.seq /-20-/
    (.region [
      ⟨(some 46), .mov (.t 9), none⟩,
      ⟨(some 10), .mov (.t 46), none⟩] [9, 45, 46])
    (.block 4
      (.loop ac_dominator_Frontier_l0))))))
  (ac_dominator_Frontier_k1)))

def ac_dominator_Frontier_k3 : ACode :=
  /-live [3, 4, 5, 6, 23, 24]-/ .region [
    ⟨(some 80), .bin .add (.t 24) (.c (.int .i64 1)), none⟩,
    ⟨(some 24), .mov (.t 80), none⟩] [7, 35, 36, 37, 80]

def ac_dominator_Frontier_l4 : ACode :=
  /-live [3, 4, 5, 6, 23, 24]-/ .seq /-7-/
  (.region [
    ⟨(some 25), .bin .lss (.t 24) (.t 23), none⟩] [])
  (.seq /-8-/
  (.cond (.t 25)
    (.skip)
    (.exit 0))
  (.seq /-9-/
  (.block 1
    (.seq /-10-/
    (.region [
      ⟨(some 26), .mov (.t 24), none⟩,
      ⟨(some 7), .mov (.t 26), none⟩] [25, 26])
    (.seq /-11-/
    (.seq /-12-/
    (.region [
      ⟨(some 27), .mov (.t 5), none⟩,
      ⟨(some 28), .mov (.t 7), none⟩,
      ⟨(some 29), .idx 1 (.t 27) (.t 28), none⟩,
      ⟨(some 30), .load false 1 (.t 29), none⟩,
      ⟨(some 31), .un .not (.t 30), none⟩] [27, 28, 29, 30])
    (.cond (.t 31)
      (.exit 1)
      (.skip)))
    (.seq /-13-/
    (.region [
      ⟨(some 32), .mov (.t 6), none⟩,
      ⟨(some 33), .mov (.t 7), none⟩,
      ⟨(some 34), .idx 1 (.t 32) (.t 33), none⟩,
      ⟨(some 35), .load false 1 (.t 34), none⟩,
      ⟨(some 36), .len (.t 35), none⟩,
      ⟨(some 37), .mov (.c (.int .i64 0)), none⟩] [31, 32, 33, 34])
    (.block 2
      (.loop ac_dominator_Frontier_l2))))))
  (ac_dominator_Frontier_k3)))

def ac_dominator_Frontier_k5 : ACode :=
  /-live [3]-/ .seq /-27-/
  (.region [
    ⟨(some 81), .mov (.t 3), none⟩,
    ⟨(some 2), .mov (.t 81), none⟩] [3, 4, 5, 6, 23, 24, 81])
  (.ret)

/-- decompiler/dominator.Frontier -/
def ac_dominator_Frontier : ACode :=
  .seq /-0-/
  (.region [
    ⟨(some 1), .rbox (.t 0), none⟩,
    ⟨(some 2), .mknil 1, none⟩] [0, 2])
  (.seq /-1-/
  (.region [
    ⟨(some 11), .fldaddr 1 1 (.t 1), none⟩,
    ⟨(some 12), .load false 1 (.t 11), none⟩,
    ⟨(some 13), .len (.t 12), none⟩,
    ⟨(some 14), .mksl 1 24 [.nilsl] (.t 13) (.t 13), none⟩,
    ⟨(some 3), .mov (.t 14), none⟩] [11, 12, 13, 14])
  (.seq /-2-/
  (.region [
    ⟨(some 15), .load true 2 (.t 1), none⟩,
    ⟨(some 16), .call f_dominator_Tree [(.t 15)], none⟩,
    ⟨(some 4), .mov (.t 16), none⟩] [15, 16])
  (.seq /-3-/
  (.region [
    ⟨(some 17), .load true 2 (.t 1), none⟩,
    ⟨(some 18), .call f_dominator_Reachable [(.t 17)], none⟩,
    ⟨(some 5), .mov (.t 18), none⟩] [17, 18])
  (.seq /-4-/
  (.region [
    ⟨(some 19), .load true 2 (.t 1), none⟩,
    ⟨(some 20), .call f_dominator_Predecessors [(.t 19)], none⟩,
    ⟨(some 6), .mov (.t 20), none⟩] [19, 20])
  (.seq /-5-/
  (.seq /-6-/
  (.region [
    ⟨(some 21), .fldaddr 1 1 (.t 1), none⟩,
    ⟨(some 22), .load false 1 (.t 21), none⟩,
    ⟨(some 23), .len (.t 22), none⟩,
    ⟨(some 24), .mov (.c (.int .i64 0)), none⟩] [1, 21, 22])
  (.block 0
    (.loop ac_dominator_Frontier_l4)))
  (ac_dominator_Frontier_k5))))))

def rs_dominator_Frontier : List ARet := [.tmp 2]

set_option maxRecDepth 100000 in
theorem cf_dominator_Frontier : compF Try.prog f_dominator_Frontier (qRo [1]) = some (ac_dominator_Frontier.strip, rs_dominator_Frontier, 82) := by kernel_rfl

def ac_dominator_Predecessors_l0 : ACode :=
  /-live [3, 9, 10]-/ .seq /-4-/
  (.region [
    ⟨(some 11), .bin .lss (.t 10) (.t 9), none⟩] [])
  (.seq /-5-/
  (.cond (.t 11)
    (.skip)
    (.exit 0))
  (.seq /-6-/
  (.block 1
    (.seq /-7-/
    (.region [
      ⟨(some 12), .mov (.t 10), none⟩,
      ⟨(some 4), .mov (.t 12), none⟩] [11, 12])
    (.region [
      ⟨(some 13), .mov (.t 3), none⟩,
      ⟨(some 14), .mov (.t 4), none⟩,
      ⟨(some 15), .mov (.t 3), none⟩,
      ⟨(some 16), .mov (.t 4), none⟩,
      ⟨(some 17), .idx 1 (.t 15) (.t 16), none⟩,
      ⟨(some 18), .load false 1 (.t 17), none⟩,
      ⟨(some 19), .call f_slices_Compact_int_int [(.t 18)], none⟩,
      ⟨(some 20), .idx 1 (.t 13) (.t 14), none⟩,
      ⟨none, .store 1 (.t 20) (.t 19), none⟩] [4, 13, 14, 15, 16, 17, 18, 19, 20])))
  (.region [
    ⟨(some 21), .bin .add (.t 10) (.c (.int .i64 1)), none⟩,
    ⟨(some 10), .mov (.t 21), none⟩] [21])))

def ac_dominator_Predecessors_k1 : ACode :=
  /-live [3]-/ .seq /-8-/
  (.region [
    ⟨(some 22), .mov (.t 3), none⟩,
    ⟨(some 2), .mov (.t 22), none⟩] [3, 9, 10, 22])
  (.ret)

/-- decompiler/dominator.Predecessors -/
def ac_dominator_Predecessors : ACode :=
  .seq /-0-/
  (.region [
    ⟨(some 1), .rbox (.t 0), none⟩,
    ⟨(some 2), .mknil 1, none⟩] [0, 2])
  (.seq /-1-/
  (.region [
    ⟨(some 5), .load true 2 (.t 1), none⟩,
    ⟨(some 6), .call f_dominator_all [(.t 5)], none⟩,
    ⟨(some 7), .call f_dominator_turned [(.t 6)], none⟩,
    ⟨(some 3), .mov (.t 7), none⟩] [1, 5, 6, 7])
  (.seq /-2-/
  (.seq /-3-/
  (.region [
    ⟨(some 8), .mov (.t 3), none⟩,
    ⟨(some 9), .len (.t 8), none⟩,
    ⟨(some 10), .mov (.c (.int .i64 0)), none⟩] [8])
  (.block 0
    (.loop ac_dominator_Predecessors_l0)))
  (ac_dominator_Predecessors_k1)))

def rs_dominator_Predecessors : List ARet := [.tmp 2]

set_option maxRecDepth 100000 in
theorem cf_dominator_Predecessors : compF Try.prog f_dominator_Predecessors (qRo [1]) = some (ac_dominator_Predecessors.strip, rs_dominator_Predecessors, 23) := by kernel_rfl

def ac_dominator_PostTree_l0 : ACode :=
  /-live [3, 4, 5, 16, 17]-/ .seq /-6-/
  (.region [
    ⟨(some 18), .bin .lss (.t 17) (.t 16), none⟩] [])
  (.seq /-7-/
  (.cond (.t 18)
    (.skip)
    (.exit 0))
  (.seq /-8-/
  (.block 1
    (.seq /-9-/
    (.region [
      ⟨(some 19), .mov (.t 17), none⟩,
      ⟨(some 6), .mov (.t 19), none⟩] [18, 19])
    (.seq /-10-/
    (.region [
      ⟨(some 20), .mov (.t 4), none⟩,
      ⟨(some 21), .mov (.t 6), none⟩,
      ⟨(some 22), .idx 1 (.t 20) (.t 21), none⟩,
      ⟨(some 23), .load false 1 (.t 22), none⟩,
      ⟨(some 24), .len (.t 23), none⟩,
      ⟨(some 25), .bin .eql (.t 24) (.c (.int .i64 0)), none⟩] [20, 21, 22, 23, 24])
    (.cond (.t 25)
      (.region [
        ⟨(some 26), .mov (.t 5), none⟩,
        ⟨(some 27), .mov (.t 6), none⟩,
        ⟨(some 28), .buildSl 1 1 [.int .i64 0] [(0, (.t 27))], none⟩,
        ⟨(some 29), .append 1 8 (.t 26) (.t 28), none⟩,
        ⟨(some 5), .mov (.t 29), none⟩] [6, 25, 26, 27, 28, 29])
      (.skip)))))
  (.region [
    ⟨(some 30), .bin .add (.t 17) (.c (.int .i64 1)), none⟩,
    ⟨(some 17), .mov (.t 30), none⟩] [6, 25, 30])))

def ac_dominator_PostTree_l1 : ACode :=
  /-live [3, 7, 41, 42]-/ .seq /-14-/
  (.region [
    ⟨(some 43), .bin .lss (.t 42) (.t 41), none⟩] [])
  (.seq /-15-/
  (.cond (.t 43)
    (.skip)
    (.exit 2))
  (.seq /-16-/
  (.block 3
    (.seq /-17-/
    (.region [
      ⟨(some 44), .mov (.t 42), none⟩,
      ⟨(some 8), .mov (.t 44), none⟩] [43, 44])
    (.seq /-18-/
    (.region [
      ⟨(some 45), .mov (.t 7), none⟩,
      ⟨(some 46), .mov (.t 8), none⟩,
      ⟨(some 47), .idx 1 (.t 45) (.t 46), none⟩,
      ⟨(some 48), .load false 1 (.t 47), none⟩,
      ⟨(some 49), .mov (.t 3), none⟩,
      ⟨(some 50), .bin .eql (.t 48) (.t 49), none⟩] [45, 46, 47, 48, 49])
    (.cond (.t 50)
      (.region [
        ⟨(some 51), .mov (.t 7), none⟩,
        ⟨(some 52), .mov (.t 8), none⟩,
        ⟨(some 53), .idx 1 (.t 51) (.t 52), none⟩,
        ⟨none, .store 1 (.t 53) (.c (.int .i64 (-1))), none⟩] [8, 50, 51, 52, 53])
      (.skip)))))
  (.region [
    ⟨(some 54), .bin .add (.t 42) (.c (.int .i64 1)), none⟩,
    ⟨(some 42), .mov (.t 54), none⟩] [8, 50, 54])))

def ac_dominator_PostTree_k2 : ACode :=
  /-live [7]-/ .seq /-19-/
  (.region [
    ⟨(some 55), .mov (.t 7), none⟩,
    ⟨(some 2), .mov (.t 55), none⟩] [3, 7, 41, 42, 55])
  (.ret)

def ac_dominator_PostTree_k3 : ACode :=
  /-live [3, 4, 5]-/ .seq /-11-/
  (.region [
    ⟨(some 31), .mov (.t 4), none⟩,
    ⟨(some 32), .call f_dominator_turned [(.t 31)], none⟩,
    ⟨(some 33), .mov (.t 5), none⟩,
    ⟨(some 34), .buildSl 1 1 [.nilsl] [(0, (.t 33))], none⟩,
    ⟨(some 35), .append 1 24 (.t 32) (.t 34), none⟩,
    ⟨(some 36), .mov (.t 3), none⟩,
    ⟨(some 37), .call f_dominator_tree [(.t 35), (.t 36)], none⟩,
    ⟨(some 38), .mov (.t 3), none⟩,
    ⟨(some 39), .slice 1 (.t 37) none (some (.t 38)), none⟩,
    ⟨(some 7), .mov (.t 39), none⟩] [4, 5, 16, 17, 31, 32, 33, 34, 35, 36, 37, 38, 39])
  (.seq /-12-/
  (.seq /-13-/
  (.region [
    ⟨(some 40), .mov (.t 7), none⟩,
    ⟨(some 41), .len (.t 40), none⟩,
    ⟨(some 42), .mov (.c (.int .i64 0)), none⟩] [40])
  (.block 2
    (.loop ac_dominator_PostTree_l1)))
  (ac_dominator_PostTree_k2))

/-- decompiler/dominator.PostTree -/
def ac_dominator_PostTree : ACode :=
  .seq /-0-/
  (.region [
    ⟨(some 1), .rbox (.t 0), none⟩,
    ⟨(some 2), .mknil 1, none⟩] [0, 2])
  (.seq /-1-/
  (.region [
    ⟨(some 9), .fldaddr 1 1 (.t 1), none⟩,
    ⟨(some 10), .load false 1 (.t 9), none⟩,
    ⟨(some 11), .len (.t 10), none⟩,
    ⟨(some 3), .mov (.t 11), none⟩] [9, 10, 11])
  (.seq /-2-/
  (.region [
    ⟨(some 12), .load true 2 (.t 1), none⟩,
    ⟨(some 13), .call f_dominator_all [(.t 12)], none⟩,
    ⟨(some 4), .mov (.t 13), none⟩] [1, 12, 13])
  (.seq /-3-/
  (.region [
    ⟨(some 14), .mov (.t 3), none⟩,
    ⟨(some 15), .mksl 1 8 [.int .i64 0] (.c (.int .i64 0)) (.t 14), none⟩,
    ⟨(some 5), .mov (.t 15), none⟩] [14, 15])
  (.seq /-4-/
  (.seq /-5-/
  (.region [
    ⟨(some 16), .mov (.t 3), none⟩,
    ⟨(some 17), .mov (.c (.int .i64 0)), none⟩] [])
  (.block 0
    (.loop ac_dominator_PostTree_l0)))
  (ac_dominator_PostTree_k3)))))

def rs_dominator_PostTree : List ARet := [.tmp 2]

set_option maxRecDepth 100000 in
theorem cf_dominator_PostTree : compF Try.prog f_dominator_PostTree (qRo [1]) = some (ac_dominator_PostTree.strip, rs_dominator_PostTree, 56) := by kernel_rfl

def ac_dominator_tree_l0 : ACode :=
  /-live [0, 1, 5, 6, 25, 26]-/ .seq /-5-/
  (.region [
    ⟨(some 27), .bin .lss (.t 26) (.t 25), none⟩] [])
  (.seq /-6-/
  (.cond (.t 27)
    (.skip)
    (.exit 0))
  (.seq /-7-/
  (.block 1
    (.seq /-8-/
    (.region [
      ⟨(some 28), .mov (.t 26), none⟩,
      ⟨(some 7), .mov (.t 28), none⟩] [27, 28])
    (.draw (
      .step ⟨(some 29), .load false 1 (.t 5), none⟩ (
      .step ⟨(some 30), .mov (.t 7), none⟩ (
      .step ⟨(some 32), .mov (.t 7), none⟩ (
      .step ⟨(some 33), .idx 1 (.t 29) (.t 30), none⟩ (
      .alt ⟨(some 31), .load false 1 (.t 6), none⟩ (
      .alt ⟨none, .store 1 (.t 33) (.c (.int .i64 (-1))), none⟩ (
       .step ⟨(some 34), .idx 1 (.t 31) (.t 32), none⟩ (
        .alt ⟨none, .store 1 (.t 34) (.c (.int .i64 (-1))), none⟩ (
        .done) (
        .stop))) (
       .stop)) (
      .alt ⟨none, .store 1 (.t 33) (.c (.int .i64 (-1))), none⟩ (
       .step ⟨(some 31), .load false 1 (.t 6), none⟩ (
        .step ⟨(some 34), .idx 1 (.t 31) (.t 32), none⟩ (
        .alt ⟨none, .store 1 (.t 34) (.c (.int .i64 (-1))), none⟩ (
        .done) (
        .stop)))) (
       .stop))))))) [7, 29, 30, 31, 32, 33, 34])))
  (.region [
    ⟨(some 35), .bin .add (.t 26) (.c (.int .i64 1)), none⟩,
    ⟨(some 26), .mov (.t 35), none⟩] [35])))

def ac_dominator_tree_l1 : ACode :=
  /-live [0, 1, 5, 6, 8, 40, 41]-/ .seq /-12-/
  (.region [
    ⟨(some 42), .bin .lss (.t 41) (.t 40), none⟩] [])
  (.seq /-13-/
  (.cond (.t 42)
    (.skip)
    (.exit 2))
  (.seq /-14-/
  (.block 3
    (.seq /-15-/
    (.region [
      ⟨(some 43), .mov (.t 41), none⟩,
      ⟨(some 9), .mov (.t 43), none⟩] [42, 43])
    (.draw (
      .step ⟨(some 44), .load false 1 (.t 6), none⟩ (
      .step ⟨(some 45), .mov (.t 8), none⟩ (
      .step ⟨(some 46), .mov (.t 9), none⟩ (
      .step ⟨(some 47), .idx 1 (.t 45) (.t 46), none⟩ (
      .step ⟨(some 48), .load false 1 (.t 47), none⟩ (
      .step ⟨(some 49), .mov (.t 9), none⟩ (
      .step ⟨(some 50), .idx 1 (.t 44) (.t 48), none⟩ (
      .alt ⟨none, .store 1 (.t 50) (.t 49), none⟩ (
      .done) (
      .stop))))))))) [9, 44, 45, 46, 47, 48, 49, 50])))
  (.region [
    ⟨(some 51), .bin .add (.t 41) (.c (.int .i64 1)), none⟩,
    ⟨(some 41), .mov (.t 51), none⟩] [51])))

def ac_dominator_tree_l2 : ACode :=
  /-live [1, 5, 6, 8, 10, 11, 12, 14, 15, 56, 57, 58, 68, 69, 70]-/ .seq /-33-/
  (.region [
    ⟨(some 71), .bin .lss (.t 70) (.t 69), none⟩] [])
  (.seq /-34-/
  (.cond (.t 71)
    (.skip)
    (.exit 8))
  (.seq /-35-/
  (.block 9
    (.seq /-36-/
    (.region [
      ⟨(some 72), .idx 1 (.t 68) (.t 70), none⟩,
      ⟨(some 73), .load false 1 (.t 72), none⟩,
      ⟨(some 17), .mov (.t 73), none⟩] [71, 72, 73])
    (.block 10
      (.seq /-37-/
      (.region [
        ⟨(some 79), .load false 1 (.t 6), none⟩,
        ⟨(some 80), .mov (.t 17), none⟩,
        ⟨(some 81), .idx 1 (.t 79) (.t 80), none⟩,
        ⟨(some 82), .load false 1 (.t 81), none⟩,
        ⟨(some 83), .bin .lss (.t 82) (.c (.int .i64 0)), none⟩,
        ⟨(some 84), .mov (.t 83), none⟩,
        ⟨(some 85), .mov (.t 17), (some (84, false))⟩,
        ⟨(some 86), .mov (.t 1), (some (84, false))⟩,
        ⟨(some 87), .bin .neq (.t 85) (.t 86), (some (84, false))⟩,
        ⟨(some 88), .mov (.t 87), (some (84, false))⟩,
        ⟨(some 89), .load false 1 (.t 5), (some (88, true))⟩,
        ⟨(some 90), .mov (.t 17), (some (88, true))⟩,
        ⟨(some 91), .idx 1 (.t 89) (.t 90), (some (88, true))⟩,
        ⟨(some 92), .load false 1 (.t 91), (some (88, true))⟩,
        ⟨(some 93), .bin .lss (.t 92) (.c (.int .i64 0)), (some (88, true))⟩,
        ⟨(some 94), .pick (.t 88) (.t 93) (.c (.bool false)), (some (84, false))⟩,
        ⟨(some 95), .pick (.t 84) (.c (.bool true)) (.t 94), none⟩,
        ⟨(some 78), .mov (.t 95), none⟩] [79, 80, 81, 82, 83, 84, 85, 86, 87, 88, 89, 90, 91, 92, 93, 94, 95])
      (.cond (.t 78)
        (.skip)
        (.seq /-38-/
        (.region [
          ⟨(some 97), .mov (.t 15), none⟩,
          ⟨(some 98), .bin .lss (.t 97) (.c (.int .i64 0)), none⟩,
          ⟨(some 96), .mov (.t 98), none⟩] [78, 97, 98])
        (.cond (.t 96)
          (.region [
            ⟨(some 99), .mov (.t 17), none⟩,
            ⟨(some 15), .mov (.t 99), none⟩] [17, 96, 99])
          (.region [
            ⟨(some 74), .mov (.t 11), none⟩,
            ⟨(some 75), .mov (.t 15), none⟩,
            ⟨(some 76), .mov (.t 17), none⟩,
            ⟨(some 77), .callv (.t 74) [(.t 75), (.t 76)], none⟩,
            ⟨(some 15), .mov (.t 77), none⟩] [17, 74, 75, 76, 77, 96]))))))))
  (.region [
    ⟨(some 100), .bin .add (.t 70) (.c (.int .i64 1)), none⟩,
    ⟨(some 70), .mov (.t 100), none⟩] [17, 78, 100])))

def ac_dominator_tree_k3 : ACode :=
  /-live [1, 5, 6, 8, 10, 11, 12, 14, 15, 56, 57, 58]-/ .seq /-39-/
  (.region [
    ⟨(some 101), .mov (.t 15), none⟩,
    ⟨(some 102), .load false 1 (.t 5), none⟩,
    ⟨(some 103), .mov (.t 14), none⟩,
    ⟨(some 104), .idx 1 (.t 102) (.t 103), none⟩,
    ⟨(some 105), .load false 1 (.t 104), none⟩,
    ⟨(some 106), .bin .neq (.t 101) (.t 105), none⟩] [68, 69, 70, 101, 102, 103, 104, 105])
  (.cond (.t 106)
    (.seq /-40-/
    (.region [
      ⟨(some 107), .load false 1 (.t 5), none⟩,
      ⟨(some 108), .mov (.t 14), none⟩,
      ⟨(some 109), .mov (.t 15), none⟩,
      ⟨(some 110), .idx 1 (.t 107) (.t 108), none⟩,
      ⟨none, .store 1 (.t 110) (.t 109), none⟩] [12, 14, 15, 106, 107, 108, 109, 110])
    (.region [
      ⟨(some 12), .mov (.c (.bool true)), none⟩] []))
    (.skip))

def ac_dominator_tree_k4 : ACode :=
  /-live [1, 5, 6, 8, 10, 11, 12, 56, 57, 58]-/ .region [
    ⟨(some 111), .bin .add (.t 58) (.c (.int .i64 1)), none⟩,
    ⟨(some 58), .mov (.t 111), none⟩] [14, 15, 106, 111]

def ac_dominator_tree_l5 : ACode :=
  /-live [1, 5, 6, 8, 10, 11, 12, 56, 57, 58]-/ .seq /-24-/
  (.region [
    ⟨(some 59), .bin .lss (.t 58) (.t 57), none⟩] [])
  (.seq /-25-/
  (.cond (.t 59)
    (.skip)
    (.exit 6))
  (.seq /-26-/
  (.block 7
    (.seq /-27-/
    (.region [
      ⟨(some 60), .idx 1 (.t 56) (.t 58), none⟩,
      ⟨(some 61), .load false 1 (.t 60), none⟩,
      ⟨(some 14), .mov (.t 61), none⟩] [59, 60, 61])
    (.seq /-28-/
    (.seq /-29-/
    (.region [
      ⟨(some 62), .mov (.t 14), none⟩,
      ⟨(some 63), .mov (.t 1), none⟩,
      ⟨(some 64), .bin .eql (.t 62) (.t 63), none⟩] [62, 63])
    (.cond (.t 64)
      (.exit 7)
      (.skip)))
    (.seq /-30-/
    (.region [
      ⟨(some 15), .mov (.c (.int .i64 (-1))), none⟩] [64])
    (.seq /-31-/
    (.seq /-32-/
    (.region [
      ⟨(some 65), .mov (.t 10), none⟩,
      ⟨(some 66), .mov (.t 14), none⟩,
      ⟨(some 67), .idx 1 (.t 65) (.t 66), none⟩,
      ⟨(some 68), .load false 1 (.t 67), none⟩,
      ⟨(some 69), .len (.t 68), none⟩,
      ⟨(some 70), .mov (.c (.int .i64 0)), none⟩] [65, 66, 67])
    (.block 8
      (.loop ac_dominator_tree_l2)))
    (ac_dominator_tree_k3))))))
  (ac_dominator_tree_k4)))

def ac_dominator_tree_l6 : ACode :=
  /-live [1, 5, 6, 8, 10, 11, 12]-/ .seq /-20-/
  (.seq /-21-/
  (.region [
    ⟨(some 55), .mov (.t 12), none⟩] [12])
  (.cond (.t 55)
    (.skip)
    (.exit 4)))
  (.block 5
    (.seq /-22-/
    (.region [
      ⟨(some 12), .mov (.c (.bool false)), none⟩] [55])
    (.seq /-23-/
    (.region [
      ⟨(some 56), .mov (.t 8), none⟩,
      ⟨(some 57), .len (.t 56), none⟩,
      ⟨(some 58), .mov (.c (.int .i64 0)), none⟩] [])
    (.block 6
      (.loop ac_dominator_tree_l5)))))

def ac_dominator_tree_k7 : ACode :=
  /-live [5]-/ .seq /-41-/
  (.region [
    ⟨(some 112), .load false 1 (.t 5), none⟩,
    ⟨(some 4), .mov (.t 112), none⟩] [1, 5, 6, 8, 10, 11, 12, 56, 57, 58, 112])
  (.ret)

def ac_dominator_tree_k8 : ACode :=
  /-live [0, 1, 5, 6, 8]-/ .seq /-16-/
  (.region [
    ⟨(some 52), .mov (.t 0), none⟩,
    ⟨(some 53), .call f_dominator_turned [(.t 52)], none⟩,
    ⟨(some 10), .mov (.t 53), none⟩] [0, 40, 41, 52, 53])
  (.seq /-17-/
  (.region [
    ⟨(some 54), .mkfn (.func f_dominator_tree_1) [(.t 6), (.t 5)], none⟩,
    ⟨(some 11), .mov (.t 54), none⟩] [54])
  (.seq /-18-/
  (.seq /-19-/
  (.region [
    ⟨(some 12), .mov (.c (.bool true)), none⟩] [])
  (.block 4
    (.loop ac_dominator_tree_l6)))
  (ac_dominator_tree_k7)))

def ac_dominator_tree_k9 : ACode :=
  /-live [0, 1, 5, 6]-/ .seq /-9-/
  (.region [
    ⟨(some 36), .mov (.t 0), none⟩,
    ⟨(some 37), .mov (.t 1), none⟩,
    ⟨(some 38), .call f_dominator_order [(.t 36), (.t 37)], none⟩,
    ⟨(some 8), .mov (.t 38), none⟩] [25, 26, 36, 37, 38])
  (.seq /-10-/
  (.seq /-11-/
  (.region [
    ⟨(some 39), .mov (.t 8), none⟩,
    ⟨(some 40), .len (.t 39), none⟩,
    ⟨(some 41), .mov (.c (.int .i64 0)), none⟩] [39])
  (.block 2
    (.loop ac_dominator_tree_l1)))
  (ac_dominator_tree_k8))

/-- decompiler/dominator.tree -/
def ac_dominator_tree : ACode :=
  .seq /-0-/
  (.region [
    ⟨(some 4), .mknil 1, none⟩] [4])
  (.seq /-1-/
  (.region [
    ⟨(some 18), .mov (.t 0), none⟩,
    ⟨(some 19), .len (.t 18), none⟩,
    ⟨(some 20), .mksl 1 8 [.int .i64 0] (.t 19) (.t 19), none⟩,
    ⟨(some 5), .alloc [.nilsl], none⟩,
    ⟨none, .store 1 (.t 5) (.t 20), none⟩] [18, 19, 20])
  (.seq /-2-/
  (.region [
    ⟨(some 21), .mov (.t 0), none⟩,
    ⟨(some 22), .len (.t 21), none⟩,
    ⟨(some 23), .mksl 1 8 [.int .i64 0] (.t 22) (.t 22), none⟩,
    ⟨(some 6), .alloc [.nilsl], none⟩,
    ⟨none, .store 1 (.t 6) (.t 23), none⟩] [21, 22, 23])
  (.seq /-3-/
  (.seq /-4-/
  (.region [
    ⟨(some 24), .load false 1 (.t 5), none⟩,
    ⟨(some 25), .len (.t 24), none⟩,
    ⟨(some 26), .mov (.c (.int .i64 0)), none⟩] [24])
  (.block 0
    (.loop ac_dominator_tree_l0)))
  (ac_dominator_tree_k9))))

def rs_dominator_tree : List ARet := [.tmp 4]

set_option maxRecDepth 100000 in
theorem cf_dominator_tree : compF Try.prog f_dominator_tree (qRo []) = some (ac_dominator_tree.strip, rs_dominator_tree, 113) := by kernel_rfl

def ac_dominator_all_l0 : ACode :=
  /-live [1, 3, 11, 12]-/ .seq /-4-/
  (.region [
    ⟨(some 13), .bin .lss (.t 12) (.t 11), none⟩] [])
  (.seq /-5-/
  (.cond (.t 13)
    (.skip)
    (.exit 0))
  (.seq /-6-/
  (.block 1
    (.seq /-7-/
    (.region [
      ⟨(some 14), .mov (.t 12), none⟩,
      ⟨(some 4), .mov (.t 14), none⟩] [13, 14])
    (.region [
      ⟨(some 15), .mov (.t 3), none⟩,
      ⟨(some 16), .mov (.t 4), none⟩,
      ⟨(some 17), .load true 2 (.t 1), none⟩,
      ⟨(some 18), .mov (.t 4), none⟩,
      ⟨(some 19), .call f_dominator_edges [(.t 17), (.t 18)], none⟩,
      ⟨(some 20), .idx 1 (.t 15) (.t 16), none⟩,
      ⟨none, .store 1 (.t 20) (.t 19), none⟩] [4, 15, 16, 17, 18, 19, 20])))
  (.region [
    ⟨(some 21), .bin .add (.t 12) (.c (.int .i64 1)), none⟩,
    ⟨(some 12), .mov (.t 21), none⟩] [21])))

def ac_dominator_all_k1 : ACode :=
  /-live [3]-/ .seq /-8-/
  (.region [
    ⟨(some 22), .mov (.t 3), none⟩,
    ⟨(some 2), .mov (.t 22), none⟩] [1, 3, 11, 12, 22])
  (.ret)

/-- decompiler/dominator.all -/
def ac_dominator_all : ACode :=
  .seq /-0-/
  (.region [
    ⟨(some 1), .rbox (.t 0), none⟩,
    ⟨(some 2), .mknil 1, none⟩] [0, 2])
  (.seq /-1-/
  (.region [
    ⟨(some 5), .fldaddr 1 1 (.t 1), none⟩,
    ⟨(some 6), .load false 1 (.t 5), none⟩,
    ⟨(some 7), .len (.t 6), none⟩,
    ⟨(some 8), .mksl 1 24 [.nilsl] (.t 7) (.t 7), none⟩,
    ⟨(some 3), .mov (.t 8), none⟩] [5, 6, 7, 8])
  (.seq /-2-/
  (.seq /-3-/
  (.region [
    ⟨(some 9), .fldaddr 1 1 (.t 1), none⟩,
    ⟨(some 10), .load false 1 (.t 9), none⟩,
    ⟨(some 11), .len (.t 10), none⟩,
    ⟨(some 12), .mov (.c (.int .i64 0)), none⟩] [9, 10])
  (.block 0
    (.loop ac_dominator_all_l0)))
  (ac_dominator_all_k1)))

def rs_dominator_all : List ARet := [.tmp 2]

set_option maxRecDepth 100000 in
theorem cf_dominator_all : compF Try.prog f_dominator_all (qRo [1]) = some (ac_dominator_all.strip, rs_dominator_all, 23) := by kernel_rfl


/-- decompiler/dominator.order -/
def ac_dominator_order : ACode :=
  .seq /-0-/
  (.region [
    ⟨(some 2), .rbox (.t 0), none⟩,
    ⟨(some 4), .mknil 1, none⟩] [0, 4])
  (.seq /-1-/
  (.seq /-2-/
  (.region [
    ⟨(some 8), .mov (.t 1), none⟩,
    ⟨(some 9), .load false 1 (.t 2), none⟩,
    ⟨(some 10), .len (.t 9), none⟩,
    ⟨(some 11), .bin .geq (.t 8) (.t 10), none⟩] [8, 9, 10])
  (.cond (.t 11)
    (.seq /-3-/
    (.region [
      ⟨(some 4), .mknil 1, none⟩] [1, 2, 11])
    (.ret))
    (.skip)))
  (.seq /-4-/
  (.region [
    ⟨(some 12), .load false 1 (.t 2), none⟩,
    ⟨(some 13), .len (.t 12), none⟩,
    ⟨(some 14), .mksl 1 1 [.bool false] (.t 13) (.t 13), none⟩,
    ⟨(some 5), .alloc [.nilsl], none⟩,
    ⟨none, .store 1 (.t 5) (.t 14), none⟩] [4, 11, 12, 13, 14])
  (.seq /-5-/
  (.region [
    ⟨(some 6), .alloc [.nilsl], none⟩] [])
  (.seq /-6-/
  (.region [
    ⟨(some 7), .alloc [.nilfn], none⟩] [])
  (.seq /-7-/
  (.region [
    ⟨(some 15), .mkfn (.func f_dominator_order_1) [(.t 5), (.t 2), (.t 7), (.t 6)], none⟩,
    ⟨none, .store 1 (.t 7) (.t 15), none⟩] [2, 5, 15])
  (.seq /-8-/
  (.region [
    ⟨(some 16), .load false 1 (.t 7), none⟩,
    ⟨(some 17), .mov (.t 1), none⟩,
    ⟨(some 18), .callv (.t 16) [(.t 17)], none⟩] [1, 7, 16, 17, 18])
  (.seq /-9-/
  (.region [
    ⟨(some 19), .load false 1 (.t 6), none⟩,
    ⟨(some 20), .call f_slices_Reverse_int_int [(.t 19)], none⟩] [19, 20])
  (.seq /-10-/
  (.region [
    ⟨(some 21), .load false 1 (.t 6), none⟩,
    ⟨(some 4), .mov (.t 21), none⟩] [6, 21])
  (.ret)))))))))

def rs_dominator_order : List ARet := [.tmp 4]

set_option maxRecDepth 100000 in
theorem cf_dominator_order : compF Try.prog f_dominator_order (qRo [2]) = some (ac_dominator_order.strip, rs_dominator_order, 22) := by kernel_rfl


/-- slices.Contains[[]int,int] -/
def ac_slices_Contains_int_int : ACode :=
  .seq /-0-/
  (.region [
    ⟨(some 4), .mov (.c (.bool false)), none⟩] [4])
  (.seq /-1-/
  (.region [
    ⟨(some 5), .mov (.t 0), none⟩,
    ⟨(some 6), .mov (.t 1), none⟩,
    ⟨(some 7), .call f_slices_Index_int_int [(.t 5), (.t 6)], none⟩,
    ⟨(some 8), .bin .geq (.t 7) (.c (.int .i64 0)), none⟩,
    ⟨(some 4), .mov (.t 8), none⟩] [0, 1, 5, 6, 7, 8])
  (.ret))

def rs_slices_Contains_int_int : List ARet := [.tmp 4]

set_option maxRecDepth 100000 in
theorem cf_slices_Contains_int_int : compF Try.prog f_slices_Contains_int_int (qRo []) = some (ac_slices_Contains_int_int.strip, rs_slices_Contains_int_int, 9) := by kernel_rfl

def ac_dominator_turned_l0 : ACode :=
  /-live [0, 3, 4, 11, 12, 18, 19, 20]-/ .seq /-9-/
  (.region [
    ⟨(some 21), .bin .lss (.t 20) (.t 19), none⟩] [])
  (.seq /-10-/
  (.cond (.t 21)
    (.skip)
    (.exit 2))
  (.seq /-11-/
  (.block 3
    (.seq /-12-/
    (.region [
      ⟨(some 22), .idx 1 (.t 18) (.t 20), none⟩,
      ⟨(some 23), .load false 1 (.t 22), none⟩,
      ⟨(some 6), .mov (.t 23), none⟩] [21, 22, 23])
    (.region [
      ⟨(some 24), .mov (.t 3), none⟩,
      ⟨(some 25), .mov (.t 6), none⟩,
      ⟨(some 26), .mov (.t 3), none⟩,
      ⟨(some 27), .mov (.t 6), none⟩,
      ⟨(some 28), .idx 1 (.t 26) (.t 27), none⟩,
      ⟨(some 29), .load false 1 (.t 28), none⟩,
      ⟨(some 30), .mov (.t 4), none⟩,
      ⟨(some 31), .buildSl 1 1 [.int .i64 0] [(0, (.t 30))], none⟩,
      ⟨(some 32), .append 1 8 (.t 29) (.t 31), none⟩,
      ⟨(some 33), .idx 1 (.t 24) (.t 25), none⟩,
      ⟨none, .store 1 (.t 33) (.t 32), none⟩] [6, 24, 25, 26, 27, 28, 29, 30, 31, 32, 33])))
  (.region [
    ⟨(some 34), .bin .add (.t 20) (.c (.int .i64 1)), none⟩,
    ⟨(some 20), .mov (.t 34), none⟩] [34])))

def ac_dominator_turned_k1 : ACode :=
  /-live [0, 3, 11, 12]-/ .region [
    ⟨(some 35), .bin .add (.t 12) (.c (.int .i64 1)), none⟩,
    ⟨(some 12), .mov (.t 35), none⟩] [4, 18, 19, 20, 35]

def ac_dominator_turned_l2 : ACode :=
  /-live [0, 3, 11, 12]-/ .seq /-4-/
  (.region [
    ⟨(some 13), .bin .lss (.t 12) (.t 11), none⟩] [])
  (.seq /-5-/
  (.cond (.t 13)
    (.skip)
    (.exit 0))
  (.seq /-6-/
  (.block 1
    (.seq /-7-/
    (.region [
      ⟨(some 14), .mov (.t 12), none⟩,
      ⟨(some 4), .mov (.t 14), none⟩] [13, 14])
    (.seq /-8-/
    (.region [
      ⟨(some 15), .mov (.t 0), none⟩,
      ⟨(some 16), .mov (.t 4), none⟩,
      ⟨(some 17), .idx 1 (.t 15) (.t 16), none⟩,
      ⟨(some 18), .load false 1 (.t 17), none⟩,
      ⟨(some 19), .len (.t 18), none⟩,
      ⟨(some 20), .mov (.c (.int .i64 0)), none⟩] [15, 16, 17])
    (.block 2
      (.loop ac_dominator_turned_l0)))))
  (ac_dominator_turned_k1)))

def ac_dominator_turned_k3 : ACode :=
  /-live [3]-/ .seq /-13-/
  (.region [
    ⟨(some 36), .mov (.t 3), none⟩,
    ⟨(some 2), .mov (.t 36), none⟩] [0, 3, 11, 12, 36])
  (.ret)

/-- decompiler/dominator.turned -/
def ac_dominator_turned : ACode :=
  .seq /-0-/
  (.region [
    ⟨(some 2), .mknil 1, none⟩] [2])
  (.seq /-1-/
  (.region [
    ⟨(some 7), .mov (.t 0), none⟩,
    ⟨(some 8), .len (.t 7), none⟩,
    ⟨(some 9), .mksl 1 24 [.nilsl] (.t 8) (.t 8), none⟩,
    ⟨(some 3), .mov (.t 9), none⟩] [7, 8, 9])
  (.seq /-2-/
  (.seq /-3-/
  (.region [
    ⟨(some 10), .mov (.t 0), none⟩,
    ⟨(some 11), .len (.t 10), none⟩,
    ⟨(some 12), .mov (.c (.int .i64 0)), none⟩] [10])
  (.block 0
    (.loop ac_dominator_turned_l2)))
  (ac_dominator_turned_k3)))

def rs_dominator_turned : List ARet := [.tmp 2]

set_option maxRecDepth 100000 in
theorem cf_dominator_turned : compF Try.prog f_dominator_turned (qRo []) = some (ac_dominator_turned.strip, rs_dominator_turned, 37) := by kernel_rfl

def ac_slices_Compact_int_int_l0 : ACode :=
  /-live [0, 3, 4, 5]-/ .seq /-13-/
  (.seq /-14-/
  (.region [
    ⟨(some 29), .mov (.t 5), none⟩,
    ⟨(some 30), .mov (.t 4), none⟩,
    ⟨(some 31), .len (.t 30), none⟩,
    ⟨(some 32), .bin .lss (.t 29) (.t 31), none⟩] [29, 30, 31])
  (.cond (.t 32)
    (.skip)
    (.exit 2)))
  (.seq /-15-/
  (.block 3
    (.seq /-16-/
    (.draw (
      .step ⟨(some 35), .mov (.t 4), none⟩ (
      .step ⟨(some 36), .mov (.t 5), none⟩ (
      .step ⟨(some 37), .idx 1 (.t 35) (.t 36), none⟩ (
      .step ⟨(some 38), .load false 1 (.t 37), none⟩ (
      .step ⟨(some 39), .mov (.t 4), none⟩ (
      .step ⟨(some 40), .mov (.t 5), none⟩ (
      .step ⟨(some 41), .bin .sub (.t 40) (.c (.int .i64 1)), none⟩ (
      .step ⟨(some 42), .idx 1 (.t 39) (.t 41), none⟩ (
      .step ⟨(some 43), .load false 1 (.t 42), none⟩ (
      .step ⟨(some 44), .bin .neq (.t 38) (.t 43), none⟩ (
      .done))))))))))) [32, 35, 36, 37, 38, 39, 40, 41, 42, 43])
    (.cond (.t 44)
      (.seq /-17-/
      (.region [
        ⟨(some 45), .mov (.t 0), none⟩,
        ⟨(some 46), .mov (.t 3), none⟩,
        ⟨(some 47), .mov (.t 4), none⟩,
        ⟨(some 48), .mov (.t 5), none⟩,
        ⟨(some 49), .idx 1 (.t 47) (.t 48), none⟩,
        ⟨(some 50), .load false 1 (.t 49), none⟩,
        ⟨(some 51), .idx 1 (.t 45) (.t 46), none⟩,
        ⟨none, .store 1 (.t 51) (.t 50), none⟩] [44, 45, 46, 47, 48, 49, 50, 51])
      (.region [
        ⟨(some 52), .mov (.t 3), none⟩,
        ⟨(some 53), .bin .add (.t 52) (.c (.int .i64 1)), none⟩,
        ⟨(some 3), .mov (.t 53), none⟩] [52, 53]))
      (.skip))))
  (.region [
    ⟨(some 33), .mov (.t 5), none⟩,
    ⟨(some 34), .bin .add (.t 33) (.c (.int .i64 1)), none⟩,
    ⟨(some 5), .mov (.t 34), none⟩] [33, 34, 44]))

def ac_slices_Compact_int_int_k1 : ACode :=
  /-live [0, 3]-/ .seq /-18-/
  (.region [
    ⟨(some 54), .mov (.t 0), none⟩,
    ⟨(some 55), .mov (.t 3), none⟩,
    ⟨(some 56), .slice 1 (.t 54) (some (.t 55)) none, none⟩,
    ⟨none, .clear 1 [.int .i64 0] (.t 56), none⟩] [4, 5, 54, 55, 56])
  (.seq /-19-/
  (.region [
    ⟨(some 57), .mov (.t 0), none⟩,
    ⟨(some 58), .mov (.t 3), none⟩,
    ⟨(some 59), .slice 1 (.t 57) none (some (.t 58)), none⟩,
    ⟨(some 2), .mov (.t 59), none⟩] [0, 3, 57, 58, 59])
  (.ret))

def ac_slices_Compact_int_int_k2 : ACode :=
  /-live [0, 3]-/ .region [
    ⟨(some 14), .mov (.t 3), none⟩,
    ⟨(some 15), .bin .add (.t 14) (.c (.int .i64 1)), none⟩,
    ⟨(some 3), .mov (.t 15), none⟩] [2, 14, 15, 25]

def ac_slices_Compact_int_int_l3 : ACode :=
  /-live [0, 3]-/ .seq /-6-/
  (.seq /-7-/
  (.region [
    ⟨(some 10), .mov (.t 3), none⟩,
    ⟨(some 11), .mov (.t 0), none⟩,
    ⟨(some 12), .len (.t 11), none⟩,
    ⟨(some 13), .bin .lss (.t 10) (.t 12), none⟩] [10, 11, 12])
  (.cond (.t 13)
    (.skip)
    (.exit 0)))
  (.seq /-8-/
  (.block 1
    (.seq /-9-/
    (.draw (
      .step ⟨(some 16), .mov (.t 0), none⟩ (
      .step ⟨(some 17), .mov (.t 3), none⟩ (
      .step ⟨(some 18), .idx 1 (.t 16) (.t 17), none⟩ (
      .step ⟨(some 19), .load false 1 (.t 18), none⟩ (
      .step ⟨(some 20), .mov (.t 0), none⟩ (
      .step ⟨(some 21), .mov (.t 3), none⟩ (
      .step ⟨(some 22), .bin .sub (.t 21) (.c (.int .i64 1)), none⟩ (
      .step ⟨(some 23), .idx 1 (.t 20) (.t 22), none⟩ (
      .step ⟨(some 24), .load false 1 (.t 23), none⟩ (
      .step ⟨(some 25), .bin .eql (.t 19) (.t 24), none⟩ (
      .done))))))))))) [13, 16, 17, 18, 19, 20, 21, 22, 23, 24])
    (.cond (.t 25)
      (.seq /-10-/
      (.region [
        ⟨(some 26), .mov (.t 0), none⟩,
        ⟨(some 27), .mov (.t 3), none⟩,
        ⟨(some 28), .slice 1 (.t 26) (some (.t 27)) none, none⟩,
        ⟨(some 4), .mov (.t 28), none⟩] [25, 26, 27, 28])
      (.seq /-11-/
      (.seq /-12-/
      (.region [
        ⟨(some 5), .mov (.c (.int .i64 1)), none⟩] [])
      (.block 2
        (.loop ac_slices_Compact_int_int_l0)))
      (ac_slices_Compact_int_int_k1)))
      (.skip))))
  (ac_slices_Compact_int_int_k2))

def ac_slices_Compact_int_int_k4 : ACode :=
  /-live [0]-/ .seq /-20-/
  (.region [
    ⟨(some 60), .mov (.t 0), none⟩,
    ⟨(some 2), .mov (.t 60), none⟩] [0, 3, 60])
  (.ret)

/-- slices.Compact[[]int,int] -/
def ac_slices_Compact_int_int : ACode :=
  .seq /-0-/
  (.region [
    ⟨(some 2), .mknil 1, none⟩] [2])
  (.seq /-1-/
  (.seq /-2-/
  (.region [
    ⟨(some 6), .mov (.t 0), none⟩,
    ⟨(some 7), .len (.t 6), none⟩,
    ⟨(some 8), .bin .lss (.t 7) (.c (.int .i64 2)), none⟩] [6, 7])
  (.cond (.t 8)
    (.seq /-3-/
    (.region [
      ⟨(some 9), .mov (.t 0), none⟩,
      ⟨(some 2), .mov (.t 9), none⟩] [0, 8, 9])
    (.ret))
    (.skip)))
  (.seq /-4-/
  (.seq /-5-/
  (.region [
    ⟨(some 3), .mov (.c (.int .i64 1)), none⟩] [2, 8])
  (.block 0
    (.loop ac_slices_Compact_int_int_l3)))
  (ac_slices_Compact_int_int_k4)))

def rs_slices_Compact_int_int : List ARet := [.tmp 2]

set_option maxRecDepth 100000 in
theorem cf_slices_Compact_int_int : compF Try.prog f_slices_Compact_int_int (qRo []) = some (ac_slices_Compact_int_int.strip, rs_slices_Compact_int_int, 61) := by kernel_rfl

def ac_dominator_tree_1_l0 : ACode :=
  /-live [0, 1, 2, 3]-/ .seq /-2-/
  (.seq /-3-/
  (.region [
    ⟨(some 7), .mov (.t 0), none⟩,
    ⟨(some 8), .mov (.t 1), none⟩,
    ⟨(some 9), .bin .neq (.t 7) (.t 8), none⟩] [7, 8])
  (.cond (.t 9)
    (.skip)
    (.exit 0)))
  (.block 1
    (.seq /-4-/
    (.draw (
      .step ⟨(some 10), .load false 1 (.t 2), none⟩ (
      .step ⟨(some 11), .mov (.t 0), none⟩ (
      .step ⟨(some 12), .idx 1 (.t 10) (.t 11), none⟩ (
      .step ⟨(some 13), .load false 1 (.t 12), none⟩ (
      .step ⟨(some 14), .load false 1 (.t 2), none⟩ (
      .step ⟨(some 15), .mov (.t 1), none⟩ (
      .step ⟨(some 16), .idx 1 (.t 14) (.t 15), none⟩ (
      .step ⟨(some 17), .load false 1 (.t 16), none⟩ (
      .step ⟨(some 18), .bin .gtr (.t 13) (.t 17), none⟩ (
      .done)))))))))) [9, 10, 11, 12, 13, 14, 15, 16, 17])
    (.cond (.t 18)
      (.region [
        ⟨(some 19), .load false 1 (.t 3), none⟩,
        ⟨(some 20), .mov (.t 0), none⟩,
        ⟨(some 21), .idx 1 (.t 19) (.t 20), none⟩,
        ⟨(some 22), .load false 1 (.t 21), none⟩,
        ⟨(some 0), .mov (.t 22), none⟩] [18, 19, 20, 21, 22])
      (.region [
        ⟨(some 23), .load false 1 (.t 3), none⟩,
        ⟨(some 24), .mov (.t 1), none⟩,
        ⟨(some 25), .idx 1 (.t 23) (.t 24), none⟩,
        ⟨(some 26), .load false 1 (.t 25), none⟩,
        ⟨(some 1), .mov (.t 26), none⟩] [18, 23, 24, 25, 26]))))

def ac_dominator_tree_1_k1 : ACode :=
  /-live [0]-/ .seq /-5-/
  (.region [
    ⟨(some 27), .mov (.t 0), none⟩,
    ⟨(some 6), .mov (.t 27), none⟩] [0, 1, 2, 3, 27])
  (.ret)

/-- decompiler/dominator.tree$1 -/
def ac_dominator_tree_1 : ACode :=
  .seq /-0-/
  (.region [
    ⟨(some 6), .mov (.c (.int .i64 0)), none⟩] [6])
  (.seq /-1-/
  (.block 0
    (.loop ac_dominator_tree_1_l0))
  (ac_dominator_tree_1_k1))

def rs_dominator_tree_1 : List ARet := [.tmp 6]

set_option maxRecDepth 100000 in
theorem cf_dominator_tree_1 : compF Try.prog f_dominator_tree_1 (qRo []) = some (ac_dominator_tree_1.strip, rs_dominator_tree_1, 28) := by kernel_rfl

def ac_dominator_edges_k0 : ACode :=
  /-live [2, 7]-/ .seq /-12-/
  (.region [
    ⟨(some 42), .mov (.t 7), none⟩,
    ⟨(some 43), .mkfn (.func f_dominator_edges_1) [(.t 2)], none⟩,
    ⟨(some 44), .call f_slices_DeleteFunc_int_int [(.t 42), (.t 43)], none⟩,
    ⟨(some 4), .mov (.t 44), none⟩] [2, 6, 7, 37, 42, 43, 44])
  (.ret)

/-- decompiler/dominator.edges -/
def ac_dominator_edges : ACode :=
  .seq /-0-/
  (.region [
    ⟨(some 2), .rbox (.t 0), none⟩,
    ⟨(some 4), .mknil 1, none⟩] [0, 4])
  (.seq /-1-/
  (.region [
    ⟨(some 8), .fldaddr 1 1 (.t 2), none⟩,
    ⟨(some 9), .load false 1 (.t 8), none⟩,
    ⟨(some 10), .mov (.t 1), none⟩,
    ⟨(some 11), .idx 2 (.t 9) (.t 10), none⟩,
    ⟨(some 12), .fldaddr 1 1 (.t 11), none⟩,
    ⟨(some 13), .load false 1 (.t 12), none⟩,
    ⟨(some 5), .mov (.t 13), none⟩] [1, 8, 9, 10, 11, 12, 13])
  (.seq /-2-/
  (.seq /-3-/
  (.region [
    ⟨(some 14), .mov (.t 5), none⟩,
    ⟨(some 15), .len (.t 14), none⟩,
    ⟨(some 16), .bin .eql (.t 15) (.c (.int .i64 0)), none⟩] [14, 15])
  (.cond (.t 16)
    (.seq /-4-/
    (.region [
      ⟨(some 4), .mknil 1, none⟩] [2, 5, 16])
    (.ret))
    (.skip)))
  (.seq /-5-/
  (.region [
    ⟨(some 17), .mov (.t 5), none⟩,
    ⟨(some 18), .mov (.t 5), none⟩,
    ⟨(some 19), .len (.t 18), none⟩,
    ⟨(some 20), .bin .sub (.t 19) (.c (.int .i64 1)), none⟩,
    ⟨(some 21), .idx 8 (.t 17) (.t 20), none⟩,
    ⟨(some 22), .load true 8 (.t 21), none⟩,
    ⟨(some 6), .alloc [.int .i64 0, .int .i64 0, .int .i64 0, .int .i64 0, .int .i64 0, .int .u32 0, .nilsl, .nilsl], none⟩,
    ⟨none, .store 8 (.t 6) (.t 22), none⟩] [4, 5, 16, 17, 18, 19, 20, 21, 22])
  (.seq /-6-/
  (.region [
    ⟨(some 7), .mknil 1, none⟩] [])
  (.join /-7 live [2, 7]-/
  (.seq /-8-/
  (.region [
    ⟨(some 23), .fldaddr 0 1 (.t 6), none⟩,
    ⟨(some 24), .load false 1 (.t 23), none⟩] [23])
  (.block 0
    (.seq /-9-/
    (.region [
      ⟨(some 26), .bin .eql (.t 24) (.c (.int .i64 6)), none⟩,
      ⟨(some 25), .mov (.t 26), none⟩] [26])
    (.cond (.t 25)
      (.region [
        ⟨(some 27), .fldaddr 3 1 (.t 6), none⟩,
        ⟨(some 28), .load false 1 (.t 27), none⟩,
        ⟨(some 29), .buildSl 1 1 [.int .i64 0] [(0, (.t 28))], none⟩,
        ⟨(some 7), .mov (.t 29), none⟩] [6, 24, 25, 27, 28, 29])
      (.seq /-10-/
      (.region [
        ⟨(some 31), .bin .eql (.t 24) (.c (.int .i64 7)), none⟩,
        ⟨(some 30), .mov (.t 31), none⟩] [25, 31])
      (.cond (.t 30)
        (.region [
          ⟨(some 32), .fldaddr 3 1 (.t 6), none⟩,
          ⟨(some 33), .load false 1 (.t 32), none⟩,
          ⟨(some 34), .fldaddr 4 1 (.t 6), none⟩,
          ⟨(some 35), .load false 1 (.t 34), none⟩,
          ⟨(some 36), .buildSl 1 2 [.int .i64 0] [(0, (.t 33)), (1, (.t 35))], none⟩,
          ⟨(some 7), .mov (.t 36), none⟩] [6, 24, 30, 32, 33, 34, 35, 36])
        (.seq /-11-/
        (.region [
          ⟨(some 38), .bin .eql (.t 24) (.c (.int .i64 8)), none⟩,
          ⟨(some 37), .mov (.t 38), none⟩] [24, 30, 38])
        (.cond (.t 37)
          (.region [
            ⟨(some 39), .fldaddr 7 1 (.t 6), none⟩,
            ⟨(some 40), .load false 1 (.t 39), none⟩,
            ⟨(some 41), .call f_slices_Clone_int_int [(.t 40)], none⟩,
            ⟨(some 7), .mov (.t 41), none⟩] [6, 37, 39, 40, 41])
          (.skip)))))))))
  (ac_dominator_edges_k0))))))

def rs_dominator_edges : List ARet := [.tmp 4]

set_option maxRecDepth 100000 in
theorem cf_dominator_edges : compF Try.prog f_dominator_edges (qRo [2]) = some (ac_dominator_edges.strip, rs_dominator_edges, 45) := by kernel_rfl

def ac_dominator_order_1_l0 : ACode :=
  /-live [0, 1, 3, 4, 14, 15, 16]-/ .seq /-3-/
  (.region [
    ⟨(some 17), .bin .lss (.t 16) (.t 15), none⟩] [])
  (.seq /-4-/
  (.cond (.t 17)
    (.skip)
    (.exit 0))
  (.seq /-5-/
  (.block 1
    (.seq /-6-/
    (.region [
      ⟨(some 18), .idx 1 (.t 14) (.t 16), none⟩,
      ⟨(some 19), .load false 1 (.t 18), none⟩,
      ⟨(some 7), .mov (.t 19), none⟩] [17, 18, 19])
    (.seq /-7-/
    (.region [
      ⟨(some 20), .load false 1 (.t 1), none⟩,
      ⟨(some 21), .mov (.t 7), none⟩,
      ⟨(some 22), .idx 1 (.t 20) (.t 21), none⟩,
      ⟨(some 23), .load false 1 (.t 22), none⟩,
      ⟨(some 24), .un .not (.t 23), none⟩] [20, 21, 22, 23])
    (.cond (.t 24)
      (.region [
        ⟨(some 25), .load false 1 (.t 3), none⟩,
        ⟨(some 26), .mov (.t 7), none⟩,
        ⟨(some 27), .callv (.t 25) [(.t 26)], none⟩] [7, 24, 25, 26, 27])
      (.skip)))))
  (.region [
    ⟨(some 28), .bin .add (.t 16) (.c (.int .i64 1)), none⟩,
    ⟨(some 16), .mov (.t 28), none⟩] [7, 24, 28])))

def ac_dominator_order_1_k1 : ACode :=
  /-live [0, 4]-/ .region [
    ⟨(some 29), .load false 1 (.t 4), none⟩,
    ⟨(some 30), .mov (.t 0), none⟩,
    ⟨(some 31), .buildSl 1 1 [.int .i64 0] [(0, (.t 30))], none⟩,
    ⟨(some 32), .append 1 8 (.t 29) (.t 31), none⟩,
    ⟨none, .store 1 (.t 4) (.t 32), none⟩] [0, 1, 3, 4, 14, 15, 16, 29, 30, 31, 32]

/-- decompiler/dominator.order$1 -/
def ac_dominator_order_1 : ACode :=
  .seq /-0-/
  (.region [
    ⟨(some 8), .load false 1 (.t 1), none⟩,
    ⟨(some 9), .mov (.t 0), none⟩,
    ⟨(some 10), .idx 1 (.t 8) (.t 9), none⟩,
    ⟨none, .store 1 (.t 10) (.c (.bool true)), none⟩] [8, 9, 10])
  (.seq /-1-/
  (.seq /-2-/
  (.region [
    ⟨(some 11), .load false 1 (.t 2), none⟩,
    ⟨(some 12), .mov (.t 0), none⟩,
    ⟨(some 13), .idx 1 (.t 11) (.t 12), none⟩,
    ⟨(some 14), .load false 1 (.t 13), none⟩,
    ⟨(some 15), .len (.t 14), none⟩,
    ⟨(some 16), .mov (.c (.int .i64 0)), none⟩] [2, 11, 12, 13])
  (.block 0
    (.loop ac_dominator_order_1_l0)))
  (ac_dominator_order_1_k1))

def rs_dominator_order_1 : List ARet := []

set_option maxRecDepth 100000 in
theorem cf_dominator_order_1 : compF Try.prog f_dominator_order_1 (qRo []) = some (ac_dominator_order_1.strip, rs_dominator_order_1, 33) := by kernel_rfl

def ac_slices_Reverse_int_int_l0 : ACode :=
  /-live [0, 2, 3]-/ .seq /-1-/
  (.seq /-2-/
  (.region [
    ⟨(some 7), .mov (.t 2), none⟩,
    ⟨(some 8), .mov (.t 3), none⟩,
    ⟨(some 9), .bin .lss (.t 7) (.t 8), none⟩] [7, 8])
  (.cond (.t 9)
    (.skip)
    (.exit 0)))
  (.seq /-3-/
  (.block 1
    (.draw (
      .step ⟨(some 14), .mov (.t 0), none⟩ (
      .step ⟨(some 15), .mov (.t 2), none⟩ (
      .step ⟨(some 16), .mov (.t 0), none⟩ (
      .step ⟨(some 17), .mov (.t 3), none⟩ (
      .step ⟨(some 18), .mov (.t 0), none⟩ (
      .step ⟨(some 19), .mov (.t 3), none⟩ (
      .step ⟨(some 20), .idx 1 (.t 18) (.t 19), none⟩ (
      .step ⟨(some 21), .load false 1 (.t 20), none⟩ (
      .step ⟨(some 22), .mov (.t 0), none⟩ (
      .step ⟨(some 23), .mov (.t 2), none⟩ (
      .alt ⟨(some 24), .idx 1 (.t 22) (.t 23), none⟩ (
      .step ⟨(some 25), .load false 1 (.t 24), none⟩ (
       .step ⟨(some 26), .idx 1 (.t 14) (.t 15), none⟩ (
       .alt ⟨none, .store 1 (.t 26) (.t 21), none⟩ (
       .step ⟨(some 27), .idx 1 (.t 16) (.t 17), none⟩ (
        .alt ⟨none, .store 1 (.t 27) (.t 25), none⟩ (
        .done) (
        .stop))) (
       .stop)))) (
      .stop)))))))))))) [9, 14, 15, 16, 17, 18, 19, 20, 21, 22, 23, 24, 25, 26, 27]))
  (.region [
    ⟨(some 10), .mov (.t 2), none⟩,
    ⟨(some 11), .bin .add (.t 10) (.c (.int .i64 1)), none⟩,
    ⟨(some 12), .mov (.t 3), none⟩,
    ⟨(some 13), .bin .sub (.t 12) (.c (.int .i64 1)), none⟩,
    ⟨(some 2), .mov (.t 11), none⟩,
    ⟨(some 3), .mov (.t 13), none⟩] [10, 11, 12, 13]))

/-- slices.Reverse[[]int,int] -/
def ac_slices_Reverse_int_int : ACode :=
  .seq /-0-/
  (.region [
    ⟨(some 4), .mov (.t 0), none⟩,
    ⟨(some 5), .len (.t 4), none⟩,
    ⟨(some 6), .bin .sub (.t 5) (.c (.int .i64 1)), none⟩,
    ⟨(some 2), .mov (.c (.int .i64 0)), none⟩,
    ⟨(some 3), .mov (.t 6), none⟩] [4, 5, 6])
  (.block 0
    (.loop ac_slices_Reverse_int_int_l0))

def rs_slices_Reverse_int_int : List ARet := []

set_option maxRecDepth 100000 in
theorem cf_slices_Reverse_int_int : compF Try.prog f_slices_Reverse_int_int (qRo []) = some (ac_slices_Reverse_int_int.strip, rs_slices_Reverse_int_int, 28) := by kernel_rfl

def ac_slices_Index_int_int_l0 : ACode :=
  /-live [0, 1, 7, 8]-/ .seq /-3-/
  (.region [
    ⟨(some 9), .bin .lss (.t 8) (.t 7), none⟩] [])
  (.seq /-4-/
  (.cond (.t 9)
    (.skip)
    (.exit 0))
  (.seq /-5-/
  (.block 1
    (.seq /-6-/
    (.region [
      ⟨(some 10), .mov (.t 8), none⟩,
      ⟨(some 5), .mov (.t 10), none⟩] [9, 10])
    (.seq /-7-/
    (.region [
      ⟨(some 11), .mov (.t 1), none⟩,
      ⟨(some 12), .mov (.t 0), none⟩,
      ⟨(some 13), .mov (.t 5), none⟩,
      ⟨(some 14), .idx 1 (.t 12) (.t 13), none⟩,
      ⟨(some 15), .load false 1 (.t 14), none⟩,
      ⟨(some 16), .bin .eql (.t 11) (.t 15), none⟩] [11, 12, 13, 14, 15])
    (.cond (.t 16)
      (.seq /-8-/
      (.region [
        ⟨(some 17), .mov (.t 5), none⟩,
        ⟨(some 4), .mov (.t 17), none⟩] [0, 1, 5, 7, 8, 16, 17])
      (.ret))
      (.skip)))))
  (.region [
    ⟨(some 18), .bin .add (.t 8) (.c (.int .i64 1)), none⟩,
    ⟨(some 8), .mov (.t 18), none⟩] [4, 5, 16, 18])))

def ac_slices_Index_int_int_k1 : ACode :=
  /-live []-/ .seq /-9-/
  (.region [
    ⟨(some 4), .mov (.c (.int .i64 (-1))), none⟩] [0, 1, 7, 8])
  (.ret)

/-- slices.Index[[]int,int] -/
def ac_slices_Index_int_int : ACode :=
  .seq /-0-/
  (.region [
    ⟨(some 4), .mov (.c (.int .i64 0)), none⟩] [4])
  (.seq /-1-/
  (.seq /-2-/
  (.region [
    ⟨(some 6), .mov (.t 0), none⟩,
    ⟨(some 7), .len (.t 6), none⟩,
    ⟨(some 8), .mov (.c (.int .i64 0)), none⟩] [6])
  (.block 0
    (.loop ac_slices_Index_int_int_l0)))
  (ac_slices_Index_int_int_k1))

def rs_slices_Index_int_int : List ARet := [.tmp 4]

set_option maxRecDepth 100000 in
theorem cf_slices_Index_int_int : compF Try.prog f_slices_Index_int_int (qRo []) = some (ac_slices_Index_int_int.strip, rs_slices_Index_int_int, 19) := by kernel_rfl


/-- slices.Clone[[]int,int] -/
def ac_slices_Clone_int_int : ACode :=
  .seq /-0-/
  (.region [
    ⟨(some 2), .mknil 1, none⟩] [2])
  (.seq /-1-/
  (.seq /-2-/
  (.region [
    ⟨(some 3), .mov (.t 0), none⟩,
    ⟨(some 4), .isnil false false (.t 3), none⟩] [3])
  (.cond (.t 4)
    (.seq /-3-/
    (.region [
      ⟨(some 2), .mknil 1, none⟩] [0, 4])
    (.ret))
    (.skip)))
  (.seq /-4-/
  (.region [
    ⟨(some 5), .buildSl 1 0 [.int .i64 0] [], none⟩,
    ⟨(some 6), .mov (.t 0), none⟩,
    ⟨(some 7), .append 1 8 (.t 5) (.t 6), none⟩,
    ⟨(some 2), .mov (.t 7), none⟩] [0, 4, 5, 6, 7])
  (.ret)))

def rs_slices_Clone_int_int : List ARet := [.tmp 2]

set_option maxRecDepth 100000 in
theorem cf_slices_Clone_int_int : compF Try.prog f_slices_Clone_int_int (qRo []) = some (ac_slices_Clone_int_int.strip, rs_slices_Clone_int_int, 8) := by kernel_rfl

def ac_slices_DeleteFunc_int_int_l0 : ACode :=
  /-live [0, 1, 5, 6]-/ .seq /-7-/
  (.seq /-8-/
  (.region [
    ⟨(some 16), .mov (.t 6), none⟩,
    ⟨(some 17), .mov (.t 0), none⟩,
    ⟨(some 18), .len (.t 17), none⟩,
    ⟨(some 19), .bin .lss (.t 16) (.t 18), none⟩] [16, 17, 18])
  (.cond (.t 19)
    (.skip)
    (.exit 0)))
  (.seq /-9-/
  (.block 1
    (.seq /-10-/
    (.region [
      ⟨(some 22), .mov (.t 0), none⟩,
      ⟨(some 23), .mov (.t 6), none⟩,
      ⟨(some 24), .idx 1 (.t 22) (.t 23), none⟩,
      ⟨(some 25), .load false 1 (.t 24), none⟩,
      ⟨(some 7), .mov (.t 25), none⟩] [19, 22, 23, 24, 25])
    (.seq /-11-/
    (.region [
      ⟨(some 26), .mov (.t 1), none⟩,
      ⟨(some 27), .mov (.t 7), none⟩,
      ⟨(some 28), .callv (.t 26) [(.t 27)], none⟩,
      ⟨(some 29), .un .not (.t 28), none⟩] [26, 27, 28])
    (.cond (.t 29)
      (.seq /-12-/
      (.region [
        ⟨(some 30), .mov (.t 0), none⟩,
        ⟨(some 31), .mov (.t 5), none⟩,
        ⟨(some 32), .mov (.t 7), none⟩,
        ⟨(some 33), .idx 1 (.t 30) (.t 31), none⟩,
        ⟨none, .store 1 (.t 33) (.t 32), none⟩] [7, 29, 30, 31, 32, 33])
      (.region [
        ⟨(some 34), .mov (.t 5), none⟩,
        ⟨(some 35), .bin .add (.t 34) (.c (.int .i64 1)), none⟩,
        ⟨(some 5), .mov (.t 35), none⟩] [34, 35]))
      (.skip)))))
  (.region [
    ⟨(some 20), .mov (.t 6), none⟩,
    ⟨(some 21), .bin .add (.t 20) (.c (.int .i64 1)), none⟩,
    ⟨(some 6), .mov (.t 21), none⟩] [7, 20, 21, 29]))

def ac_slices_DeleteFunc_int_int_k1 : ACode :=
  /-live [0, 5]-/ .seq /-13-/
  (.region [
    ⟨(some 36), .mov (.t 0), none⟩,
    ⟨(some 37), .mov (.t 5), none⟩,
    ⟨(some 38), .slice 1 (.t 36) (some (.t 37)) none, none⟩,
    ⟨none, .clear 1 [.int .i64 0] (.t 38), none⟩] [1, 6, 36, 37, 38])
  (.seq /-14-/
  (.region [
    ⟨(some 39), .mov (.t 0), none⟩,
    ⟨(some 40), .mov (.t 5), none⟩,
    ⟨(some 41), .slice 1 (.t 39) none (some (.t 40)), none⟩,
    ⟨(some 4), .mov (.t 41), none⟩] [0, 5, 39, 40, 41])
  (.ret))

/-- slices.DeleteFunc[[]int,int] -/
def ac_slices_DeleteFunc_int_int : ACode :=
  .seq /-0-/
  (.region [
    ⟨(some 4), .mknil 1, none⟩] [4])
  (.seq /-1-/
  (.region [
    ⟨(some 8), .mov (.t 0), none⟩,
    ⟨(some 9), .mov (.t 1), none⟩,
    ⟨(some 10), .call f_slices_IndexFunc_int_int [(.t 8), (.t 9)], none⟩,
    ⟨(some 5), .mov (.t 10), none⟩] [8, 9, 10])
  (.seq /-2-/
  (.seq /-3-/
  (.region [
    ⟨(some 11), .mov (.t 5), none⟩,
    ⟨(some 12), .bin .eql (.t 11) (.c (.int .i64 (-1))), none⟩] [11])
  (.cond (.t 12)
    (.seq /-4-/
    (.region [
      ⟨(some 13), .mov (.t 0), none⟩,
      ⟨(some 4), .mov (.t 13), none⟩] [0, 1, 5, 12, 13])
    (.ret))
    (.skip)))
  (.seq /-5-/
  (.seq /-6-/
  (.region [
    ⟨(some 14), .mov (.t 5), none⟩,
    ⟨(some 15), .bin .add (.t 14) (.c (.int .i64 1)), none⟩,
    ⟨(some 6), .mov (.t 15), none⟩] [4, 12, 14, 15])
  (.block 0
    (.loop ac_slices_DeleteFunc_int_int_l0)))
  (ac_slices_DeleteFunc_int_int_k1))))

def rs_slices_DeleteFunc_int_int : List ARet := [.tmp 4]

set_option maxRecDepth 100000 in
theorem cf_slices_DeleteFunc_int_int : compF Try.prog f_slices_DeleteFunc_int_int (qRo []) = some (ac_slices_DeleteFunc_int_int.strip, rs_slices_DeleteFunc_int_int, 42) := by kernel_rfl


/-- decompiler/dominator.edges$1 -/
def ac_dominator_edges_1 : ACode :=
  .seq /-0-/
  (.region [
    ⟨(some 3), .mov (.c (.bool false)), none⟩] [3])
  (.seq /-1-/
  (.region [
    ⟨(some 4), .mov (.t 0), none⟩,
    ⟨(some 5), .bin .lss (.t 4) (.c (.int .i64 0)), none⟩,
    ⟨(some 6), .mov (.t 5), none⟩,
    ⟨(some 7), .mov (.t 0), (some (6, false))⟩,
    ⟨(some 8), .fldaddr 1 1 (.t 1), (some (6, false))⟩,
    ⟨(some 9), .load false 1 (.t 8), (some (6, false))⟩,
    ⟨(some 10), .len (.t 9), (some (6, false))⟩,
    ⟨(some 11), .bin .geq (.t 7) (.t 10), (some (6, false))⟩,
    ⟨(some 12), .pick (.t 6) (.c (.bool true)) (.t 11), none⟩,
    ⟨(some 3), .mov (.t 12), none⟩] [0, 1, 4, 5, 6, 7, 8, 9, 10, 11, 12])
  (.ret))

def rs_dominator_edges_1 : List ARet := [.tmp 3]

set_option maxRecDepth 100000 in
theorem cf_dominator_edges_1 : compF Try.prog f_dominator_edges_1 (qRo []) = some (ac_dominator_edges_1.strip, rs_dominator_edges_1, 13) := by kernel_rfl

def ac_slices_IndexFunc_int_int_l0 : ACode :=
  /-live [0, 1, 7, 8]-/ .seq /-3-/
  (.region [
    ⟨(some 9), .bin .lss (.t 8) (.t 7), none⟩] [])
  (.seq /-4-/
  (.cond (.t 9)
    (.skip)
    (.exit 0))
  (.seq /-5-/
  (.block 1
    (.seq /-6-/
    (.region [
      ⟨(some 10), .mov (.t 8), none⟩,
      ⟨(some 5), .mov (.t 10), none⟩] [9, 10])
    (.seq /-7-/
    (.region [
      ⟨(some 11), .mov (.t 1), none⟩,
      ⟨(some 12), .mov (.t 0), none⟩,
      ⟨(some 13), .mov (.t 5), none⟩,
      ⟨(some 14), .idx 1 (.t 12) (.t 13), none⟩,
      ⟨(some 15), .load false 1 (.t 14), none⟩,
      ⟨(some 16), .callv (.t 11) [(.t 15)], none⟩] [11, 12, 13, 14, 15])
    (.cond (.t 16)
      (.seq /-8-/
      (.region [
        ⟨(some 17), .mov (.t 5), none⟩,
        ⟨(some 4), .mov (.t 17), none⟩] [0, 1, 5, 7, 8, 16, 17])
      (.ret))
      (.skip)))))
  (.region [
    ⟨(some 18), .bin .add (.t 8) (.c (.int .i64 1)), none⟩,
    ⟨(some 8), .mov (.t 18), none⟩] [4, 5, 16, 18])))

def ac_slices_IndexFunc_int_int_k1 : ACode :=
  /-live []-/ .seq /-9-/
  (.region [
    ⟨(some 4), .mov (.c (.int .i64 (-1))), none⟩] [0, 1, 7, 8])
  (.ret)

/-- slices.IndexFunc[[]int,int] -/
def ac_slices_IndexFunc_int_int : ACode :=
  .seq /-0-/
  (.region [
    ⟨(some 4), .mov (.c (.int .i64 0)), none⟩] [4])
  (.seq /-1-/
  (.seq /-2-/
  (.region [
    ⟨(some 6), .mov (.t 0), none⟩,
    ⟨(some 7), .len (.t 6), none⟩,
    ⟨(some 8), .mov (.c (.int .i64 0)), none⟩] [6])
  (.block 0
    (.loop ac_slices_IndexFunc_int_int_l0)))
  (ac_slices_IndexFunc_int_int_k1))

def rs_slices_IndexFunc_int_int : List ARet := [.tmp 4]

set_option maxRecDepth 100000 in
theorem cf_slices_IndexFunc_int_int : compF Try.prog f_slices_IndexFunc_int_int (qRo []) = some (ac_slices_IndexFunc_int_int.strip, rs_slices_IndexFunc_int_int, 19) := by kernel_rfl

end Go.Ab

namespace Go.Ab
open Go.RowKit Go.Proofs

/-- A function value that answers with a bool, told by p, and holds no rows. -/
structure PredFn (fv : AV) (p : Int → Bool) : Prop where
  ex : ∃ f caps, fv = .fn (.func f) caps ∧ fnGood Try.prog f = true ∧ allFlat caps = true ∧ ∀ x, PureFn Try.prog f ([.int .i64 x] ++ caps) (· = .bool (p x))

theorem allFlat_all : ∀ {l : List AV}, allFlat l = true → l.all AV.flat = true
  | [], _ => rfl
  | a :: l, h => by
    simp only [allFlat, Bool.and_eq_true] at h
    simp only [List.all_cons, Bool.and_eq_true]
    refine ⟨?_, allFlat_all h.2⟩
    cases a <;> first | rfl | exact absurd h.1 (by simp [AV.flat0])

theorem callv_pred {fv : AV} {p : Int → Bool} (hp : PredFn fv p) {x : Int} {H : AH} {nx : Nat} {k : AV → AH → Nat → Prop} (hk : k (.bool (p x)) H nx) : callvX Try.prog fv [.int .i64 x] H nx k := by
  obtain ⟨f, caps, rfl, hg, hf, hx⟩ := hp.ex
  rw [callvX_fn]
  exact ⟨hg, callX_fix (call_flat (hx x) (by simp only [List.cons_append, List.nil_append, List.all_cons, AV.flat, AV.flat0, Bool.true_and]; exact allFlat_all hf)) hk⟩

theorem vw_pred {fv : AV} {p : Int → Bool} (hp : PredFn fv p) {H H2 : AH} {σ : Nat → Nat → Option (Nat × Nat × Nat)} {D : Nat → Nat → Prop} {t : Bool} : Vw H H2 σ D t fv fv := by
  obtain ⟨f, caps, rfl, hg, hf, hx⟩ := hp.ex
  refine .fn _ _ _ _ rfl fun i a b h1 h2 => ?_
  rw [h1] at h2
  cases h2
  exact vw_flat0 (allFlat_get hf h1)

theorem slices_IndexFunc_ok (l : List Int) (fv : AV) (p : Int → Bool) (hp : PredFn fv p) : PureFn Try.prog f_slices_IndexFunc_int_int [encInts l, fv] (· = .int .i64 (match l.findIdx? p with | some i => (i : Int) | none => -1)) := by
  refine fn_x cf_slices_IndexFunc_int_int rfl ?_
  unfold ac_slices_IndexFunc_int_int
  have hB : big = 9223372036854775807 := rfl
  (repeat (first | (simp (disch := (first | omega | (simp only [evF, evL, implies_true, and_self]; done) | fail)) only [evS, evZ, evK, evB, evL, evR, Nat.reduceBEq, Nat.reduceAdd, Nat.reduceLeDiff, boxR, rboxR, allocR, fldR, binI, unR, pickR, mknilR, mkslR, buildSlR, buildR, extR, convI, eqB, evU, wrap64, encInts]) | (with_reducible intro _) | ((with_reducible apply And.intro); omega)))
  refine loopX_intro (fun i : Nat => ([(0, encInts l), (1, fv), (7, .int .i64 l.length), (8, .int .i64 i)], [])) 0 (fun i => i ≤ l.length ∧ ∀ j (h : j < l.length), j < i → p l[j] = false) (fun i => l.length - i) 0 ⟨Nat.zero_le _, fun j _ h => by omega⟩ (Ent.keep rfl (by (try simp [subK, Kn.get, beq_eq]) <;> (repeat' with_reducible apply And.intro) <;> first | rfl | omega | (simp; done))) ?_
  intro i ⟨hi, hno⟩ wf
  unfold ac_slices_IndexFunc_int_int_l0
  (repeat (first | (simp (disch := (first | omega | (simp only [evF, evL, implies_true, and_self]; done) | fail)) only [evS, evZ, evK, evB, evL, evR, Nat.reduceBEq, Nat.reduceAdd, Nat.reduceLeDiff, boxR, rboxR, allocR, fldR, binI, unR, pickR, mknilR, mkslR, buildSlR, buildR, extR, convI, eqB, evU, wrap64, encInts]) | (with_reducible intro _) | ((with_reducible apply And.intro); omega)))
  (refine condX_intro (fun h => ?_) (fun h => ?_)) <;> (try simp only [decide_eq_true_eq, decide_eq_false_iff_not, Bool.not_eq_true', Bool.not_eq_false', Bool.and_eq_true, Bool.or_eq_true, not_true_eq_false, not_false_eq_true] at h)
  · have hi' : i < l.length := by omega
    (repeat (first | (simp (disch := (first | omega | (simp only [evF, evL, implies_true, and_self]; done) | fail)) only [evS, evZ, evK, evB, evL, evR, Nat.reduceBEq, Nat.reduceAdd, Nat.reduceLeDiff, boxR, rboxR, allocR, fldR, binI, unR, pickR, mknilR, mkslR, buildSlR, buildR, extR, convI, eqB, evU, wrap64, getD_map hi']) | (with_reducible intro _) | ((with_reducible apply And.intro); omega)))
    refine callv_pred hp ?_
    (repeat (first | (simp (disch := (first | omega | (simp only [evF, evL, implies_true, and_self]; done) | fail)) only [evS, evZ, evK, evB, evL, evR, Nat.reduceBEq, Nat.reduceAdd, Nat.reduceLeDiff, boxR, rboxR, allocR, fldR, binI, unR, pickR, mknilR, mkslR, buildSlR, buildR, extR, convI, eqB, evU, wrap64]) | (with_reducible intro _) | ((with_reducible apply And.intro); omega)))
    (refine condX_intro (fun h2 => ?_) (fun h2 => ?_)) <;> (try simp only [decide_eq_true_eq, decide_eq_false_iff_not, Bool.not_eq_true', Bool.not_eq_false', Bool.and_eq_true, Bool.or_eq_true, not_true_eq_false, not_false_eq_true] at h2)
    · (repeat (first | (simp (disch := (first | omega | (simp only [evF, evL, implies_true, and_self]; done) | fail)) only [evS, evZ, evK, evB, evL, evR, Nat.reduceBEq, Nat.reduceAdd, Nat.reduceLeDiff, boxR, rboxR, allocR, fldR, binI, unR, pickR, mknilR, mkslR, buildSlR, buildR, extR, convI, eqB, evU, wrap64, rs_slices_IndexFunc_int_int]) | (with_reducible intro _) | ((with_reducible apply And.intro); omega)))
      have e : l.findIdx? p = some i := by
        rw [List.findIdx?_eq_some_iff_getElem]
        exact ⟨hi', h2, fun j hj => by rw [hno j (by omega) hj]; simp⟩
      rw [e]
      exact ⟨_, .int _ _ _, rfl⟩
    · (repeat (first | (simp (disch := (first | omega | (simp only [evF, evL, implies_true, and_self]; done) | fail)) only [evS, evZ, evK, evB, evL, evR, Nat.reduceBEq, Nat.reduceAdd, Nat.reduceLeDiff, boxR, rboxR, allocR, fldR, binI, unR, pickR, mknilR, mkslR, buildSlR, buildR, extR, convI, eqB, evU, wrap64]) | (with_reducible intro _) | ((with_reducible apply And.intro); omega)))
      refine ⟨i + 1, ⟨by omega, fun j hj hji => ?_⟩, by omega, Ent.keep rfl (by (try simp [subK, Kn.get, beq_eq]) <;> (repeat' with_reducible apply And.intro) <;> first | rfl | omega | (simp; done))⟩
      by_cases hje : j = i
      · subst hje; simpa using h2
      · exact hno j hj (by omega)
  · unfold ac_slices_IndexFunc_int_int_k1
    (repeat (first | (simp (disch := (first | omega | (simp only [evF, evL, implies_true, and_self]; done) | fail)) only [evS, evZ, evK, evB, evL, evR, Nat.reduceBEq, Nat.reduceAdd, Nat.reduceLeDiff, boxR, rboxR, allocR, fldR, binI, unR, pickR, mknilR, mkslR, buildSlR, buildR, extR, convI, eqB, evU, wrap64, rs_slices_IndexFunc_int_int]) | (with_reducible intro _) | ((with_reducible apply And.intro); omega)))
    have e : l.findIdx? p = none := by
      rw [List.findIdx?_eq_none_iff]
      intro x hx
      obtain ⟨j, hj, rfl⟩ := List.mem_iff_getElem.1 hx
      exact hno j hj (by omega)
    rw [e]
    exact ⟨_, .int _ _ _, rfl⟩

/-- A row that is written from the front, read behind. -/
def cur (K l : List Int) : List Int := K ++ l.drop K.length
theorem cur_len {K l : List Int} (h : K.length ≤ l.length) : (cur K l).length = l.length := by simp [cur]; omega
theorem cur_get {K l : List Int} {j : Nat} (h : K.length ≤ j) (hj : j < l.length) : (cur K l)[j]? = some l[j] := by
  unfold cur
  rw [List.getElem?_append_right h, List.getElem?_drop, show K.length + (j - K.length) = j by omega, List.getElem?_eq_getElem hj]
theorem cur_getD {K l : List Int} {j : Nat} (h : K.length ≤ j) (hj : j < l.length) : ((cur K l).map cI).getD j [] = [.int .i64 l[j]] := by
  simp [List.getD_eq_getElem?_getD, cur_get h hj]
theorem cur_set {K l : List Int} {v : Int} (h : K.length < l.length) : (cur K l).set K.length v = cur (K ++ [v]) l := by
  unfold cur
  rw [List.set_append_right _ _ (Nat.le_refl _), Nat.sub_self, List.drop_eq_getElem_cons h, List.set_cons_zero]
  simp
theorem cur_setI {K l : List Int} {v : Int} (h : K.length < l.length) : ((cur K l).map cI).set K.length [.int .i64 v] = (cur (K ++ [v]) l).map cI := by
  rw [← cur_set h, List.map_set]

/-- What deleting leaves in the row: the elements kept, then what is not known of any more. -/
theorem slices_DeleteFunc_ok (l : List Int) (g : Nat) (fv : AV) (p : Int → Bool) (hp : PredFn fv p) (hl : l.length ≤ 1000) :
    CallOk Try.prog f_slices_DeleteFunc_int_int [.own 0 0 g 0 l.length, fv] [(0, .row 1 (l.map cI) g)] 1
      (fun v H nx => ∃ m, v = .own 0 0 g 0 (l.filter fun x => !p x).length ∧ H = [(0, .row 1 (((l.filter fun x => !p x) ++ m).map cI) g)] ∧ nx = 1) := by
  refine call_ent (fn_x cf_slices_DeleteFunc_int_int rfl ?_)
  unfold ac_slices_DeleteFunc_int_int
  have hB : big = 9223372036854775807 := rfl
  (repeat (first | (simp (disch := (first | omega | (simp only [evF, evL, implies_true, and_self]; done) | fail)) only [evS, evZ, evK, evB, evL, evR, Nat.reduceBEq, Nat.reduceAdd, Nat.reduceLeDiff, boxR, rboxR, allocR, fldR, binI, unR, pickR, mknilR, mkslR, buildSlR, buildR, extR, convI, eqB, evU, wrap64]) | (with_reducible intro _) | ((with_reducible apply And.intro); omega)))
  refine callX_fix (call_fix (D := fun r _ => r = 0) (slices_IndexFunc_ok l fv p hp) (.cons (vw_ints rfl rfl (by omega)) (.cons (vw_pred hp) .nil)) (.inl rfl)) ?_
  cases hf : l.findIdx? p with
  | none =>
    have e : l.filter (fun x => !p x) = l := by
      rw [List.filter_eq_self]
      intro x hx
      rw [List.findIdx?_eq_none_iff] at hf
      simp [hf x hx]
    (repeat (first | (simp (disch := (first | omega | (simp only [evF, evL, implies_true, and_self]; done) | fail)) only [evS, evZ, evK, evB, evL, evR, Nat.reduceBEq, Nat.reduceAdd, Nat.reduceLeDiff, boxR, rboxR, allocR, fldR, binI, unR, pickR, mknilR, mkslR, buildSlR, buildR, extR, convI, eqB, evU, wrap64, rs_slices_DeleteFunc_int_int]) | (with_reducible intro _) | ((with_reducible apply And.intro); omega)))
    refine ⟨.own 0 0 g 0 l.length, [(0, .row 1 (l.map cI) g)], 1, ?_, [], by rw [e], by rw [e, List.append_nil], rfl⟩
    exact (Ent.tabB [(0, 0, 0)] [] rfl rfl rfl (by (try simp only [evW, evK, evB, evL, Nat.reduceBEq, Nat.reduceAdd, Nat.reduceSub, Nat.reduceLeDiff, Nat.reduceLT, implies_true, and_self, Int.natCast_zero, Int.natCast_one, Int.cast_ofNat_Int, evV, encInts, encNats, encBools, encP]) <;> (repeat' with_reducible apply And.intro) <;> first | omega | exact vw_nats rfl rfl (by omega) | exact vw_ints rfl rfl (by omega) | exact vw_bools rfl rfl (by omega) | exact rowV_fe (fun _ => rfl) | exact rowV_fe_start (c := cN) (fun _ => rfl) rfl | exact rowsV_fam (fun _ => rfl) (by decide) ⟨rfl, rfl⟩ trivial | exact rowsV_fam (fun _ => rfl) (by decide) (fun _ _ => ⟨rfl, rfl⟩) trivial | (simp; done)) (by (try simp only [evW, evK, evB, evL, Nat.reduceBEq, Nat.reduceAdd, Nat.reduceSub, Nat.reduceLeDiff, Nat.reduceLT, implies_true, and_self, Int.natCast_zero, Int.natCast_one, Int.cast_ofNat_Int, evV, encInts, encNats, encBools, encP]) <;> (repeat' with_reducible apply And.intro) <;> first | omega | exact vw_nats rfl rfl (by omega) | exact vw_ints rfl rfl (by omega) | exact vw_bools rfl rfl (by omega) | exact rowV_fe (fun _ => rfl) | exact rowV_fe_start (c := cN) (fun _ => rfl) rfl | exact rowsV_fam (fun _ => rfl) (by decide) ⟨rfl, rfl⟩ trivial | exact rowsV_fam (fun _ => rfl) (by decide) (fun _ _ => ⟨rfl, rfl⟩) trivial | (simp; done)))
  | some i0 =>
    rw [List.findIdx?_eq_some_iff_getElem] at hf
    obtain ⟨hi0, hpi, hno⟩ := hf
    (repeat (first | (simp (disch := (first | omega | (simp only [evF, evL, implies_true, and_self]; done) | fail)) only [evS, evZ, evK, evB, evL, evR, Nat.reduceBEq, Nat.reduceAdd, Nat.reduceLeDiff, boxR, rboxR, allocR, fldR, binI, unR, pickR, mknilR, mkslR, buildSlR, buildR, extR, convI, eqB, evU, wrap64]) | (with_reducible intro _) | ((with_reducible apply And.intro); omega)))
    (refine condX_intro (fun h => ?_) (fun h => ?_)) <;> (try simp only [decide_eq_true_eq, decide_eq_false_iff_not, Bool.not_eq_true', Bool.not_eq_false', Bool.and_eq_true, Bool.or_eq_true, not_true_eq_false, not_false_eq_true] at h)
    · omega
    (repeat (first | (simp (disch := (first | omega | (simp only [evF, evL, implies_true, and_self]; done) | fail)) only [evS, evZ, evK, evB, evL, evR, Nat.reduceBEq, Nat.reduceAdd, Nat.reduceLeDiff, boxR, rboxR, allocR, fldR, binI, unR, pickR, mknilR, mkslR, buildSlR, buildR, extR, convI, eqB, evU, wrap64]) | (with_reducible intro _) | ((with_reducible apply And.intro); omega)))
    let K := fun j => (l.take j).filter fun x => !p x
    have hK0 : K (i0 + 1) = l.take i0 := by
      simp only [K]
      rw [filter_take_succ hi0, hpi]
      simp only [Bool.not_true, Bool.false_eq_true, if_false, List.append_nil]
      rw [List.filter_eq_self]
      intro x hx
      obtain ⟨j, hj, rfl⟩ := List.mem_iff_getElem.1 hx
      simp only [List.length_take] at hj
      rw [List.getElem_take]
      simpa using hno j (by omega)
    have hKl : ∀ j, i0 < j → j ≤ l.length → (K j).length < j := by
      intro j h1 h2
      induction j with
      | zero => omega
      | succ j ih =>
        by_cases hj : j = i0
        · subst hj; rw [hK0]; simp; omega
        · have := ih (by omega) (by omega)
          simp only [K] at this ⊢
          rw [filter_take_succ (show j < l.length by omega)]
          rw [List.length_append]
          split <;> simp <;> omega
    have hstart : cur (K (i0 + 1)) l = l := by
      rw [hK0]
      unfold cur
      rw [List.length_take, Nat.min_eq_left (by omega), List.take_append_drop]
    have hK0l : (K (i0 + 1)).length = i0 := by rw [hK0]; simp; omega
    refine loopX_intro (fun j : Nat => ([(0, .own 0 0 g 0 l.length), (1, fv), (5, .int .i64 (K j).length), (6, .int .i64 j)], [(0, .row 1 ((cur (K j) l).map cI) g)])) 1 (fun j => i0 < j ∧ j ≤ l.length) (fun j => l.length - j) (i0 + 1) ⟨by omega, by omega⟩ (Ent.tabB [(0, 0, 0)] [] rfl rfl rfl ?_ ?_) ?_
    · simp only [evW, evK, evB, evL, Nat.reduceBEq, Nat.reduceAdd, Nat.reduceSub, Nat.reduceLeDiff, Nat.reduceLT, implies_true, and_self, Int.natCast_zero, Int.natCast_one, Int.cast_ofNat_Int, evV, encInts, encNats, encBools, encP, hstart]
    · simp only [evW, evK, evB, evL, Nat.reduceBEq, Nat.reduceAdd, Nat.reduceSub, Nat.reduceLeDiff, Nat.reduceLT, implies_true, and_self, Int.natCast_zero, Int.natCast_one, Int.cast_ofNat_Int, evV, encInts, encNats, encBools, encP, hK0l]
      exact vw_pred hp
    intro j ⟨hj1, hj2⟩ wf
    have hkl := hKl j hj1 hj2
    unfold ac_slices_DeleteFunc_int_int_l0
    (repeat (first | (simp (disch := (first | omega | (simp only [evF, evL, implies_true, and_self]; done) | fail)) only [evS, evZ, evK, evB, evL, evR, Nat.reduceBEq, Nat.reduceAdd, Nat.reduceLeDiff, boxR, rboxR, allocR, fldR, binI, unR, pickR, mknilR, mkslR, buildSlR, buildR, extR, convI, eqB, evU, wrap64]) | (with_reducible intro _) | ((with_reducible apply And.intro); omega)))
    (refine condX_intro (fun h2 => ?_) (fun h2 => ?_)) <;> (try simp only [decide_eq_true_eq, decide_eq_false_iff_not, Bool.not_eq_true', Bool.not_eq_false', Bool.and_eq_true, Bool.or_eq_true, not_true_eq_false, not_false_eq_true] at h2)
    · have hj' : j < l.length := by omega
      have hst : K (j + 1) = K j ++ if (!p l[j]) = true then [l[j]] else [] := filter_take_succ hj'
      have hkl2 := hKl (j + 1) (by omega) (by omega)
      have hcl := cur_len (K := K j) (l := l) (by omega)
      (repeat (first | (simp (disch := (first | omega | (simp only [evF, evL, implies_true, and_self]; done) | fail)) only [evS, evZ, evK, evB, evL, evR, Nat.reduceBEq, Nat.reduceAdd, Nat.reduceLeDiff, boxR, rboxR, allocR, fldR, binI, unR, pickR, mknilR, mkslR, buildSlR, buildR, extR, convI, eqB, evU, wrap64, cur_getD (K := K j) (l := l) (by omega) hj']) | (with_reducible intro _) | ((with_reducible apply And.intro); omega)))
      refine callv_pred hp ?_
      (repeat (first | (simp (disch := (first | omega | (simp only [evF, evL, implies_true, and_self]; done) | fail)) only [evS, evZ, evK, evB, evL, evR, Nat.reduceBEq, Nat.reduceAdd, Nat.reduceLeDiff, boxR, rboxR, allocR, fldR, binI, unR, pickR, mknilR, mkslR, buildSlR, buildR, extR, convI, eqB, evU, wrap64]) | (with_reducible intro _) | ((with_reducible apply And.intro); omega)))
      (refine condX_intro (fun h3 => ?_) (fun h3 => ?_)) <;> (try simp only [decide_eq_true_eq, decide_eq_false_iff_not, Bool.not_eq_true', Bool.not_eq_false', Bool.and_eq_true, Bool.or_eq_true, not_true_eq_false, not_false_eq_true] at h3)
      · rw [h3] at hst
        simp only [Bool.not_false, if_true] at hst
        (repeat (first | (simp (disch := (first | omega | (simp only [evF, evL, implies_true, and_self]; done) | fail)) only [evS, evZ, evK, evB, evL, evR, Nat.reduceBEq, Nat.reduceAdd, Nat.reduceLeDiff, boxR, rboxR, allocR, fldR, binI, unR, pickR, mknilR, mkslR, buildSlR, buildR, extR, convI, eqB, evU, wrap64]) | (with_reducible intro _) | ((with_reducible apply And.intro); omega)))
        rw [cur_setI (by omega), ← hst]
        exact ⟨j + 1, ⟨by omega, by omega⟩, by omega, Ent.tabB [(0, 0, 0)] [] rfl rfl rfl (by simp only [evW, evK, evB, evL, Nat.reduceBEq, Nat.reduceAdd, Nat.reduceSub, Nat.reduceLeDiff, Nat.reduceLT, implies_true, and_self, Int.natCast_zero, Int.natCast_one, Int.cast_ofNat_Int, evV, encInts, encNats, encBools, encP]) (by simp only [evW, evK, evB, evL, Nat.reduceBEq, Nat.reduceAdd, Nat.reduceSub, Nat.reduceLeDiff, Nat.reduceLT, implies_true, and_self, Int.natCast_zero, Int.natCast_one, Int.cast_ofNat_Int, evV, encInts, encNats, encBools, encP, hst]; exact vw_pred hp)⟩
      · have h3' : p l[j] = true := by simpa using h3
        rw [h3'] at hst
        simp only [Bool.not_true, Bool.false_eq_true, if_false, List.append_nil] at hst
        (repeat (first | (simp (disch := (first | omega | (simp only [evF, evL, implies_true, and_self]; done) | fail)) only [evS, evZ, evK, evB, evL, evR, Nat.reduceBEq, Nat.reduceAdd, Nat.reduceLeDiff, boxR, rboxR, allocR, fldR, binI, unR, pickR, mknilR, mkslR, buildSlR, buildR, extR, convI, eqB, evU, wrap64]) | (with_reducible intro _) | ((with_reducible apply And.intro); omega)))
        rw [← hst]
        exact ⟨j + 1, ⟨by omega, by omega⟩, by omega, Ent.tabB [(0, 0, 0)] [] rfl rfl rfl (by simp only [evW, evK, evB, evL, Nat.reduceBEq, Nat.reduceAdd, Nat.reduceSub, Nat.reduceLeDiff, Nat.reduceLT, implies_true, and_self, Int.natCast_zero, Int.natCast_one, Int.cast_ofNat_Int, evV, encInts, encNats, encBools, encP]) (by simp only [evW, evK, evB, evL, Nat.reduceBEq, Nat.reduceAdd, Nat.reduceSub, Nat.reduceLeDiff, Nat.reduceLT, implies_true, and_self, Int.natCast_zero, Int.natCast_one, Int.cast_ofNat_Int, evV, encInts, encNats, encBools, encP]; exact vw_pred hp)⟩
    · obtain rfl : j = l.length := by omega
      have hKe : K l.length = l.filter fun x => !p x := by simp only [K]; rw [List.take_length]
      have hcl := cur_len (K := K l.length) (l := l) (by omega)
      unfold ac_slices_DeleteFunc_int_int_k1
      have hz : (((l.length : Int) - (K l.length).length).toNat) = l.length - (K l.length).length := by omega
      have hclr : ((cur (K l.length) l).map cI).take (K l.length).length ++ List.replicate (l.length - (K l.length).length) [AV.int .i64 0] ++ ((cur (K l.length) l).map cI).drop ((K l.length).length + (l.length - (K l.length).length)) = (K l.length ++ List.replicate (l.length - (K l.length).length) 0).map cI := by
        rw [List.drop_of_length_le (by rw [List.length_map, hcl]; omega), List.append_nil, ← List.map_take, List.map_append, List.map_replicate]
        congr 2
        unfold cur
        rw [List.take_append_of_le_length (Nat.le_refl _), List.take_length]
      (repeat (first | (simp (disch := (first | omega | (simp only [evF, evL, implies_true, and_self]; done) | fail)) only [evS, evZ, evK, evB, evL, evR, Nat.reduceBEq, Nat.reduceAdd, Nat.reduceLeDiff, boxR, rboxR, allocR, fldR, binI, unR, pickR, mknilR, mkslR, buildSlR, buildR, extR, convI, eqB, evU, wrap64, rs_slices_DeleteFunc_int_int, hz, hclr]) | (with_reducible intro _) | ((with_reducible apply And.intro); omega)))
      refine ⟨.own 0 0 g 0 (l.filter fun x => !p x).length, [(0, .row 1 (((l.filter fun x => !p x) ++ List.replicate (l.length - (K l.length).length) 0).map cI) g)], 1, ?_, _, rfl, rfl, rfl⟩
      rw [← hKe]
      exact (Ent.tabB [(0, 0, 0)] [] rfl rfl rfl (by (try simp only [evW, evK, evB, evL, Nat.reduceBEq, Nat.reduceAdd, Nat.reduceSub, Nat.reduceLeDiff, Nat.reduceLT, implies_true, and_self, Int.natCast_zero, Int.natCast_one, Int.cast_ofNat_Int, evV, encInts, encNats, encBools, encP, List.map_replicate]) <;> (repeat' with_reducible apply And.intro) <;> first | omega | exact vw_nats rfl rfl (by omega) | exact vw_ints rfl rfl (by omega) | exact vw_bools rfl rfl (by omega) | exact rowV_fe (fun _ => rfl) | exact rowV_fe_start (c := cN) (fun _ => rfl) rfl | exact rowsV_fam (fun _ => rfl) (by decide) ⟨rfl, rfl⟩ trivial | exact rowsV_fam (fun _ => rfl) (by decide) (fun _ _ => ⟨rfl, rfl⟩) trivial | (simp; done)) (by (try simp only [evW, evK, evB, evL, Nat.reduceBEq, Nat.reduceAdd, Nat.reduceSub, Nat.reduceLeDiff, Nat.reduceLT, implies_true, and_self, Int.natCast_zero, Int.natCast_one, Int.cast_ofNat_Int, evV, encInts, encNats, encBools, encP, List.map_replicate]) <;> (repeat' with_reducible apply And.intro) <;> first | omega | exact vw_nats rfl rfl (by omega) | exact vw_ints rfl rfl (by omega) | exact vw_bools rfl rfl (by omega) | exact rowV_fe (fun _ => rfl) | exact rowV_fe_start (c := cN) (fun _ => rfl) rfl | exact rowsV_fam (fun _ => rfl) (by decide) ⟨rfl, rfl⟩ trivial | exact rowsV_fam (fun _ => rfl) (by decide) (fun _ _ => ⟨rfl, rfl⟩) trivial | (simp; done)))

end Go.Ab

namespace Go.Ab
open Go.RowKit Go.Proofs

theorem edges1_ok (g : Gr) (x : Int) : PureFn Try.prog f_dominator_edges_1 [.int .i64 x, .iptr 2 fun j => g.cells.getD j .undef] (· = .bool (!edgeOk g.blocks.length x)) := by
  refine fn_x cf_dominator_edges_1 rfl ?_
  unfold ac_dominator_edges_1
  (repeat (first | (simp (disch := (first | omega | (simp only [evF, evL, implies_true, and_self]; done) | fail)) only [evS, evZ, evK, evB, evL, evR, Nat.reduceBEq, Nat.reduceAdd, Nat.reduceLeDiff, boxR, rboxR, allocR, fldR, binI, unR, pickR, mknilR, mkslR, buildSlR, buildR, extR, convI, eqB, evU, wrap64, Gr.cells]) | (with_reducible intro _) | ((with_reducible apply And.intro); omega)))
  generalize h : decide (x < 0) = hb; cases hb <;> simp only [decide_eq_true_eq, decide_eq_false_iff_not, ne_eq, Classical.not_not] at h
  · (repeat (first | (simp (disch := (first | omega | (simp only [evF, evL, implies_true, and_self]; done) | fail)) only [evS, evZ, evK, evB, evL, evR, Nat.reduceBEq, Nat.reduceAdd, Nat.reduceLeDiff, boxR, rboxR, allocR, fldR, binI, unR, pickR, mknilR, mkslR, buildSlR, buildR, extR, convI, eqB, evU, wrap64, rs_dominator_edges_1]) | (with_reducible intro _) | ((with_reducible apply And.intro); omega)))
    refine ⟨_, .bool _ _, ?_⟩
    have h0 : 0 ≤ x := by omega
    by_cases h2 : x < g.blocks.length
    · have : ¬ (g.blocks.length : Int) ≤ x := by omega
      simp [edgeOk, h0, h2, this]
    · have : (g.blocks.length : Int) ≤ x := by omega
      simp [edgeOk, h0, h2, this]
  · (repeat (first | (simp (disch := (first | omega | (simp only [evF, evL, implies_true, and_self]; done) | fail)) only [evS, evZ, evK, evB, evL, evR, Nat.reduceBEq, Nat.reduceAdd, Nat.reduceLeDiff, boxR, rboxR, allocR, fldR, binI, unR, pickR, mknilR, mkslR, buildSlR, buildR, extR, convI, eqB, evU, wrap64, rs_dominator_edges_1]) | (with_reducible intro _) | ((with_reducible apply And.intro); omega)))
    refine ⟨_, .bool _ _, ?_⟩
    simp [edgeOk, h]

theorem edges_pred (g : Gr) : PredFn (.fn (.func f_dominator_edges_1) [.iptr 2 fun j => g.cells.getD j .undef]) (fun x => !edgeOk g.blocks.length x) :=
  ⟨_, _, rfl, by kernel_rfl, rfl, edges1_ok g⟩

theorem slices_Clone_ok (l : List Int) (hl : l.length ≤ 1000) : CallOk Try.prog f_slices_Clone_int_int [encInts l] [] 0 (fun v H nx => v = .own 0 0 0 0 l.length ∧ H = [(0, .row 1 (l.map cI) 0)] ∧ nx = 1) := by
  refine call_ent (fn_x cf_slices_Clone_int_int rfl ?_)
  unfold ac_slices_Clone_int_int
  have hB : big = 9223372036854775807 := rfl
  have hel : ∀ H, elsOf 1 (encL 1 (fun n : Int => [AV.int .i64 n]) l) H = some (l.map fun n => [AV.int .i64 n]) := fun H => elsOf_encL (fun _ _ => rfl)
  (repeat (first | (simp (disch := (first | omega | (simp only [evF, evL, implies_true, and_self]; done) | fail)) only [evS, evZ, evK, evB, evL, evR, Nat.reduceBEq, Nat.reduceAdd, Nat.reduceLeDiff, boxR, rboxR, allocR, fldR, binI, unR, pickR, mknilR, mkslR, buildSlR, buildR, extR, convI, eqB, evU, wrap64, encInts, nilB_encL]) | (with_reducible intro _) | ((with_reducible apply And.intro); omega)))
  cases h0 : (l.length == 0) with
  | true =>
    have e : l = [] := List.eq_nil_of_length_eq_zero (by simpa using h0)
    subst e
    (repeat (first | (simp (disch := (first | omega | (simp only [evF, evL, implies_true, and_self]; done) | fail)) only [evS, evZ, evK, evB, evL, evR, Nat.reduceBEq, Nat.reduceAdd, Nat.reduceLeDiff, boxR, rboxR, allocR, fldR, binI, unR, pickR, mknilR, mkslR, buildSlR, buildR, extR, convI, eqB, evU, wrap64]) | (with_reducible intro _) | ((with_reducible apply And.intro); omega)))
    rename_i b
    cases b
    · (repeat (first | (simp (disch := (first | omega | (simp only [evF, evL, implies_true, and_self]; done) | fail)) only [evS, evZ, evK, evB, evL, evR, Nat.reduceBEq, Nat.reduceAdd, Nat.reduceLeDiff, boxR, rboxR, allocR, fldR, binI, unR, pickR, mknilR, mkslR, buildSlR, buildR, extR, convI, eqB, evU, wrap64, hel, rs_slices_Clone_int_int]) | (with_reducible intro _) | ((with_reducible apply And.intro); omega)))
      refine ⟨.own 0 0 0 0 0, [(0, .row 1 [] 0)], 1, ?_, rfl, rfl, rfl⟩
      exact (Ent.tab [(0, 1, 1)] [] rfl (by (try simp only [evW, evK, evB, evL, Nat.reduceBEq, Nat.reduceAdd, Nat.reduceSub, Nat.reduceLeDiff, Nat.reduceLT, implies_true, and_self, Int.natCast_zero, Int.natCast_one, Int.cast_ofNat_Int, evV, encInts, encNats, encBools, encP]) <;> (repeat' with_reducible apply And.intro) <;> first | omega | exact vw_nats rfl rfl (by omega) | exact vw_ints rfl rfl (by omega) | exact vw_bools rfl rfl (by omega) | exact rowV_fe (fun _ => rfl) | exact rowV_fe_start (c := cN) (fun _ => rfl) rfl | exact rowsV_fam (fun _ => rfl) (by decide) ⟨rfl, rfl⟩ trivial | exact rowsV_fam (fun _ => rfl) (by decide) (fun _ _ => ⟨rfl, rfl⟩) trivial | (simp; done)) (by (try simp only [evW, evK, evB, evL, Nat.reduceBEq, Nat.reduceAdd, Nat.reduceSub, Nat.reduceLeDiff, Nat.reduceLT, implies_true, and_self, Int.natCast_zero, Int.natCast_one, Int.cast_ofNat_Int, evV, encInts, encNats, encBools, encP]) <;> (repeat' with_reducible apply And.intro) <;> first | omega | exact vw_nats rfl rfl (by omega) | exact vw_ints rfl rfl (by omega) | exact vw_bools rfl rfl (by omega) | exact rowV_fe (fun _ => rfl) | exact rowV_fe_start (c := cN) (fun _ => rfl) rfl | exact rowsV_fam (fun _ => rfl) (by decide) ⟨rfl, rfl⟩ trivial | exact rowsV_fam (fun _ => rfl) (by decide) (fun _ _ => ⟨rfl, rfl⟩) trivial | (simp; done)))
    · (repeat (first | (simp (disch := (first | omega | (simp only [evF, evL, implies_true, and_self]; done) | fail)) only [evS, evZ, evK, evB, evL, evR, Nat.reduceBEq, Nat.reduceAdd, Nat.reduceLeDiff, boxR, rboxR, allocR, fldR, binI, unR, pickR, mknilR, mkslR, buildSlR, buildR, extR, convI, eqB, evU, wrap64, rs_slices_Clone_int_int]) | (with_reducible intro _) | ((with_reducible apply And.intro); omega)))
      refine ⟨.own 0 0 0 0 0, [(0, .row 1 [] 0)], 1, ?_, rfl, rfl, rfl⟩
      exact (Ent.tab [(0, 1, 0)] [] rfl (by (try simp only [evW, evK, evB, evL, Nat.reduceBEq, Nat.reduceAdd, Nat.reduceSub, Nat.reduceLeDiff, Nat.reduceLT, implies_true, and_self, Int.natCast_zero, Int.natCast_one, Int.cast_ofNat_Int, evV, encInts, encNats, encBools, encP]) <;> (repeat' with_reducible apply And.intro) <;> first | omega | exact vw_nats rfl rfl (by omega) | exact vw_ints rfl rfl (by omega) | exact vw_bools rfl rfl (by omega) | exact rowV_fe (fun _ => rfl) | exact rowV_fe_start (c := cN) (fun _ => rfl) rfl | exact rowsV_fam (fun _ => rfl) (by decide) ⟨rfl, rfl⟩ trivial | exact rowsV_fam (fun _ => rfl) (by decide) (fun _ _ => ⟨rfl, rfl⟩) trivial | (simp; done)) (by (try simp only [evW, evK, evB, evL, Nat.reduceBEq, Nat.reduceAdd, Nat.reduceSub, Nat.reduceLeDiff, Nat.reduceLT, implies_true, and_self, Int.natCast_zero, Int.natCast_one, Int.cast_ofNat_Int, evV, encInts, encNats, encBools, encP]) <;> (repeat' with_reducible apply And.intro) <;> first | omega | exact vw_nats rfl rfl (by omega) | exact vw_ints rfl rfl (by omega) | exact vw_bools rfl rfl (by omega) | exact rowV_fe (fun _ => rfl) | exact rowV_fe_start (c := cN) (fun _ => rfl) rfl | exact rowsV_fam (fun _ => rfl) (by decide) ⟨rfl, rfl⟩ trivial | exact rowsV_fam (fun _ => rfl) (by decide) (fun _ _ => ⟨rfl, rfl⟩) trivial | (simp; done)))
  | false =>
    (repeat (first | (simp (disch := (first | omega | (simp only [evF, evL, implies_true, and_self]; done) | fail)) only [evS, evZ, evK, evB, evL, evR, Nat.reduceBEq, Nat.reduceAdd, Nat.reduceLeDiff, boxR, rboxR, allocR, fldR, binI, unR, pickR, mknilR, mkslR, buildSlR, buildR, extR, convI, eqB, evU, wrap64, hel, rs_slices_Clone_int_int]) | (with_reducible intro _) | ((with_reducible apply And.intro); omega)))
    refine ⟨.own 0 0 0 0 l.length, [(0, .row 1 (l.map cI) 0)], 1, ?_, rfl, rfl, rfl⟩
    exact (Ent.tab [(0, 1, 1)] [] rfl (by (try simp only [evW, evK, evB, evL, Nat.reduceBEq, Nat.reduceAdd, Nat.reduceSub, Nat.reduceLeDiff, Nat.reduceLT, implies_true, and_self, Int.natCast_zero, Int.natCast_one, Int.cast_ofNat_Int, evV, encInts, encNats, encBools, encP]) <;> (repeat' with_reducible apply And.intro) <;> first | omega | exact vw_nats rfl rfl (by omega) | exact vw_ints rfl rfl (by omega) | exact vw_bools rfl rfl (by omega) | exact rowV_fe (fun _ => rfl) | exact rowV_fe_start (c := cN) (fun _ => rfl) rfl | exact rowsV_fam (fun _ => rfl) (by decide) ⟨rfl, rfl⟩ trivial | exact rowsV_fam (fun _ => rfl) (by decide) (fun _ _ => ⟨rfl, rfl⟩) trivial | (simp; done)) (by (try simp only [evW, evK, evB, evL, Nat.reduceBEq, Nat.reduceAdd, Nat.reduceSub, Nat.reduceLeDiff, Nat.reduceLT, implies_true, and_self, Int.natCast_zero, Int.natCast_one, Int.cast_ofNat_Int, evV, encInts, encNats, encBools, encP]) <;> (repeat' with_reducible apply And.intro) <;> first | omega | exact vw_nats rfl rfl (by omega) | exact vw_ints rfl rfl (by omega) | exact vw_bools rfl rfl (by omega) | exact rowV_fe (fun _ => rfl) | exact rowV_fe_start (c := cN) (fun _ => rfl) rfl | exact rowsV_fam (fun _ => rfl) (by decide) ⟨rfl, rfl⟩ trivial | exact rowsV_fam (fun _ => rfl) (by decide) (fun _ _ => ⟨rfl, rfl⟩) trivial | (simp; done)))

theorem Gr.targets_le {g : Gr} (hg : g.small) {k : Nat} (hk : k < g.blocks.length) : g.blocks[k].targets.length ≤ 1000 := hg.2 _ (List.getElem_mem hk)

theorem suc_edges {g : Gr} {k : Nat} (hk : k < g.blocks.length) : encNats (suc g.E k) = encInts (g.blocks[k].targets.filter (edgeOk g.blocks.length)) := by
  rw [← encInts_nats]
  congr 1
  simp only [suc, Gr.E, getD_map hk, List.map_map]
  conv => rhs; rw [← List.map_id (List.filter _ _)]
  refine List.map_congr_left fun x hx => ?_
  simp only [List.mem_filter, edgeOk, Bool.and_eq_true, decide_eq_true_eq] at hx
  simp only [Function.comp, id]
  omega

/-- The beginning of a row, seen as a list that is only read. -/
theorem vw_prefI {H H2 : AH} {σ : Nat → Nat → Option (Nat × Nat × Nat)} {D : Nat → Nat → Prop} {t : Bool} {r q g : Nat} {l m : List Int} (hD : D r q) (hg : H.get r q = some (.row 1 ((l ++ m).map cI) g)) (hb : l.length ≤ big) :
    Vw H H2 σ D t (.own r q g 0 l.length) (encInts l) := by
  refine .frz t r q g 0 l.length 1 ((l ++ m).map cI) _ hD hg hb (by simp) (fun i j hi hj => ?_)
  obtain rfl : j = 0 := by omega
  rw [Nat.zero_add, getD_map (show i < (l ++ m).length by simp; omega), getD_map hi, List.getElem_append_left hi]
  exact .int _ _ _

theorem dominator_edges_ok (g : Gr) (hg : g.small) (k : Nat) (hk : k < g.blocks.length) : PureFn Try.prog f_dominator_edges [.agg g.cells, .int .i64 k] (· = encNats (suc g.E k)) := by
  have htl := hg.2 _ (List.getElem_mem hk)
  rw [suc_edges hk]
  refine fn_x cf_dominator_edges rfl ?_
  unfold ac_dominator_edges
  have hB : big = 9223372036854775807 := rfl
  have e : (g.blocks.map Blk.cells).getD k [] = g.blocks[k].cells := map_getD (List.getElem?_eq_getElem hk)
  (repeat (first | (simp (disch := (first | omega | (simp only [evF, evL, implies_true, and_self]; done) | fail)) only [evS, evZ, evK, evB, evL, evR, Nat.reduceBEq, Nat.reduceAdd, Nat.reduceLeDiff, boxR, rboxR, allocR, fldR, binI, unR, pickR, mknilR, mkslR, buildSlR, buildR, extR, convI, eqB, evU, wrap64, Gr.cells, e, Blk.cells]) | (with_reducible intro _) | ((with_reducible apply And.intro); omega)))
  generalize hbk : g.blocks[k] = b at htl ⊢
  (refine condX_intro (fun h => ?_) (fun h => ?_)) <;> (try simp only [decide_eq_true_eq, decide_eq_false_iff_not, Bool.not_eq_true', Bool.not_eq_false', Bool.and_eq_true, Bool.or_eq_true, not_true_eq_false, not_false_eq_true] at h)
  · (repeat (first | (simp (disch := (first | omega | (simp only [evF, evL, implies_true, and_self]; done) | fail)) only [evS, evZ, evK, evB, evL, evR, Nat.reduceBEq, Nat.reduceAdd, Nat.reduceLeDiff, boxR, rboxR, allocR, fldR, binI, unR, pickR, mknilR, mkslR, buildSlR, buildR, extR, convI, eqB, evU, wrap64, rs_dominator_edges]) | (with_reducible intro _) | ((with_reducible apply And.intro); omega)))
    refine ⟨_, ?_, rfl⟩
    have h0 : b.stmts = [] := List.eq_nil_of_length_eq_zero (by omega)
    have e : b.targets = [] := by simp [Blk.targets, h0]
    rw [e]
    exact vw_ints (l := []) trivial rfl (Nat.zero_le _)
  have h0 : 0 < b.stmts.length := by omega
  obtain ⟨s, hs⟩ : ∃ s, b.stmts[b.stmts.length - 1]? = some s := ⟨_, List.getElem?_eq_getElem (by omega)⟩
  have ht : b.targets = if s.op = 6 then [s.next] else if s.op = 7 then [s.next, s.els] else if s.op = 8 then s.cases else [] := by
    have : b.stmts.getLast? = some s := by rw [List.getLast?_eq_getElem?, hs]
    simp [Blk.targets, this]
  have e2 : (b.stmts.map Stm.cells).getD ((b.stmts.length : Int) - 1).toNat [] = s.cells := by
    rw [show ((b.stmts.length : Int) - 1).toNat = b.stmts.length - 1 by omega]
    exact map_getD hs
  (repeat (first | (simp (disch := (first | omega | (simp only [evF, evL, implies_true, and_self]; done) | fail)) only [evS, evZ, evK, evB, evL, evR, Nat.reduceBEq, Nat.reduceAdd, Nat.reduceLeDiff, boxR, rboxR, allocR, fldR, binI, unR, pickR, mknilR, mkslR, buildSlR, buildR, extR, convI, eqB, evU, wrap64, e2, Stm.cells]) | (with_reducible intro _) | ((with_reducible apply And.intro); omega)))
  refine joinX_intro (fun _ : Unit => ([(2, .iptr 2 fun j => g.cells.getD j .undef), (7, .own 0 0 0 0 b.targets.length)], [(0, .row 1 (b.targets.map cI) 0)])) 1 (fun _ => True) ?_ ?_
  · (repeat (first | (simp (disch := (first | omega | (simp only [evF, evL, implies_true, and_self]; done) | fail)) only [evS, evZ, evK, evB, evL, evR, Nat.reduceBEq, Nat.reduceAdd, Nat.reduceLeDiff, boxR, rboxR, allocR, fldR, binI, unR, pickR, mknilR, mkslR, buildSlR, buildR, extR, convI, eqB, evU, wrap64]) | (with_reducible intro _) | ((with_reducible apply And.intro); omega)))
    (refine condX_intro (fun h => ?_) (fun h => ?_)) <;> (try simp only [decide_eq_true_eq, decide_eq_false_iff_not, Bool.not_eq_true', Bool.not_eq_false', Bool.and_eq_true, Bool.or_eq_true, not_true_eq_false, not_false_eq_true] at h)
    · rw [if_pos h] at ht
      (repeat (first | (simp (disch := (first | omega | (simp only [evF, evL, implies_true, and_self]; done) | fail)) only [evS, evZ, evK, evB, evL, evR, Nat.reduceBEq, Nat.reduceAdd, Nat.reduceLeDiff, boxR, rboxR, allocR, fldR, binI, unR, pickR, mknilR, mkslR, buildSlR, buildR, extR, convI, eqB, evU, wrap64]) | (with_reducible intro _) | ((with_reducible apply And.intro); omega)))
      refine ⟨(), ?_⟩
      rw [ht]
      exact (Ent.tab [(0, 3, 0)] [] rfl (by (try simp only [evW, evK, evB, evL, Nat.reduceBEq, Nat.reduceAdd, Nat.reduceSub, Nat.reduceLeDiff, Nat.reduceLT, implies_true, and_self, Int.natCast_zero, Int.natCast_one, Int.cast_ofNat_Int, evV, encInts, encNats, encBools, encP, Gr.cells]) <;> (repeat' with_reducible apply And.intro) <;> first | omega | exact vw_nats rfl rfl (by omega) | exact vw_ints rfl rfl (by omega) | exact vw_bools rfl rfl (by omega) | exact rowV_fe (fun _ => rfl) | exact rowV_fe_start (c := cN) (fun _ => rfl) rfl | exact rowsV_fam (fun _ => rfl) (by decide) ⟨rfl, rfl⟩ trivial | exact rowsV_fam (fun _ => rfl) (by decide) (fun _ _ => ⟨rfl, rfl⟩) trivial | (simp; done)) (by (try simp only [evW, evK, evB, evL, Nat.reduceBEq, Nat.reduceAdd, Nat.reduceSub, Nat.reduceLeDiff, Nat.reduceLT, implies_true, and_self, Int.natCast_zero, Int.natCast_one, Int.cast_ofNat_Int, evV, encInts, encNats, encBools, encP, Gr.cells]) <;> (repeat' with_reducible apply And.intro) <;> first | omega | exact vw_nats rfl rfl (by omega) | exact vw_ints rfl rfl (by omega) | exact vw_bools rfl rfl (by omega) | exact rowV_fe (fun _ => rfl) | exact rowV_fe_start (c := cN) (fun _ => rfl) rfl | exact rowsV_fam (fun _ => rfl) (by decide) ⟨rfl, rfl⟩ trivial | exact rowsV_fam (fun _ => rfl) (by decide) (fun _ _ => ⟨rfl, rfl⟩) trivial | (simp; done)))
    · rw [if_neg h] at ht
      (repeat (first | (simp (disch := (first | omega | (simp only [evF, evL, implies_true, and_self]; done) | fail)) only [evS, evZ, evK, evB, evL, evR, Nat.reduceBEq, Nat.reduceAdd, Nat.reduceLeDiff, boxR, rboxR, allocR, fldR, binI, unR, pickR, mknilR, mkslR, buildSlR, buildR, extR, convI, eqB, evU, wrap64]) | (with_reducible intro _) | ((with_reducible apply And.intro); omega)))
      (refine condX_intro (fun h => ?_) (fun h => ?_)) <;> (try simp only [decide_eq_true_eq, decide_eq_false_iff_not, Bool.not_eq_true', Bool.not_eq_false', Bool.and_eq_true, Bool.or_eq_true, not_true_eq_false, not_false_eq_true] at h)
      · rw [if_pos h] at ht
        (repeat (first | (simp (disch := (first | omega | (simp only [evF, evL, implies_true, and_self]; done) | fail)) only [evS, evZ, evK, evB, evL, evR, Nat.reduceBEq, Nat.reduceAdd, Nat.reduceLeDiff, boxR, rboxR, allocR, fldR, binI, unR, pickR, mknilR, mkslR, buildSlR, buildR, extR, convI, eqB, evU, wrap64]) | (with_reducible intro _) | ((with_reducible apply And.intro); omega)))
        refine ⟨(), ?_⟩
        rw [ht]
        exact (Ent.tab [(0, 3, 0)] [] rfl (by (try simp only [evW, evK, evB, evL, Nat.reduceBEq, Nat.reduceAdd, Nat.reduceSub, Nat.reduceLeDiff, Nat.reduceLT, implies_true, and_self, Int.natCast_zero, Int.natCast_one, Int.cast_ofNat_Int, evV, encInts, encNats, encBools, encP, Gr.cells]) <;> (repeat' with_reducible apply And.intro) <;> first | omega | exact vw_nats rfl rfl (by omega) | exact vw_ints rfl rfl (by omega) | exact vw_bools rfl rfl (by omega) | exact rowV_fe (fun _ => rfl) | exact rowV_fe_start (c := cN) (fun _ => rfl) rfl | exact rowsV_fam (fun _ => rfl) (by decide) ⟨rfl, rfl⟩ trivial | exact rowsV_fam (fun _ => rfl) (by decide) (fun _ _ => ⟨rfl, rfl⟩) trivial | (simp; done)) (by (try simp only [evW, evK, evB, evL, Nat.reduceBEq, Nat.reduceAdd, Nat.reduceSub, Nat.reduceLeDiff, Nat.reduceLT, implies_true, and_self, Int.natCast_zero, Int.natCast_one, Int.cast_ofNat_Int, evV, encInts, encNats, encBools, encP, Gr.cells]) <;> (repeat' with_reducible apply And.intro) <;> first | omega | exact vw_nats rfl rfl (by omega) | exact vw_ints rfl rfl (by omega) | exact vw_bools rfl rfl (by omega) | exact rowV_fe (fun _ => rfl) | exact rowV_fe_start (c := cN) (fun _ => rfl) rfl | exact rowsV_fam (fun _ => rfl) (by decide) ⟨rfl, rfl⟩ trivial | exact rowsV_fam (fun _ => rfl) (by decide) (fun _ _ => ⟨rfl, rfl⟩) trivial | (simp; done)))
      · rw [if_neg h] at ht
        (repeat (first | (simp (disch := (first | omega | (simp only [evF, evL, implies_true, and_self]; done) | fail)) only [evS, evZ, evK, evB, evL, evR, Nat.reduceBEq, Nat.reduceAdd, Nat.reduceLeDiff, boxR, rboxR, allocR, fldR, binI, unR, pickR, mknilR, mkslR, buildSlR, buildR, extR, convI, eqB, evU, wrap64]) | (with_reducible intro _) | ((with_reducible apply And.intro); omega)))
        (refine condX_intro (fun h => ?_) (fun h => ?_)) <;> (try simp only [decide_eq_true_eq, decide_eq_false_iff_not, Bool.not_eq_true', Bool.not_eq_false', Bool.and_eq_true, Bool.or_eq_true, not_true_eq_false, not_false_eq_true] at h)
        · rw [if_pos h] at ht
          (repeat (first | (simp (disch := (first | omega | (simp only [evF, evL, implies_true, and_self]; done) | fail)) only [evS, evZ, evK, evB, evL, evR, Nat.reduceBEq, Nat.reduceAdd, Nat.reduceLeDiff, boxR, rboxR, allocR, fldR, binI, unR, pickR, mknilR, mkslR, buildSlR, buildR, extR, convI, eqB, evU, wrap64]) | (with_reducible intro _) | ((with_reducible apply And.intro); omega)))
          refine call_own [] 0 _ (slices_Clone_ok s.cases (by rw [← ht]; exact htl)) rfl rfl (by (try simp only [evW, evK, evB, evL, Nat.reduceBEq, Nat.reduceAdd, Nat.reduceSub, Nat.reduceLeDiff, Nat.reduceLT, implies_true, and_self, Int.natCast_zero, Int.natCast_one, Int.cast_ofNat_Int, evV, encInts, encNats, encBools, encP]) <;> (repeat' with_reducible apply And.intro) <;> first | omega | exact vw_nats rfl rfl (by omega) | exact vw_ints rfl rfl (by omega) | exact vw_bools rfl rfl (by omega) | exact rowV_fe (fun _ => rfl) | exact rowV_fe_start (c := cN) (fun _ => rfl) rfl | exact rowsV_fam (fun _ => rfl) (by decide) ⟨rfl, rfl⟩ trivial | exact rowsV_fam (fun _ => rfl) (by decide) (fun _ _ => ⟨rfl, rfl⟩) trivial | (simp; done)) (by (try simp only [evW, evK, evB, evL, Nat.reduceBEq, Nat.reduceAdd, Nat.reduceSub, Nat.reduceLeDiff, Nat.reduceLT, implies_true, and_self, Int.natCast_zero, Int.natCast_one, Int.cast_ofNat_Int, evV, encInts, encNats, encBools, encP]) <;> (repeat' with_reducible apply And.intro) <;> first | omega | exact vw_nats rfl rfl (by omega) | exact vw_ints rfl rfl (by omega) | exact vw_bools rfl rfl (by omega) | exact rowV_fe (fun _ => rfl) | exact rowV_fe_start (c := cN) (fun _ => rfl) rfl | exact rowsV_fam (fun _ => rfl) (by decide) ⟨rfl, rfl⟩ trivial | exact rowsV_fam (fun _ => rfl) (by decide) (fun _ _ => ⟨rfl, rfl⟩) trivial | (simp; done)) ?_
          rintro v H' nx' ⟨rfl, rfl, rfl⟩
          (repeat (first | (simp (disch := (first | omega | (simp only [evF, evL, implies_true, and_self]; done) | fail)) only [evS, evZ, evK, evB, evL, evR, Nat.reduceBEq, Nat.reduceAdd, Nat.reduceLeDiff, boxR, rboxR, allocR, fldR, binI, unR, pickR, mknilR, mkslR, buildSlR, buildR, extR, convI, eqB, evU, wrap64]) | (with_reducible intro _) | ((with_reducible apply And.intro); omega)))
          refine ⟨(), ?_⟩
          rw [ht]
          exact (Ent.tab [(0, 3, 0)] [] rfl (by (try simp only [evW, evK, evB, evL, Nat.reduceBEq, Nat.reduceAdd, Nat.reduceSub, Nat.reduceLeDiff, Nat.reduceLT, implies_true, and_self, Int.natCast_zero, Int.natCast_one, Int.cast_ofNat_Int, evV, encInts, encNats, encBools, encP, Gr.cells]) <;> (repeat' with_reducible apply And.intro) <;> first | omega | exact vw_nats rfl rfl (by omega) | exact vw_ints rfl rfl (by omega) | exact vw_bools rfl rfl (by omega) | exact rowV_fe (fun _ => rfl) | exact rowV_fe_start (c := cN) (fun _ => rfl) rfl | exact rowsV_fam (fun _ => rfl) (by decide) ⟨rfl, rfl⟩ trivial | exact rowsV_fam (fun _ => rfl) (by decide) (fun _ _ => ⟨rfl, rfl⟩) trivial | (simp; done)) (by (try simp only [evW, evK, evB, evL, Nat.reduceBEq, Nat.reduceAdd, Nat.reduceSub, Nat.reduceLeDiff, Nat.reduceLT, implies_true, and_self, Int.natCast_zero, Int.natCast_one, Int.cast_ofNat_Int, evV, encInts, encNats, encBools, encP, Gr.cells]) <;> (repeat' with_reducible apply And.intro) <;> first | omega | exact vw_nats rfl rfl (by omega) | exact vw_ints rfl rfl (by omega) | exact vw_bools rfl rfl (by omega) | exact rowV_fe (fun _ => rfl) | exact rowV_fe_start (c := cN) (fun _ => rfl) rfl | exact rowsV_fam (fun _ => rfl) (by decide) ⟨rfl, rfl⟩ trivial | exact rowsV_fam (fun _ => rfl) (by decide) (fun _ _ => ⟨rfl, rfl⟩) trivial | (simp; done)))
        · rw [if_neg h] at ht
          (repeat (first | (simp (disch := (first | omega | (simp only [evF, evL, implies_true, and_self]; done) | fail)) only [evS, evZ, evK, evB, evL, evR, Nat.reduceBEq, Nat.reduceAdd, Nat.reduceLeDiff, boxR, rboxR, allocR, fldR, binI, unR, pickR, mknilR, mkslR, buildSlR, buildR, extR, convI, eqB, evU, wrap64]) | (with_reducible intro _) | ((with_reducible apply And.intro); omega)))
          refine ⟨(), ?_⟩
          rw [ht]
          exact (Ent.tab [(0, 2, 0)] [] rfl (by (try simp only [evW, evK, evB, evL, Nat.reduceBEq, Nat.reduceAdd, Nat.reduceSub, Nat.reduceLeDiff, Nat.reduceLT, implies_true, and_self, Int.natCast_zero, Int.natCast_one, Int.cast_ofNat_Int, evV, encInts, encNats, encBools, encP, Gr.cells]) <;> (repeat' with_reducible apply And.intro) <;> first | omega | exact vw_nats rfl rfl (by omega) | exact vw_ints rfl rfl (by omega) | exact vw_bools rfl rfl (by omega) | exact rowV_fe (fun _ => rfl) | exact rowV_fe_start (c := cN) (fun _ => rfl) rfl | exact rowsV_fam (fun _ => rfl) (by decide) ⟨rfl, rfl⟩ trivial | exact rowsV_fam (fun _ => rfl) (by decide) (fun _ _ => ⟨rfl, rfl⟩) trivial | (simp; done)) (by (try simp only [evW, evK, evB, evL, Nat.reduceBEq, Nat.reduceAdd, Nat.reduceSub, Nat.reduceLeDiff, Nat.reduceLT, implies_true, and_self, Int.natCast_zero, Int.natCast_one, Int.cast_ofNat_Int, evV, encInts, encNats, encBools, encP, Gr.cells]) <;> (repeat' with_reducible apply And.intro) <;> first | omega | exact vw_nats rfl rfl (by omega) | exact vw_ints rfl rfl (by omega) | exact vw_bools rfl rfl (by omega) | exact rowV_fe (fun _ => rfl) | exact rowV_fe_start (c := cN) (fun _ => rfl) rfl | exact rowsV_fam (fun _ => rfl) (by decide) ⟨rfl, rfl⟩ trivial | exact rowsV_fam (fun _ => rfl) (by decide) (fun _ _ => ⟨rfl, rfl⟩) trivial | (simp; done)))
  · rintro _ _ _
    unfold ac_dominator_edges_k0
    (repeat (first | (simp (disch := (first | omega | (simp only [evF, evL, implies_true, and_self]; done) | fail)) only [evS, evZ, evK, evB, evL, evR, Nat.reduceBEq, Nat.reduceAdd, Nat.reduceLeDiff, boxR, rboxR, allocR, fldR, binI, unR, pickR, mknilR, mkslR, buildSlR, buildR, extR, convI, eqB, evU, wrap64]) | (with_reducible intro _) | ((with_reducible apply And.intro); omega)))
    refine call_own [(0, 0, 0)] 1 _ (slices_DeleteFunc_ok b.targets 0 _ _ (edges_pred g) htl) rfl rfl (by simp only [evW, evK, evB, evL, Nat.reduceBEq, Nat.reduceAdd, Nat.reduceSub, Nat.reduceLeDiff, Nat.reduceLT, implies_true, and_self, Int.natCast_zero, Int.natCast_one, Int.cast_ofNat_Int, evV, encInts, encNats, encBools, encP]) (by simp only [evW, evK, evB, evL, Nat.reduceBEq, Nat.reduceAdd, Nat.reduceSub, Nat.reduceLeDiff, Nat.reduceLT, implies_true, and_self, Int.natCast_zero, Int.natCast_one, Int.cast_ofNat_Int, evV, encInts, encNats, encBools, encP]) ?_
    rintro v H' nx' ⟨m, rfl, rfl, rfl⟩
    (repeat (first | (simp (disch := (first | omega | (simp only [evF, evL, implies_true, and_self]; done) | fail)) only [evS, evZ, evK, evB, evL, evR, Nat.reduceBEq, Nat.reduceAdd, Nat.reduceLeDiff, boxR, rboxR, allocR, fldR, binI, unR, pickR, mknilR, mkslR, buildSlR, buildR, extR, convI, eqB, evU, wrap64, rs_dominator_edges]) | (with_reducible intro _) | ((with_reducible apply And.intro); omega)))
    refine ⟨_, ?_, rfl⟩
    have := List.length_filter_le (edgeOk g.blocks.length) b.targets
    simp only [Bool.not_not]
    exact vw_prefI (l := b.targets.filter (edgeOk g.blocks.length)) (m := m) trivial rfl (by omega)

/-- The first k lists of successors, then nils. -/
def aLL (E : Adj) (n k : Nat) : List (List AV) := (List.range n).map fun i => [if i < k then encNats (suc E i) else .nilsl]
theorem aLL_len {E : Adj} {n k : Nat} : (aLL E n k).length = n := by simp [aLL]
theorem aLL_zero {E : Adj} {n : Nat} : aLL E n 0 = List.replicate n [.nilsl] := by
  unfold aLL
  simp only [Nat.not_lt_zero, if_false]
  rw [List.map_const', List.length_range]
theorem aLL_set {E : Adj} {n k : Nat} : (aLL E n k).set k [encNats (suc E k)] = aLL E n (k + 1) := by
  unfold aLL
  rw [map_range_set]
  refine List.map_congr_left fun i hi => ?_
  unfold updF
  split
  · rename_i h; subst h; rw [if_pos (by omega)]
  · show [if i < k then encNats (suc E i) else AV.nilsl] = _
    by_cases h : i < k
    · rw [if_pos h, if_pos (by omega)]
    · rw [if_neg h, if_neg (by omega)]
theorem aLL_flat {E : Adj} {n k : Nat} : FlatRows (aLL E n k) := by
  intro c hc
  obtain ⟨i, _, rfl⟩ := List.mem_map.1 hc
  split <;> rfl
theorem aLL_end {E : Adj} {n : Nat} (hn : E.length = n) : aLL E n n = E.map cNs := by
  subst hn
  apply List.ext_getElem?
  intro i
  unfold aLL
  by_cases hi : i < E.length
  · simp [hi, suc, List.getD_eq_getElem?_getD]
  · simp [hi]

theorem dominator_all_ok (g : Gr) (hg : g.small) : PureFn Try.prog f_dominator_all [.agg g.cells] (· = encNN g.E) := by
  refine fn_x cf_dominator_all rfl ?_
  unfold ac_dominator_all
  have hB : big = 9223372036854775807 := rfl
  have hn := hg.1
  have hlen := g.E_len
  (repeat (first | (simp (disch := (first | omega | (simp only [evF, evL, implies_true, and_self]; done) | fail)) only [evS, evZ, evK, evB, evL, evR, Nat.reduceBEq, Nat.reduceAdd, Nat.reduceLeDiff, boxR, rboxR, allocR, fldR, binI, unR, pickR, mknilR, mkslR, buildSlR, buildR, extR, convI, eqB, evU, wrap64, Gr.cells]) | (with_reducible intro _) | ((with_reducible apply And.intro); omega)))
  refine loopX_intro (fun k : Nat => ([(1, encP 2 g.cells), (3, .own 0 0 0 0 g.blocks.length), (11, .int .i64 g.blocks.length), (12, .int .i64 k)], [(0, .row 1 (aLL g.E g.blocks.length k) 0)])) 1 (fun k => k ≤ g.blocks.length) (fun k => g.blocks.length - k) 0 (Nat.zero_le _) (Ent.tab [(0, 1, 0)] [] rfl (by (try simp only [evW, evK, evB, evL, Nat.reduceBEq, Nat.reduceAdd, Nat.reduceSub, Nat.reduceLeDiff, Nat.reduceLT, implies_true, and_self, Int.natCast_zero, Int.natCast_one, Int.cast_ofNat_Int, evV, encInts, encNats, encBools, encP, Gr.cells, aLL_zero]) <;> (repeat' with_reducible apply And.intro) <;> first | omega | exact vw_nats rfl rfl (by omega) | exact vw_ints rfl rfl (by omega) | exact vw_bools rfl rfl (by omega) | exact rowV_fe (fun _ => rfl) | exact rowV_fe_start (c := cN) (fun _ => rfl) rfl | exact rowsV_fam (fun _ => rfl) (by decide) ⟨rfl, rfl⟩ trivial | exact rowsV_fam (fun _ => rfl) (by decide) (fun _ _ => ⟨rfl, rfl⟩) trivial | (simp; done)) (by (try simp only [evW, evK, evB, evL, Nat.reduceBEq, Nat.reduceAdd, Nat.reduceSub, Nat.reduceLeDiff, Nat.reduceLT, implies_true, and_self, Int.natCast_zero, Int.natCast_one, Int.cast_ofNat_Int, evV, encInts, encNats, encBools, encP, Gr.cells, aLL_zero]) <;> (repeat' with_reducible apply And.intro) <;> first | omega | exact vw_nats rfl rfl (by omega) | exact vw_ints rfl rfl (by omega) | exact vw_bools rfl rfl (by omega) | exact rowV_fe (fun _ => rfl) | exact rowV_fe_start (c := cN) (fun _ => rfl) rfl | exact rowsV_fam (fun _ => rfl) (by decide) ⟨rfl, rfl⟩ trivial | exact rowsV_fam (fun _ => rfl) (by decide) (fun _ _ => ⟨rfl, rfl⟩) trivial | (simp; done))) ?_
  intro k hk wf
  unfold ac_dominator_all_l0
  (repeat (first | (simp (disch := (first | omega | (simp only [evF, evL, implies_true, and_self]; done) | fail)) only [evS, evZ, evK, evB, evL, evR, Nat.reduceBEq, Nat.reduceAdd, Nat.reduceLeDiff, boxR, rboxR, allocR, fldR, binI, unR, pickR, mknilR, mkslR, buildSlR, buildR, extR, convI, eqB, evU, wrap64, encP, Gr.cells]) | (with_reducible intro _) | ((with_reducible apply And.intro); omega)))
  (refine condX_intro (fun h => ?_) (fun h => ?_)) <;> (try simp only [decide_eq_true_eq, decide_eq_false_iff_not, Bool.not_eq_true', Bool.not_eq_false', Bool.and_eq_true, Bool.or_eq_true, not_true_eq_false, not_false_eq_true] at h)
  · (repeat (first | (simp (disch := (first | omega | (simp only [evF, evL, implies_true, and_self]; done) | fail)) only [evS, evZ, evK, evB, evL, evR, Nat.reduceBEq, Nat.reduceAdd, Nat.reduceLeDiff, boxR, rboxR, allocR, fldR, binI, unR, pickR, mknilR, mkslR, buildSlR, buildR, extR, convI, eqB, evU, wrap64, Gr.two]) | (with_reducible intro _) | ((with_reducible apply And.intro); omega)))
    refine callX_fix (call_flat (dominator_edges_ok g hg k (by omega)) rfl) ?_
    (repeat (first | (simp (disch := (first | omega | (simp only [evF, evL, implies_true, and_self]; done) | fail)) only [evS, evZ, evK, evB, evL, evR, Nat.reduceBEq, Nat.reduceAdd, Nat.reduceLeDiff, boxR, rboxR, allocR, fldR, binI, unR, pickR, mknilR, mkslR, buildSlR, buildR, extR, convI, eqB, evU, wrap64, aLL_len]) | (with_reducible intro _) | ((with_reducible apply And.intro); omega)))
    have e : (aLL g.E g.blocks.length k).set k (encNats (suc g.E k)).cells = aLL g.E g.blocks.length (k + 1) := aLL_set
    refine ⟨⟨by omega, rfl, rfl⟩, ?_⟩
    rw [e]
    (repeat (first | (simp (disch := (first | omega | (simp only [evF, evL, implies_true, and_self]; done) | fail)) only [evS, evZ, evK, evB, evL, evR, Nat.reduceBEq, Nat.reduceAdd, Nat.reduceLeDiff, boxR, rboxR, allocR, fldR, binI, unR, pickR, mknilR, mkslR, buildSlR, buildR, extR, convI, eqB, evU, wrap64]) | (with_reducible intro _) | ((with_reducible apply And.intro); omega)))
    exact ⟨k + 1, by omega, by omega, (Ent.tab [(0, 0, 0)] [] rfl (by (try simp only [evW, evK, evB, evL, Nat.reduceBEq, Nat.reduceAdd, Nat.reduceSub, Nat.reduceLeDiff, Nat.reduceLT, implies_true, and_self, Int.natCast_zero, Int.natCast_one, Int.cast_ofNat_Int, evV, encInts, encNats, encBools, encP, Gr.cells, rowV_refl_iff aLL_flat]) <;> (repeat' with_reducible apply And.intro) <;> first | omega | exact vw_nats rfl rfl (by omega) | exact vw_ints rfl rfl (by omega) | exact vw_bools rfl rfl (by omega) | exact rowV_fe (fun _ => rfl) | exact rowV_fe_start (c := cN) (fun _ => rfl) rfl | exact rowsV_fam (fun _ => rfl) (by decide) ⟨rfl, rfl⟩ trivial | exact rowsV_fam (fun _ => rfl) (by decide) (fun _ _ => ⟨rfl, rfl⟩) trivial | (simp; done)) (by (try simp only [evW, evK, evB, evL, Nat.reduceBEq, Nat.reduceAdd, Nat.reduceSub, Nat.reduceLeDiff, Nat.reduceLT, implies_true, and_self, Int.natCast_zero, Int.natCast_one, Int.cast_ofNat_Int, evV, encInts, encNats, encBools, encP, Gr.cells, rowV_refl_iff aLL_flat]) <;> (repeat' with_reducible apply And.intro) <;> first | omega | exact vw_nats rfl rfl (by omega) | exact vw_ints rfl rfl (by omega) | exact vw_bools rfl rfl (by omega) | exact rowV_fe (fun _ => rfl) | exact rowV_fe_start (c := cN) (fun _ => rfl) rfl | exact rowsV_fam (fun _ => rfl) (by decide) ⟨rfl, rfl⟩ trivial | exact rowsV_fam (fun _ => rfl) (by decide) (fun _ _ => ⟨rfl, rfl⟩) trivial | (simp; done)))⟩
  · obtain rfl : k = g.blocks.length := by omega
    unfold ac_dominator_all_k1
    (repeat (first | (simp (disch := (first | omega | (simp only [evF, evL, implies_true, and_self]; done) | fail)) only [evS, evZ, evK, evB, evL, evR, Nat.reduceBEq, Nat.reduceAdd, Nat.reduceLeDiff, boxR, rboxR, allocR, fldR, binI, unR, pickR, mknilR, mkslR, buildSlR, buildR, extR, convI, eqB, evU, wrap64, rs_dominator_all]) | (with_reducible intro _) | ((with_reducible apply And.intro); omega)))
    refine ⟨_, ?_, rfl⟩
    rw [aLL_end hlen]
    have := vw_NN (H := [(0, .row 1 (g.E.map cNs) 0)]) (H2 := []) (σ := nos) (D := allR) (t := false) (r := 0) (q := 0) (g := 0) (l := g.E) trivial rfl (by omega)
    rwa [hlen] at this

end Go.Ab
