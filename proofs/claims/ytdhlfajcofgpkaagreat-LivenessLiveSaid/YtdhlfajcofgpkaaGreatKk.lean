/-
  Part 11 of the proof: how the calls of this program run, over values instead of memory, and what each function computes.
-/
import Derived.KernelRfl
import Derived.Test.YtdhlfajcofgpkaaGreatKj
set_option maxRecDepth 100000
set_option linter.unusedVariables false
set_option linter.unusedSimpArgs false
set_option linter.unnecessarySimpa false
set_option linter.unusedSectionVars false

namespace Go.Ab
open Go.RowKit Go.Proofs
def za1 (ad : Int) (n : Nat) (D : List Bl) (T : Nat → MS) : AH := [(0, .row 2 [[.int .u32 0, .nilsl]] 0), (1, .row 2 [[.int .u32 ad, .own 2 0 0 0 n]] 0), (2, .row 2 (D.map Bl.cells) 0), (3, .row 1 (mps 4 n) 0), (4, famS n T)]
theorem zwy {exit : List Int} {sts : List St} {i : Nat} {a : MS} (h : i < sts.length) : keepM exit (sts.drop i) a = if remS sts[i] (keepM exit (sts.drop (i + 1)) a).2.keys = true then keepM exit (sts.drop (i + 1)) a else (sts[i] :: (keepM exit (sts.drop (i + 1)) a).1, zc2 exit sts[i] (keepM exit (sts.drop (i + 1)) a).2) := by
  rw [List.drop_eq_getElem_cons h, keepM]
theorem ztk {α : Type} {f : α → List AV} {A : List α} {a : α} {i : Nat} {c : List AV} {H HH : AH} {σ : Nat → Nat → Option (Nat × Nat × Nat)} {D : Nat → Nat → Prop} (hf : ∀ a, zE (f a) = true) (hi : i < A.length) (hl : (f a).length = c.length)
    (h : ∀ (j : Nat) (x y : AV), c[j]? = some x → (f a)[j]? = some y → Vw H HH σ D true x y) : RowV H HH σ D ((A.map f).set i c) ((A.set i a).map f) := by
  refine ⟨by simp, fun k c2 hk => ?_⟩
  rw [List.map_set] at hk
  by_cases hki : i = k
  · subst hki
    rw [List.getElem?_set_self (by simpa using hi)] at hk ⊢
    cases hk
    exact ⟨c, rfl, hl, h⟩
  · rw [List.getElem?_set_ne hki] at hk ⊢
    refine ⟨c2, hk, rfl, fun j x y h1 h2 => ?_⟩
    rw [h1] at h2
    cases h2
    obtain ⟨b, _, rfl⟩ := List.mem_map.1 (List.mem_of_getElem? hk)
    exact zb2 (zaF (hf b) h1)
theorem zst {H HH : AH} {σ : Nat → Nat → Option (Nat × Nat × Nat)} {D : Nat → Nat → Prop} {r : Nat} {kp : List St} {x : Int} (hD : D r 0) (hg : H.get r 0 = some (.row 8 (kp.map St.cells) 0)) (hb : kp.length ≤ big) :
    ∀ (j : Nat) (a b : AV), [AV.int .u32 x, .own r 0 0 0 kp.length][j]? = some a → (Bl.cells ⟨x, kp⟩)[j]? = some b → Vw H HH σ D true a b := by
  intro j a b h1 h2
  match j with
  | 0 => cases h1; cases h2; exact .int _ _ _
  | 1 => cases h1; cases h2; exact zxh hD hg hb
  | j + 2 => cases h1
theorem zxN {Q : QT} (ad : Int) (n b : Nat) (hb : b < n) (hn : n ≤ 1000000) (D : List Bl) (hD : D.length = n) (T : Nat → MS) (exit : List Int) (sts : List St) (a0 : MS) (r0 : Nat) (m0 : Bool)
    (hsz : ∀ s ∈ sts, zw s.e ≤ 100000) (ha : a0.ok) (h1 : a0.1 + zaJ exit.length sts ≤ 1000000) (h2 : a0.2.length + zaJ exit.length sts ≤ 1000000) (hlen : sts.length ≤ 1000000) (hr0 : r0 + sts.length ≤ 2000000)
    (hfin : ∀ K H nx, Ent 0 K H nx [(1, za exit), (4, .ptr 0 0 0 0 0), (8, .ptr 1 0 0 0 0), (9, .int .i64 ((r0 + (sts.length - (keepM exit sts a0).1.length) : Nat) : Int)), (10, .bool (m0 || decide ((keepM exit sts a0).1.length < sts.length))), (12, .own 3 0 0 0 n), (35, .int .i64 n), (36, .int .i64 ((b + 1 : Nat) : Int))]
      (za1 ad n (D.set b ⟨(D[b]'(by omega)).addr, (keepM exit sts a0).1⟩) T) 5 → Q .normal K H nx)
    {K : Kn} {H : AH} {nx : Nat} (hent : Ent 0 K H nx [(1, za exit), (4, .ptr 0 0 0 0 0), (8, .ptr 1 0 0 0 0), (9, .int .i64 r0), (10, .bool m0), (12, .own 3 0 0 0 n), (13, .int .i64 b), (14, .mp 5 0), (15, encL 8 St.cells sts), (16, .own 6 0 0 0 0), (17, .int .i64 ((sts.length : Int) - 1)), (35, .int .i64 n), (36, .int .i64 b)]
      (za1 ad n D T ++ [(5, .row 3 ((setM a0.1 a0.2).map cm) 0), (6, .row 8 [] 0)]) 7) :
    zhD Tryz.prog 0 zcx (za3 4 (seqQ Tryz.prog 0 zcC (za3 3 (seqQ Tryz.prog 0 zcA Q)))) K H nx := by
  have hB := hBig
  have hz : keepM exit (sts.drop sts.length) a0 = ([], a0) := by rw [List.drop_length]; rfl
  have hlk := fun i => (zkq (exit := exit) (e := a0) (sts.drop i)).length_le
  simp only [List.length_drop] at hlk
  refine zm (fun i : Nat => ([(1, za exit), (4, .ptr 0 0 0 0 0), (8, .ptr 1 0 0 0 0), (9, .int .i64 ((r0 + (sts.length - i - (keepM exit (sts.drop i) a0).1.length) : Nat) : Int)), (10, .bool (m0 || decide ((keepM exit (sts.drop i) a0).1.length < sts.length - i))), (12, .own 3 0 0 0 n), (13, .int .i64 b), (14, .mp 5 0), (15, encL 8 St.cells sts), (16, .own 6 0 0 0 (keepM exit (sts.drop i) a0).1.length), (17, .int .i64 ((i : Int) - 1)), (35, .int .i64 n), (36, .int .i64 b)],
      za1 ad n D T ++ [(5, .row 3 ((setM (keepM exit (sts.drop i) a0).2.1 (keepM exit (sts.drop i) a0).2.2).map cm) 0), (6, .row 8 ((keepM exit (sts.drop i) a0).1.reverse.map St.cells) 0)])) 7
    (fun i => i ≤ sts.length) (fun i => i) sts.length (Nat.le_refl _) ?_ ?_
  · rw [hz]
    simp only [List.length_nil, Nat.sub_self, Nat.lt_irrefl, decide_false, Bool.or_false, Nat.add_zero, List.reverse_nil, List.map_nil]
    exact hent
  rintro i hi wf
  unfold zcx
  have hc := zko (k := exit.length) (l := sts) (i := i)
  obtain ⟨k1, k2, k3⟩ := zqU (exit := exit) (l := sts.drop i) ha (by omega) (by omega)
  have hli := hlk i
  rcases Nat.eq_zero_or_pos i with rfl | hp
  · rw [List.drop_zero] at *
    generalize keepM exit sts a0 = R at *
    obtain ⟨kp, a⟩ := R
    simp only [Nat.sub_zero] at *
    have hrl : kp.reverse.length = kp.length := List.length_reverse
    have hrr : kp.reverse.reverse = kp := List.reverse_reverse kp
    have hbD : b < D.length := by omega
    have hrev := zi9 kp.reverse 0 (by omega)
    rw [hrl, hrr] at hrev
    (repeat first | simp (disch := try exact dis1) only [evD, Nat.reduceBEq, Nat.reduceAdd, Nat.reduceLeDiff, dF, Int.natCast_zero, za1, List.cons_append, List.nil_append] | with_reducible intro _ | ((with_reducible apply And.intro); omega))
    unfold zcC
    (repeat first | simp (disch := try exact dis1) only [evD, Nat.reduceBEq, Nat.reduceAdd, Nat.reduceLeDiff] | with_reducible intro _ | ((with_reducible apply And.intro); omega))
    refine zL [(0, 6, 0)] 1 _ (hrev) rfl rfl (by (try simp only [evWB, Nat.reduceBEq, Nat.reduceAdd, Nat.reduceSub, Nat.reduceLeDiff, Nat.reduceLT, implies_true]) <;> (repeat' with_reducible apply And.intro) <;> first | (refine zb zc (by decide) ⟨rfl, rfl⟩ ?_; (try simp only [evWB, Nat.reduceBEq, Nat.reduceAdd, Nat.reduceSub, Nat.reduceLeDiff, Nat.reduceLT, implies_true]) <;> (repeat' with_reducible apply And.intro) <;> first | (refine zb zc (by decide) ⟨rfl, rfl⟩ ?_; (try simp only [evWB, Nat.reduceBEq, Nat.reduceAdd, Nat.reduceSub, Nat.reduceLeDiff, Nat.reduceLT, implies_true]) <;> exact fin6; done) | exact fin6; done) | exact fin6) (by (try simp only [evWB, Nat.reduceBEq, Nat.reduceAdd, Nat.reduceSub, Nat.reduceLeDiff, Nat.reduceLT, implies_true]) <;> (repeat' with_reducible apply And.intro) <;> first | (refine zb zc (by decide) ⟨rfl, rfl⟩ ?_; (try simp only [evWB, Nat.reduceBEq, Nat.reduceAdd, Nat.reduceSub, Nat.reduceLeDiff, Nat.reduceLT, implies_true]) <;> (repeat' with_reducible apply And.intro) <;> first | (refine zb zc (by decide) ⟨rfl, rfl⟩ ?_; (try simp only [evWB, Nat.reduceBEq, Nat.reduceAdd, Nat.reduceSub, Nat.reduceLeDiff, Nat.reduceLT, implies_true]) <;> exact fin6; done) | exact fin6; done) | exact fin6) ?_
    rintro _ _ _ ⟨rfl, rfl, rfl⟩
    have hg : (D.map Bl.cells).getD b [] = [.int .u32 D[b].addr, encL 8 St.cells D[b].stmts] := zt (f := Bl.cells) (d := []) hbD
    have hsp : ∀ x y z : AV, splice [x, y] 1 [z] = [x, z] := fun _ _ _ => rfl
    (repeat first | simp (disch := try exact dis1) only [evD, Nat.reduceBEq, Nat.reduceAdd, Nat.reduceLeDiff, renS, hg, hsp] | with_reducible intro _ | ((with_reducible apply And.intro); omega))
    unfold zcA
    (repeat first | simp (disch := try exact dis1) only [evD, Nat.reduceBEq, Nat.reduceAdd, Nat.reduceLeDiff] | with_reducible intro _ | ((with_reducible apply And.intro); omega))
    refine hfin _ _ _ ?_
    refine Ent.tab [(0, 0, 0), (1, 1, 0), (2, 2, 0), (3, 3, 0), (4, 4, 0)] [6] rfl ?_ ?_
    · ((try simp only [evWB, Nat.reduceBEq, Nat.reduceAdd, Nat.reduceSub, Nat.reduceLeDiff, Nat.reduceLT, implies_true, za1, famS]) <;> ((repeat' with_reducible apply And.intro) <;> first | omega | rfl | (exact ztk (fun _ => rfl) hbD rfl (zst rfl rfl (by omega)); done) | (refine zb zc (by decide) ⟨rfl, rfl⟩ ?_; (try simp only [evWB, Nat.reduceBEq, Nat.reduceAdd, Nat.reduceSub, Nat.reduceLeDiff, Nat.reduceLT, implies_true, za1, famS]) <;> ((repeat' with_reducible apply And.intro) <;> first | omega | rfl | (refine zb zc (by decide) ⟨rfl, rfl⟩ ?_; (try simp only [evWB, Nat.reduceBEq, Nat.reduceAdd, Nat.reduceSub, Nat.reduceLeDiff, Nat.reduceLT, implies_true, za1, famS]) <;> ((repeat' with_reducible apply And.intro) <;> first | omega | rfl | exact zfZ (fun _ => rfl) | exact Vw.it _ _ rfl | exact Vw.mp _ _ _ _ rfl | exact zb zc (by decide) ⟨rfl, rfl⟩ trivial | exact zb zc (by decide) (fun _ _ => ⟨rfl, rfl⟩) trivial | (refine zij rfl ?_; (repeat' (first | exact zg zc | exact zX | exact zg (fun _ => rfl) | exact zg (fun _ => zj) | exact zg (fun _ => zd) | exact zp zj | exact zp zd | exact zab rfl | exact zaa | exact zp rfl | refine zK ?_ ?_ | refine zi rfl ?_ | refine zi zj ?_ | refine zi zd ?_)); done) | exact zdw rfl | (refine RowV.of_flat ?_; (repeat' (first | exact zg zc | exact zX | exact zg (fun _ => rfl) | exact zg (fun _ => zj) | exact zg (fun _ => zd) | exact zp zj | exact zp zd | exact zab rfl | exact zaa | exact zp rfl | refine zK ?_ ?_ | refine zi rfl ?_ | refine zi zj ?_ | refine zi zd ?_)); done) | ((repeat' (first | exact zg zc | exact zX | exact zg (fun _ => rfl) | exact zg (fun _ => zj) | exact zg (fun _ => zd) | exact zp zj | exact zp zd | exact zab rfl | exact zaa | exact zp rfl | refine zK ?_ ?_ | refine zi rfl ?_ | refine zi zj ?_ | refine zi zd ?_)); done) | exact zfh rfl rfl (by omega) | exact zV rfl rfl (by omega) | exact zdx rfl rfl (by omega) | exact zfo (fun _ => rfl) | exact zb (fun _ => rfl) (by decide) ⟨rfl, rfl⟩ trivial | exact zb (fun _ => rfl) (by decide) (fun _ _ => ⟨rfl, rfl⟩) trivial | (simp; done)); done) | exact zfZ (fun _ => rfl) | exact Vw.it _ _ rfl | exact Vw.mp _ _ _ _ rfl | exact zb zc (by decide) ⟨rfl, rfl⟩ trivial | exact zb zc (by decide) (fun _ _ => ⟨rfl, rfl⟩) trivial | (refine zij rfl ?_; (repeat' (first | exact zg zc | exact zX | exact zg (fun _ => rfl) | exact zg (fun _ => zj) | exact zg (fun _ => zd) | exact zp zj | exact zp zd | exact zab rfl | exact zaa | exact zp rfl | refine zK ?_ ?_ | refine zi rfl ?_ | refine zi zj ?_ | refine zi zd ?_)); done) | exact zdw rfl | (refine RowV.of_flat ?_; (repeat' (first | exact zg zc | exact zX | exact zg (fun _ => rfl) | exact zg (fun _ => zj) | exact zg (fun _ => zd) | exact zp zj | exact zp zd | exact zab rfl | exact zaa | exact zp rfl | refine zK ?_ ?_ | refine zi rfl ?_ | refine zi zj ?_ | refine zi zd ?_)); done) | ((repeat' (first | exact zg zc | exact zX | exact zg (fun _ => rfl) | exact zg (fun _ => zj) | exact zg (fun _ => zd) | exact zp zj | exact zp zd | exact zab rfl | exact zaa | exact zp rfl | refine zK ?_ ?_ | refine zi rfl ?_ | refine zi zj ?_ | refine zi zd ?_)); done) | exact zfh rfl rfl (by omega) | exact zV rfl rfl (by omega) | exact zdx rfl rfl (by omega) | exact zfo (fun _ => rfl) | exact zb (fun _ => rfl) (by decide) ⟨rfl, rfl⟩ trivial | exact zb (fun _ => rfl) (by decide) (fun _ _ => ⟨rfl, rfl⟩) trivial | (simp; done)); done) | exact zfZ (fun _ => rfl) | exact Vw.it _ _ rfl | exact Vw.mp _ _ _ _ rfl | exact zb zc (by decide) ⟨rfl, rfl⟩ trivial | exact zb zc (by decide) (fun _ _ => ⟨rfl, rfl⟩) trivial | (refine zij rfl ?_; (repeat' (first | exact zg zc | exact zX | exact zg (fun _ => rfl) | exact zg (fun _ => zj) | exact zg (fun _ => zd) | exact zp zj | exact zp zd | exact zab rfl | exact zaa | exact zp rfl | refine zK ?_ ?_ | refine zi rfl ?_ | refine zi zj ?_ | refine zi zd ?_)); done) | exact zdw rfl | (refine RowV.of_flat ?_; (repeat' (first | exact zg zc | exact zX | exact zg (fun _ => rfl) | exact zg (fun _ => zj) | exact zg (fun _ => zd) | exact zp zj | exact zp zd | exact zab rfl | exact zaa | exact zp rfl | refine zK ?_ ?_ | refine zi rfl ?_ | refine zi zj ?_ | refine zi zd ?_)); done) | ((repeat' (first | exact zg zc | exact zX | exact zg (fun _ => rfl) | exact zg (fun _ => zj) | exact zg (fun _ => zd) | exact zp zj | exact zp zd | exact zab rfl | exact zaa | exact zp rfl | refine zK ?_ ?_ | refine zi rfl ?_ | refine zi zj ?_ | refine zi zd ?_)); done) | exact zfh rfl rfl (by omega) | exact zV rfl rfl (by omega) | exact zdx rfl rfl (by omega) | exact zfo (fun _ => rfl) | exact zb (fun _ => rfl) (by decide) ⟨rfl, rfl⟩ trivial | exact zb (fun _ => rfl) (by decide) (fun _ _ => ⟨rfl, rfl⟩) trivial | (simp; done)))
    · ((try simp only [evWB, Nat.reduceBEq, Nat.reduceAdd, Nat.reduceSub, Nat.reduceLeDiff, Nat.reduceLT, implies_true, za1]) <;> ((repeat' with_reducible apply And.intro) <;> first | omega | rfl | (rfl; done) | (refine zb zc (by decide) ⟨rfl, rfl⟩ ?_; (try simp only [evWB, Nat.reduceBEq, Nat.reduceAdd, Nat.reduceSub, Nat.reduceLeDiff, Nat.reduceLT, implies_true, za1]) <;> ((repeat' with_reducible apply And.intro) <;> first | omega | rfl | (refine zb zc (by decide) ⟨rfl, rfl⟩ ?_; (try simp only [evWB, Nat.reduceBEq, Nat.reduceAdd, Nat.reduceSub, Nat.reduceLeDiff, Nat.reduceLT, implies_true, za1]) <;> ((repeat' with_reducible apply And.intro) <;> first | omega | rfl | exact zfZ (fun _ => rfl) | exact Vw.it _ _ rfl | exact Vw.mp _ _ _ _ rfl | exact zb zc (by decide) ⟨rfl, rfl⟩ trivial | exact zb zc (by decide) (fun _ _ => ⟨rfl, rfl⟩) trivial | (refine zij rfl ?_; (repeat' (first | exact zg zc | exact zX | exact zg (fun _ => rfl) | exact zg (fun _ => zj) | exact zg (fun _ => zd) | exact zp zj | exact zp zd | exact zab rfl | exact zaa | exact zp rfl | refine zK ?_ ?_ | refine zi rfl ?_ | refine zi zj ?_ | refine zi zd ?_)); done) | exact zdw rfl | (refine RowV.of_flat ?_; (repeat' (first | exact zg zc | exact zX | exact zg (fun _ => rfl) | exact zg (fun _ => zj) | exact zg (fun _ => zd) | exact zp zj | exact zp zd | exact zab rfl | exact zaa | exact zp rfl | refine zK ?_ ?_ | refine zi rfl ?_ | refine zi zj ?_ | refine zi zd ?_)); done) | ((repeat' (first | exact zg zc | exact zX | exact zg (fun _ => rfl) | exact zg (fun _ => zj) | exact zg (fun _ => zd) | exact zp zj | exact zp zd | exact zab rfl | exact zaa | exact zp rfl | refine zK ?_ ?_ | refine zi rfl ?_ | refine zi zj ?_ | refine zi zd ?_)); done) | exact zfh rfl rfl (by omega) | exact zV rfl rfl (by omega) | exact zdx rfl rfl (by omega) | exact zfo (fun _ => rfl) | exact zb (fun _ => rfl) (by decide) ⟨rfl, rfl⟩ trivial | exact zb (fun _ => rfl) (by decide) (fun _ _ => ⟨rfl, rfl⟩) trivial | (simp; done)); done) | exact zfZ (fun _ => rfl) | exact Vw.it _ _ rfl | exact Vw.mp _ _ _ _ rfl | exact zb zc (by decide) ⟨rfl, rfl⟩ trivial | exact zb zc (by decide) (fun _ _ => ⟨rfl, rfl⟩) trivial | (refine zij rfl ?_; (repeat' (first | exact zg zc | exact zX | exact zg (fun _ => rfl) | exact zg (fun _ => zj) | exact zg (fun _ => zd) | exact zp zj | exact zp zd | exact zab rfl | exact zaa | exact zp rfl | refine zK ?_ ?_ | refine zi rfl ?_ | refine zi zj ?_ | refine zi zd ?_)); done) | exact zdw rfl | (refine RowV.of_flat ?_; (repeat' (first | exact zg zc | exact zX | exact zg (fun _ => rfl) | exact zg (fun _ => zj) | exact zg (fun _ => zd) | exact zp zj | exact zp zd | exact zab rfl | exact zaa | exact zp rfl | refine zK ?_ ?_ | refine zi rfl ?_ | refine zi zj ?_ | refine zi zd ?_)); done) | ((repeat' (first | exact zg zc | exact zX | exact zg (fun _ => rfl) | exact zg (fun _ => zj) | exact zg (fun _ => zd) | exact zp zj | exact zp zd | exact zab rfl | exact zaa | exact zp rfl | refine zK ?_ ?_ | refine zi rfl ?_ | refine zi zj ?_ | refine zi zd ?_)); done) | exact zfh rfl rfl (by omega) | exact zV rfl rfl (by omega) | exact zdx rfl rfl (by omega) | exact zfo (fun _ => rfl) | exact zb (fun _ => rfl) (by decide) ⟨rfl, rfl⟩ trivial | exact zb (fun _ => rfl) (by decide) (fun _ _ => ⟨rfl, rfl⟩) trivial | (simp; done)); done) | exact zfZ (fun _ => rfl) | exact Vw.it _ _ rfl | exact Vw.mp _ _ _ _ rfl | exact zb zc (by decide) ⟨rfl, rfl⟩ trivial | exact zb zc (by decide) (fun _ _ => ⟨rfl, rfl⟩) trivial | (refine zij rfl ?_; (repeat' (first | exact zg zc | exact zX | exact zg (fun _ => rfl) | exact zg (fun _ => zj) | exact zg (fun _ => zd) | exact zp zj | exact zp zd | exact zab rfl | exact zaa | exact zp rfl | refine zK ?_ ?_ | refine zi rfl ?_ | refine zi zj ?_ | refine zi zd ?_)); done) | exact zdw rfl | (refine RowV.of_flat ?_; (repeat' (first | exact zg zc | exact zX | exact zg (fun _ => rfl) | exact zg (fun _ => zj) | exact zg (fun _ => zd) | exact zp zj | exact zp zd | exact zab rfl | exact zaa | exact zp rfl | refine zK ?_ ?_ | refine zi rfl ?_ | refine zi zj ?_ | refine zi zd ?_)); done) | ((repeat' (first | exact zg zc | exact zX | exact zg (fun _ => rfl) | exact zg (fun _ => zj) | exact zg (fun _ => zd) | exact zp zj | exact zp zd | exact zab rfl | exact zaa | exact zp rfl | refine zK ?_ ?_ | refine zi rfl ?_ | refine zi zj ?_ | refine zi zd ?_)); done) | exact zfh rfl rfl (by omega) | exact zV rfl rfl (by omega) | exact zdx rfl rfl (by omega) | exact zfo (fun _ => rfl) | exact zb (fun _ => rfl) (by decide) ⟨rfl, rfl⟩ trivial | exact zb (fun _ => rfl) (by decide) (fun _ _ => ⟨rfl, rfl⟩) trivial | (simp; done)))
  · obtain ⟨i, rfl⟩ : ∃ k, i = k + 1 := ⟨i - 1, by omega⟩
    have hil : i < sts.length := by omega
    have hgl := zt (f := St.cells) (d := []) hil
    have ei : ((i + 1 : Nat) : Int) - 1 = i := by omega
    have hat := zwy (exit := exit) (a := a0) hil
    have hl0 := hlk i
    have hci := zmN (k := exit.length) hil
    have hc0 := zko (k := exit.length) (l := sts) (i := i)
    have hrem := zg0 sts[i] (keepM exit (sts.drop (i + 1)) a0).2
    have hbk := zgj (keepM exit (sts.drop (i + 1)) a0).2 sts[i] exit k1 (hsz _ (List.getElem_mem hil)) (by omega) (by omega)
    generalize keepM exit (sts.drop (i + 1)) a0 = R at *
    obtain ⟨kp, a⟩ := R
    simp only at hrem hbk hli k1 k2 k3 hat
    (repeat first | simp (disch := try exact dis1) only [evD, Nat.reduceBEq, Nat.reduceAdd, Nat.reduceLeDiff, ei, dT, za1, List.cons_append, List.nil_append, hgl, St.len, St.eight] | with_reducible intro _ | ((with_reducible apply And.intro); omega))
    refine zL [(0, 5, 0)] 1 _ (hrem) rfl rfl (by (try simp only [evWB, Nat.reduceBEq, Nat.reduceAdd, Nat.reduceSub, Nat.reduceLeDiff, Nat.reduceLT, implies_true]) <;> (repeat' with_reducible apply And.intro) <;> first | (refine zb zc (by decide) ⟨rfl, rfl⟩ ?_; (try simp only [evWB, Nat.reduceBEq, Nat.reduceAdd, Nat.reduceSub, Nat.reduceLeDiff, Nat.reduceLT, implies_true]) <;> (repeat' with_reducible apply And.intro) <;> first | (refine zb zc (by decide) ⟨rfl, rfl⟩ ?_; (try simp only [evWB, Nat.reduceBEq, Nat.reduceAdd, Nat.reduceSub, Nat.reduceLeDiff, Nat.reduceLT, implies_true]) <;> exact fin6; done) | exact fin6; done) | exact fin6) (by (try simp only [evWB, Nat.reduceBEq, Nat.reduceAdd, Nat.reduceSub, Nat.reduceLeDiff, Nat.reduceLT, implies_true]) <;> (repeat' with_reducible apply And.intro) <;> first | (refine zb zc (by decide) ⟨rfl, rfl⟩ ?_; (try simp only [evWB, Nat.reduceBEq, Nat.reduceAdd, Nat.reduceSub, Nat.reduceLeDiff, Nat.reduceLT, implies_true]) <;> (repeat' with_reducible apply And.intro) <;> first | (refine zb zc (by decide) ⟨rfl, rfl⟩ ?_; (try simp only [evWB, Nat.reduceBEq, Nat.reduceAdd, Nat.reduceSub, Nat.reduceLeDiff, Nat.reduceLT, implies_true]) <;> exact fin6; done) | exact fin6; done) | exact fin6) ?_
    rintro _ _ _ ⟨rfl, rfl, rfl⟩
    cases hx : remS sts[i] a.keys with
    | true =>
      rw [hx, if_pos rfl] at hat
      have hbt : (m0 || decide (kp.length < sts.length - i)) = true := by rw [decide_eq_true (by omega)]; simp
      (repeat first | simp (disch := try exact dis1) only [evD, Nat.reduceBEq, Nat.reduceAdd, Nat.reduceLeDiff, renM] | with_reducible intro _ | ((with_reducible apply And.intro); omega))
      refine ⟨i, by omega, by omega, ?_⟩
      exact (Ent.tab [(0, 0, 0), (1, 1, 0), (2, 2, 0), (3, 3, 0), (4, 4, 0), (5, 5, 0), (6, 6, 0)] [] rfl (by (try simp only [evWB, Nat.reduceBEq, Nat.reduceAdd, Nat.reduceSub, Nat.reduceLeDiff, Nat.reduceLT, implies_true, za1, famS, hat, hbt, List.cons_append, List.nil_append]) <;> (repeat' with_reducible apply And.intro) <;> first | (refine zb zc (by decide) ⟨rfl, rfl⟩ ?_; (try simp only [evWB, Nat.reduceBEq, Nat.reduceAdd, Nat.reduceSub, Nat.reduceLeDiff, Nat.reduceLT, implies_true, za1, famS, hat, hbt, List.cons_append, List.nil_append]) <;> (repeat' with_reducible apply And.intro) <;> first | (refine zb zc (by decide) ⟨rfl, rfl⟩ ?_; (try simp only [evWB, Nat.reduceBEq, Nat.reduceAdd, Nat.reduceSub, Nat.reduceLeDiff, Nat.reduceLT, implies_true, za1, famS, hat, hbt, List.cons_append, List.nil_append]) <;> exact fin6; done) | exact fin6; done) | exact fin6) (by (try simp only [evWB, Nat.reduceBEq, Nat.reduceAdd, Nat.reduceSub, Nat.reduceLeDiff, Nat.reduceLT, implies_true, za1, famS, hat, hbt, List.cons_append, List.nil_append]) <;> (repeat' with_reducible apply And.intro) <;> first | (refine zb zc (by decide) ⟨rfl, rfl⟩ ?_; (try simp only [evWB, Nat.reduceBEq, Nat.reduceAdd, Nat.reduceSub, Nat.reduceLeDiff, Nat.reduceLT, implies_true, za1, famS, hat, hbt, List.cons_append, List.nil_append]) <;> (repeat' with_reducible apply And.intro) <;> first | (refine zb zc (by decide) ⟨rfl, rfl⟩ ?_; (try simp only [evWB, Nat.reduceBEq, Nat.reduceAdd, Nat.reduceSub, Nat.reduceLeDiff, Nat.reduceLT, implies_true, za1, famS, hat, hbt, List.cons_append, List.nil_append]) <;> exact fin6; done) | exact fin6; done) | exact fin6))
    | false =>
      rw [hx, if_neg (by simp)] at hat
      (repeat first | simp (disch := try exact dis1) only [evD, Nat.reduceBEq, Nat.reduceAdd, Nat.reduceLeDiff, renM, hgl, St.len, St.eight] | with_reducible intro _ | ((with_reducible apply And.intro); omega))
      refine zL [(0, 5, 0)] 1 _ (hbk) rfl rfl (by (try simp only [evWB, Nat.reduceBEq, Nat.reduceAdd, Nat.reduceSub, Nat.reduceLeDiff, Nat.reduceLT, implies_true]) <;> (repeat' with_reducible apply And.intro) <;> first | (refine zb zc (by decide) ⟨rfl, rfl⟩ ?_; (try simp only [evWB, Nat.reduceBEq, Nat.reduceAdd, Nat.reduceSub, Nat.reduceLeDiff, Nat.reduceLT, implies_true]) <;> (repeat' with_reducible apply And.intro) <;> first | (refine zb zc (by decide) ⟨rfl, rfl⟩ ?_; (try simp only [evWB, Nat.reduceBEq, Nat.reduceAdd, Nat.reduceSub, Nat.reduceLeDiff, Nat.reduceLT, implies_true]) <;> exact fin6; done) | exact fin6; done) | exact fin6) (by (try simp only [evWB, Nat.reduceBEq, Nat.reduceAdd, Nat.reduceSub, Nat.reduceLeDiff, Nat.reduceLT, implies_true]) <;> (repeat' with_reducible apply And.intro) <;> first | (refine zb zc (by decide) ⟨rfl, rfl⟩ ?_; (try simp only [evWB, Nat.reduceBEq, Nat.reduceAdd, Nat.reduceSub, Nat.reduceLeDiff, Nat.reduceLT, implies_true]) <;> (repeat' with_reducible apply And.intro) <;> first | (refine zb zc (by decide) ⟨rfl, rfl⟩ ?_; (try simp only [evWB, Nat.reduceBEq, Nat.reduceAdd, Nat.reduceSub, Nat.reduceLeDiff, Nat.reduceLT, implies_true]) <;> exact fin6; done) | exact fin6; done) | exact fin6) ?_
      rintro _ _ _ ⟨rfl, rfl, rfl⟩
      have hkl : kp.reverse.length = kp.length := List.length_reverse
      have htk : (kp.reverse.map St.cells).take kp.length = kp.reverse.map St.cells := List.take_of_length_le (by rw [List.length_map, hkl]; omega)
      have hbt : decide (kp.length + 1 < sts.length - i) = decide (kp.length < sts.length - (i + 1)) := decide_eq_decide.2 (by omega)
      (repeat first | simp (disch := try exact dis1) only [evD, Nat.reduceBEq, Nat.reduceAdd, Nat.reduceLeDiff, renM, hgl, St.len, St.eight, hkl, htk] | with_reducible intro _ | ((with_reducible apply And.intro); omega))
      refine ⟨i, by omega, by omega, ?_⟩
      exact (Ent.tab [(0, 0, 0), (1, 1, 0), (2, 2, 0), (3, 3, 0), (4, 4, 0), (5, 5, 0), (6, 6, 1)] [] rfl (by (try simp only [evWB, Nat.reduceBEq, Nat.reduceAdd, Nat.reduceSub, Nat.reduceLeDiff, Nat.reduceLT, implies_true, za1, famS, hat, hbt, List.cons_append, List.nil_append, List.length_cons, List.reverse_cons, List.map_append, List.map_cons, List.map_nil]) <;> (repeat' with_reducible apply And.intro) <;> first | (refine zb zc (by decide) ⟨rfl, rfl⟩ ?_; (try simp only [evWB, Nat.reduceBEq, Nat.reduceAdd, Nat.reduceSub, Nat.reduceLeDiff, Nat.reduceLT, implies_true, za1, famS, hat, hbt, List.cons_append, List.nil_append, List.length_cons, List.reverse_cons, List.map_append, List.map_cons, List.map_nil]) <;> (repeat' with_reducible apply And.intro) <;> first | (refine zb zc (by decide) ⟨rfl, rfl⟩ ?_; (try simp only [evWB, Nat.reduceBEq, Nat.reduceAdd, Nat.reduceSub, Nat.reduceLeDiff, Nat.reduceLT, implies_true, za1, famS, hat, hbt, List.cons_append, List.nil_append, List.length_cons, List.reverse_cons, List.map_append, List.map_cons, List.map_nil]) <;> exact fin6; done) | exact fin6; done) | exact fin6) (by (try simp only [evWB, Nat.reduceBEq, Nat.reduceAdd, Nat.reduceSub, Nat.reduceLeDiff, Nat.reduceLT, implies_true, za1, famS, hat, hbt, List.cons_append, List.nil_append, List.length_cons, List.reverse_cons, List.map_append, List.map_cons, List.map_nil]) <;> (repeat' with_reducible apply And.intro) <;> first | (refine zb zc (by decide) ⟨rfl, rfl⟩ ?_; (try simp only [evWB, Nat.reduceBEq, Nat.reduceAdd, Nat.reduceSub, Nat.reduceLeDiff, Nat.reduceLT, implies_true, za1, famS, hat, hbt, List.cons_append, List.nil_append, List.length_cons, List.reverse_cons, List.map_append, List.map_cons, List.map_nil]) <;> (repeat' with_reducible apply And.intro) <;> first | (refine zb zc (by decide) ⟨rfl, rfl⟩ ?_; (try simp only [evWB, Nat.reduceBEq, Nat.reduceAdd, Nat.reduceSub, Nat.reduceLeDiff, Nat.reduceLT, implies_true, za1, famS, hat, hbt, List.cons_append, List.nil_append, List.length_cons, List.reverse_cons, List.map_append, List.map_cons, List.map_nil]) <;> exact fin6; done) | exact fin6; done) | exact fin6))
def zbf (exit : List Int) (bl : List Bl) (i : Nat) : List Bl := bl.mapIdx fun j b => if j < i then blkD exit bl j b else b
theorem zdh {exit : List Int} {bl : List Bl} {i : Nat} : (zbf exit bl i).length = bl.length := by simp [zbf]
theorem zqc {exit : List Int} {bl : List Bl} : zbf exit bl 0 = bl := by
  apply List.ext_getElem
  · exact zdh
  · intro k h1 h2; simp [zbf]
theorem zpu {exit : List Int} {bl : List Bl} : zbf exit bl bl.length = zb4 exit bl := by
  apply List.ext_getElem
  · rw [zdh, zhn]
  · intro k h1 h2
    rw [zdh] at h1
    simp [zbf, zb4, h1]
theorem zr2 {exit : List Int} {bl : List Bl} {i : Nat} (h : i < bl.length) : (zbf exit bl i)[i]'(by rw [zdh]; exact h) = bl[i] := by simp [zbf]
theorem zsz {exit : List Int} {bl : List Bl} {i : Nat} (h : i < bl.length) : (zbf exit bl i).set i ⟨bl[i].addr, (ziC exit bl[i].stmts (zaS exit bl i)).1⟩ = zbf exit bl (i + 1) := by
  apply List.ext_getElem
  · simp [zbf]
  · intro k h1 h2
    rw [zdh] at h2
    rw [List.getElem_set]
    by_cases hk : i = k
    · subst hk
      simp [zbf, blkD]
    · rw [if_neg hk]
      simp only [zbf, List.getElem_mapIdx]
      by_cases hl : k < i
      · rw [if_pos hl, if_pos (by omega)]
      · rw [if_neg hl, if_neg (by omega)]
theorem zl8 {exit : List Int} {bl : List Bl} {i : Nat} : SubB (zbf exit bl i) bl := by
  refine ⟨zdh, fun k h1 h2 => ?_⟩
  simp only [zbf, List.getElem_mapIdx]
  split
  · exact ⟨rfl, zhc _⟩
  · exact ⟨rfl, List.Sublist.refl _⟩
theorem zma {b : Bl} : ∀ {l : List Bl} {i : Nat} (h : i < l.length), zA (l.set i b) + l[i].stmts.length = zA l + b.stmts.length
  | x :: l, 0, h => by simp only [zA, List.set_cons_zero, List.map_cons, List.sum_cons, List.getElem_cons_zero]; omega
  | x :: l, i + 1, h => by
    have := zma (b := b) (l := l) (i := i) (by simpa using h)
    simp only [zA, List.set_cons_succ, List.map_cons, List.sum_cons, List.getElem_cons_succ] at *
    omega
theorem zrM {exit : List Int} {x : List Bl} : zl5 exit x = if zA (zb4 exit x) = zA x then x else zl5 exit (zb4 exit x) := by
  unfold zl5
  rw [znE]
  split
  · rfl
  · have := (zcI (exit := exit) (bl := x)).count
    exact zmz _ _ _ (by omega) (by omega)
theorem zx8 {Q : QT} (ad : Int) (bl : List Bl) (exit U : List Int) (hU : GoodB U exit bl) (S T : Nat → MS) (hE : EndB U exit bl S T) (r0 : Nat) (hr0 : r0 + zA bl ≤ 1000000)
    (hfin : ∀ K H nx, Ent 0 K H nx [(1, za exit), (4, .ptr 0 0 0 0 0), (8, .ptr 1 0 0 0 0), (9, .int .i64 ((r0 + (zA bl - zA (zb4 exit bl)) : Nat) : Int)), (10, .bool (decide (zA (zb4 exit bl) < zA bl)))]
      [(0, .row 2 [[.int .u32 0, .nilsl]] 0), (1, .row 2 [[.int .u32 ad, .own 2 0 0 0 bl.length]] 0), (2, .row 2 ((zb4 exit bl).map Bl.cells) 0)] 3 → Q .normal K H nx)
    {K : Kn} {H : AH} {nx : Nat} (hent : Ent 0 K H nx [(1, za exit), (4, .ptr 0 0 0 0 0), (8, .ptr 1 0 0 0 0), (9, .int .i64 r0), (10, .bool false), (12, .own 3 0 0 0 bl.length), (35, .int .i64 bl.length), (36, .int .i64 0)] (za1 ad bl.length bl T) 5) :
    zhD Tryz.prog 0 zcD (za3 2 Q) K H nx := by
  have hB := hBig
  have hlen := hU.len
  refine zm (fun i : Nat => ([(1, za exit), (4, .ptr 0 0 0 0 0), (8, .ptr 1 0 0 0 0), (9, .int .i64 ((r0 + (zA bl - zA (zbf exit bl i)) : Nat) : Int)), (10, .bool (decide (zA (zbf exit bl i) < zA bl))), (12, .own 3 0 0 0 bl.length), (35, .int .i64 bl.length), (36, .int .i64 i)], za1 ad bl.length (zbf exit bl i) T)) 5
    (fun i => i ≤ bl.length) (fun i => bl.length - i) 0 (Nat.zero_le _) ?_ ?_
  · rw [zqc]
    simp only [Nat.sub_self, Nat.lt_irrefl, decide_false, Nat.add_zero]
    exact hent
  rintro i hi wf
  unfold zcD
  by_cases hil : i < bl.length
  · have hm := List.getElem_mem hil
    have hDl := zdh (exit := exit) (bl := bl) (i := i)
    have hDi := zr2 (exit := exit) hil
    have hDs := zsz (exit := exit) hil
    have hDc := (zl8 (exit := exit) (bl := bl) (i := i)).count
    have hcs := zma (b := ⟨bl[i].addr, (ziC exit bl[i].stmts (zaS exit bl i)).1⟩) (l := zbf exit bl i) (i := i) (by omega)
    rw [hDs, hDi] at hcs
    simp only at hcs
    have hDc1 := (zl8 (exit := exit) (bl := bl) (i := i + 1)).count
    have hT := hE.t i
    have hTl := hT.len
    have hks : zbS ((T i).2.map (·.1)) = zaS exit bl i := hE.keyT hil
    have hkl : (zaS exit bl i).length = (T i).2.length := by rw [← hks, (zP _).length_eq, List.length_map]
    have hcost := hU.cost _ hm
    have hok : (addL (0, []) (zaS exit bl i)).ok := zih zli (by simp only; omega) (by simp only [List.length_nil]; omega)
    have hbd := zcF (l := zaS exit bl i) (s := (0, []))
    simp only [List.length_nil] at hbd
    have hkeys : ∀ x, x ∈ (addL (0, []) (zaS exit bl i)).keys ↔ x ∈ zaS exit bl i := fun x => by rw [zds]; simp [MS.keys]
    obtain ⟨hkp, _⟩ := zoR (exit := exit) hkeys bl[i].stmts
    have hll := (zhc (exit := exit) (e := zaS exit bl i) bl[i].stmts).length_le
    have hstl := zjk hm
    have hl0 := fun (Q : QT) => zxN (Q := Q) ad bl.length i hil hlen (zbf exit bl i) hDl T exit bl[i].stmts (addL (0, []) (zaS exit bl i)) (r0 + (zA bl - zA (zbf exit bl i))) (decide (zA (zbf exit bl i) < zA bl)) (fun s hs => (hU.hsz _ hm s hs).1) hok (by omega) (by omega) (by omega) (by omega)
    simp only [hDi] at hl0
    rw [hkp, hDs] at hl0
    have hg : ((zbf exit bl i).map Bl.cells).getD i [] = [.int .u32 bl[i].addr, encL 8 St.cells bl[i].stmts] := by
      have := zt (f := Bl.cells) (d := []) (l := zbf exit bl i) (i := i) (by omega)
      rw [hDi] at this
      exact this
    have hDml : ((zbf exit bl i).map Bl.cells).length = bl.length := by rw [List.length_map, hDl]
    have hsa := zfz (0, []) (zaS exit bl i) zli (by simp only; omega) (by simp only [List.length_nil]; omega)
    generalize addL (0, []) (zaS exit bl i) = a0 at *
    generalize zaS exit bl i = lo at *
    clear hDi hDs hDl
    generalize hD : zbf exit bl i = D at *
    (repeat first | simp (disch := try exact dis1) only [evD, Nat.reduceBEq, Nat.reduceAdd, Nat.reduceLeDiff, dT, za1, za, zfp, zdV hil] | with_reducible intro _ | ((with_reducible apply And.intro); omega))
    refine zL [(0, 4, 0)] 1 _ (zbN bl.length i hil T hT.ok) rfl rfl (by (try simp only [evWB, Nat.reduceBEq, Nat.reduceAdd, Nat.reduceSub, Nat.reduceLeDiff, Nat.reduceLT, implies_true, famS]) <;> (repeat' with_reducible apply And.intro) <;> first | (refine zb zc (by decide) ⟨rfl, rfl⟩ ?_; (try simp only [evWB, Nat.reduceBEq, Nat.reduceAdd, Nat.reduceSub, Nat.reduceLeDiff, Nat.reduceLT, implies_true, famS]) <;> (repeat' with_reducible apply And.intro) <;> first | (refine zb zc (by decide) ⟨rfl, rfl⟩ ?_; (try simp only [evWB, Nat.reduceBEq, Nat.reduceAdd, Nat.reduceSub, Nat.reduceLeDiff, Nat.reduceLT, implies_true, famS]) <;> exact fin6; done) | exact fin6; done) | exact fin6) (by (try simp only [evWB, Nat.reduceBEq, Nat.reduceAdd, Nat.reduceSub, Nat.reduceLeDiff, Nat.reduceLT, implies_true, famS]) <;> (repeat' with_reducible apply And.intro) <;> first | (refine zb zc (by decide) ⟨rfl, rfl⟩ ?_; (try simp only [evWB, Nat.reduceBEq, Nat.reduceAdd, Nat.reduceSub, Nat.reduceLeDiff, Nat.reduceLT, implies_true, famS]) <;> (repeat' with_reducible apply And.intro) <;> first | (refine zb zc (by decide) ⟨rfl, rfl⟩ ?_; (try simp only [evWB, Nat.reduceBEq, Nat.reduceAdd, Nat.reduceSub, Nat.reduceLeDiff, Nat.reduceLT, implies_true, famS]) <;> exact fin6; done) | exact fin6; done) | exact fin6) ?_
    rintro _ _ _ ⟨rfl, rfl, rfl⟩
    (repeat first | simp (disch := try exact dis1) only [evD, Nat.reduceBEq, Nat.reduceAdd, Nat.reduceLeDiff, renE, renF, hks, za, zfp, zdV hil] | with_reducible intro _ | ((with_reducible apply And.intro); omega))
    refine zL [(0, 5, 0)] 1 _ (hsa) rfl rfl (by (try simp only [evWB, Nat.reduceBEq, Nat.reduceAdd, Nat.reduceSub, Nat.reduceLeDiff, Nat.reduceLT, implies_true, zh]) <;> (repeat' with_reducible apply And.intro) <;> first | (refine zb zc (by decide) ⟨rfl, rfl⟩ ?_; (try simp only [evWB, Nat.reduceBEq, Nat.reduceAdd, Nat.reduceSub, Nat.reduceLeDiff, Nat.reduceLT, implies_true, zh]) <;> (repeat' with_reducible apply And.intro) <;> first | (refine zb zc (by decide) ⟨rfl, rfl⟩ ?_; (try simp only [evWB, Nat.reduceBEq, Nat.reduceAdd, Nat.reduceSub, Nat.reduceLeDiff, Nat.reduceLT, implies_true, zh]) <;> exact fin6; done) | exact fin6; done) | exact fin6) (by (try simp only [evWB, Nat.reduceBEq, Nat.reduceAdd, Nat.reduceSub, Nat.reduceLeDiff, Nat.reduceLT, implies_true, zh]) <;> (repeat' with_reducible apply And.intro) <;> first | (refine zb zc (by decide) ⟨rfl, rfl⟩ ?_; (try simp only [evWB, Nat.reduceBEq, Nat.reduceAdd, Nat.reduceSub, Nat.reduceLeDiff, Nat.reduceLT, implies_true, zh]) <;> (repeat' with_reducible apply And.intro) <;> first | (refine zb zc (by decide) ⟨rfl, rfl⟩ ?_; (try simp only [evWB, Nat.reduceBEq, Nat.reduceAdd, Nat.reduceSub, Nat.reduceLeDiff, Nat.reduceLT, implies_true, zh]) <;> exact fin6; done) | exact fin6; done) | exact fin6) ?_
    rintro _ _ _ ⟨rfl, rfl, rfl⟩
    (repeat first | simp (disch := try exact dis1) only [evD, Nat.reduceBEq, Nat.reduceAdd, Nat.reduceLeDiff, renM, za, hg, hDml] | with_reducible intro _ | ((with_reducible apply And.intro); omega))
    refine hl0 _ ?_ ?_
    · intro K2 H2 nx2 he
      refine ⟨i + 1, by omega, by show bl.length - (i + 1) < bl.length - i; omega, ?_⟩
      have e1 : r0 + (zA bl - zA D) + (bl[i].stmts.length - (ziC exit bl[i].stmts lo).1.length) = r0 + (zA bl - zA (zbf exit bl (i + 1))) := by omega
      have e2 : (decide (zA D < zA bl) || decide ((ziC exit bl[i].stmts lo).1.length < bl[i].stmts.length)) = decide (zA (zbf exit bl (i + 1)) < zA bl) := by
        rw [← Bool.decide_or]
        exact decide_eq_decide.2 (by omega)
      rw [e1, e2] at he
      exact he
    · exact (Ent.tab [(0, 0, 0), (1, 1, 0), (2, 2, 0), (3, 3, 0), (4, 4, 0), (5, 5, 0), (6, 8, 0)] [] rfl (by (try simp only [evWB, Nat.reduceBEq, Nat.reduceAdd, Nat.reduceSub, Nat.reduceLeDiff, Nat.reduceLT, implies_true, za1, famS, List.cons_append, List.nil_append]) <;> (repeat' with_reducible apply And.intro) <;> first | (refine zb zc (by decide) ⟨rfl, rfl⟩ ?_; (try simp only [evWB, Nat.reduceBEq, Nat.reduceAdd, Nat.reduceSub, Nat.reduceLeDiff, Nat.reduceLT, implies_true, za1, famS, List.cons_append, List.nil_append]) <;> (repeat' with_reducible apply And.intro) <;> first | (refine zb zc (by decide) ⟨rfl, rfl⟩ ?_; (try simp only [evWB, Nat.reduceBEq, Nat.reduceAdd, Nat.reduceSub, Nat.reduceLeDiff, Nat.reduceLT, implies_true, za1, famS, List.cons_append, List.nil_append]) <;> exact fin6; done) | exact fin6; done) | exact fin6) (by (try simp only [evWB, Nat.reduceBEq, Nat.reduceAdd, Nat.reduceSub, Nat.reduceLeDiff, Nat.reduceLT, implies_true, za1, famS, List.cons_append, List.nil_append]) <;> (repeat' with_reducible apply And.intro) <;> first | (refine zb zc (by decide) ⟨rfl, rfl⟩ ?_; (try simp only [evWB, Nat.reduceBEq, Nat.reduceAdd, Nat.reduceSub, Nat.reduceLeDiff, Nat.reduceLT, implies_true, za1, famS, List.cons_append, List.nil_append]) <;> (repeat' with_reducible apply And.intro) <;> first | (refine zb zc (by decide) ⟨rfl, rfl⟩ ?_; (try simp only [evWB, Nat.reduceBEq, Nat.reduceAdd, Nat.reduceSub, Nat.reduceLeDiff, Nat.reduceLT, implies_true, za1, famS, List.cons_append, List.nil_append]) <;> exact fin6; done) | exact fin6; done) | exact fin6))
  · obtain rfl : i = bl.length := by omega
    rw [zpu]
    (repeat first | simp (disch := try exact dis1) only [evD, Nat.reduceBEq, Nat.reduceAdd, Nat.reduceLeDiff, dF] | with_reducible intro _ | ((with_reducible apply And.intro); omega))
    refine hfin _ _ _ ?_
    exact (Ent.tab [(0, 0, 0), (1, 1, 0), (2, 2, 0)] [] rfl (by (try simp only [evWB, Nat.reduceBEq, Nat.reduceAdd, Nat.reduceSub, Nat.reduceLeDiff, Nat.reduceLT, implies_true, za1, famS, za]) <;> (repeat' with_reducible apply And.intro) <;> first | (refine zb zc (by decide) ⟨rfl, rfl⟩ ?_; (try simp only [evWB, Nat.reduceBEq, Nat.reduceAdd, Nat.reduceSub, Nat.reduceLeDiff, Nat.reduceLT, implies_true, za1, famS, za]) <;> (repeat' with_reducible apply And.intro) <;> first | (refine zb zc (by decide) ⟨rfl, rfl⟩ ?_; (try simp only [evWB, Nat.reduceBEq, Nat.reduceAdd, Nat.reduceSub, Nat.reduceLeDiff, Nat.reduceLT, implies_true, za1, famS, za]) <;> exact fin6; done) | exact fin6; done) | exact fin6) (by (try simp only [evWB, Nat.reduceBEq, Nat.reduceAdd, Nat.reduceSub, Nat.reduceLeDiff, Nat.reduceLT, implies_true, za1, famS, za]) <;> (repeat' with_reducible apply And.intro) <;> first | (refine zb zc (by decide) ⟨rfl, rfl⟩ ?_; (try simp only [evWB, Nat.reduceBEq, Nat.reduceAdd, Nat.reduceSub, Nat.reduceLeDiff, Nat.reduceLT, implies_true, za1, famS, za]) <;> (repeat' with_reducible apply And.intro) <;> first | (refine zb zc (by decide) ⟨rfl, rfl⟩ ?_; (try simp only [evWB, Nat.reduceBEq, Nat.reduceAdd, Nat.reduceSub, Nat.reduceLeDiff, Nat.reduceLT, implies_true, za1, famS, za]) <;> exact fin6; done) | exact fin6; done) | exact fin6))
theorem zqI {F n g : Nat} : AObj.refs (.row 1 (mps F n) g) := by
  intro c hc
  obtain ⟨i, _, rfl⟩ := List.mem_map.1 hc
  rfl
theorem zxL (a : MC) : (cm a).all AV.ref0 = true := by
  unfold cm
  split <;> rfl
theorem zog {n : Nat} {S : Nat → MS} : AObj.refs (famS n S) := by
  intro p hp
  unfold fi at hp
  obtain ⟨i, _, rfl⟩ := List.mem_map.1 hp
  exact zwp zxL
theorem zwe {n : Nat} {S T : Nat → MS} : AH.refs (bdH n S T) := ⟨zqI, zqI, zog, zog, trivial⟩
structure RunD (U exit : List Int) (bl0 R x : List Bl) (m : Bool) : Prop where
  good : GoodB U exit x
  len : x.length = bl0.length
  cnt : zA x ≤ zA bl0
  go : zl5 exit x = R
  done : m = false → x = R
theorem RunD.next {U exit : List Int} {bl0 R x : List Bl} (h : RunD U exit bl0 R x true) :
    RunD U exit bl0 R (zb4 exit x) (decide (zA (zb4 exit x) < zA x)) ∧ 2 * zA (zb4 exit x) + (bif decide (zA (zb4 exit x) < zA x) then 1 else 0) < 2 * zA x + (bif true then 1 else 0) := by
  have hc := (zcI (exit := exit) (bl := x)).count
  have hg := h.go
  have hn := h.cnt
  rw [zrM] at hg
  refine ⟨⟨h.good.sub zcI, by rw [zhn]; exact h.len, by omega, ?_, fun hm => ?_⟩, ?_⟩
  · split at hg
    · rename_i he
      rw [zcI.same he]
      exact h.go
    · exact hg
  · have hm := of_decide_eq_false hm
    rw [if_pos (by omega)] at hg
    rw [zcI.same (by omega)]
    exact hg
  · by_cases hlt : zA (zb4 exit x) < zA x
    · rw [decide_eq_true hlt]
      simp only [cond_true]
      omega
    · rw [decide_eq_false hlt]
      simp only [cond_true, cond_false]
      omega
theorem zxs {Q : QT} (ad : Int) (bl0 R : List Bl) (exit U : List Int)
    (hcnt : zA bl0 ≤ 1000000)
    (hfin : wpX Tryz.prog 0 zbt Q [(4, .ptr 0 0 0 0 0), (8, .ptr 1 0 0 0 0), (9, .int .i64 ((zA bl0 - zA R : Nat) : Int)), (26, .bool false)]
      [(0, .row 2 [[.int .u32 0, .nilsl]] 0), (1, .row 2 [[.int .u32 ad, .own 2 0 0 0 bl0.length]] 0), (2, .row 2 (R.map Bl.cells) 0)] 3)
    {K : Kn} {H : AH} {nx : Nat} (hrun : RunD U exit bl0 R bl0 true) (hent : Ent 0 K H nx [(1, za exit), (4, .ptr 0 0 0 0 0), (8, .ptr 1 0 0 0 0), (9, .int .i64 0), (10, .bool true)]
      [(0, .row 2 [[.int .u32 0, .nilsl]] 0), (1, .row 2 [[.int .u32 ad, .own 2 0 0 0 bl0.length]] 0), (2, .row 2 (bl0.map Bl.cells) 0)] 3) :
    zhD Tryz.prog 0 zcp (za3 0 (seqQ Tryz.prog 0 zbt Q)) K H nx := by
  have hB := hBig
  refine zm (fun a : List Bl × Bool => ([(1, za exit), (4, .ptr 0 0 0 0 0), (8, .ptr 1 0 0 0 0), (9, .int .i64 ((zA bl0 - zA a.1 : Nat) : Int)), (10, .bool a.2)],
      [(0, .row 2 [[.int .u32 0, .nilsl]] 0), (1, .row 2 [[.int .u32 ad, .own 2 0 0 0 bl0.length]] 0), (2, .row 2 (a.1.map Bl.cells) 0)])) 3
    (fun a => RunD U exit bl0 R a.1 a.2) (fun a => 2 * zA a.1 + (bif a.2 then 1 else 0)) (bl0, true) hrun ?_ ?_
  · simp only [Nat.sub_self]
    exact hent
  rintro ⟨x, m⟩ hrn wf
  simp only at hrn
  unfold zcp
  cases m with
  | false =>
    obtain rfl := hrn.done rfl
    (repeat first | simp (disch := try exact dis1) only [evD, Nat.reduceBEq, Nat.reduceAdd, Nat.reduceLeDiff] | with_reducible intro _ | ((with_reducible apply And.intro); omega))
    exact hfin
  | true =>
    obtain ⟨n1, n2⟩ := hrn.next
    have hxl := hrn.len
    have hxc := hrn.cnt
    have hbd := ziN ⟨ad, x⟩ exit U hrn.good.univ
    have hxb := hrn.good.len
    have hml : (x.map Bl.cells).length = x.length := List.length_map _
    (repeat first | simp (disch := try exact dis1) only [evD, Nat.reduceBEq, Nat.reduceAdd, Nat.reduceLeDiff] | with_reducible intro _ | ((with_reducible apply And.intro); omega))
    refine zrW (D := inD [2]) hbd (.cons (.agg _ _ _ rfl (fun j a c h1 h2 => ?_)) (.cons (zJ rfl) .nil)) ?_ ?_
    · match j with
      | 0 => cases h1; cases h2; exact .int _ _ _
      | 1 => cases h1; cases h2; rw [← hxl]; exact ztV rfl rfl (by omega)
      | j + 2 => cases h1
    · rintro _ _ _ ⟨S, T, rfl, rfl, rfl, _⟩
      exact ⟨rfl, zwe⟩
    rintro _ _ _ ⟨S, T, rfl, rfl, rfl, hend⟩
    simp only at hend
    (repeat first | simp (disch := try exact dis1) only [evD, Nat.reduceBEq, Nat.reduceAdd, Nat.reduceLeDiff, bdH, renP, renF] | with_reducible intro _ | ((with_reducible apply And.intro); omega))
    refine zx8 ad x exit U hrn.good S T hend (zA bl0 - zA x) (by omega) ?_ ?_
    · intro K2 H2 nx2 he
      refine ⟨(zb4 exit x, _), n1, n2, ?_⟩
      have hc := (zcI (exit := exit) (bl := x)).count
      have e1 : zA bl0 - zA x + (zA x - zA (zb4 exit x)) = zA bl0 - zA (zb4 exit x) := by omega
      rw [e1, hxl] at he
      exact he
    · rw [hxl]
      exact (Ent.tab [(0, 0, 0), (1, 1, 0), (2, 2, 0), (3, 4, 0), (4, 6, 0)] [] rfl (by (try simp only [evWB, Nat.reduceBEq, Nat.reduceAdd, Nat.reduceSub, Nat.reduceLeDiff, Nat.reduceLT, implies_true, za1, famS]) <;> (repeat' with_reducible apply And.intro) <;> first | (refine zb zc (by decide) ⟨rfl, rfl⟩ ?_; (try simp only [evWB, Nat.reduceBEq, Nat.reduceAdd, Nat.reduceSub, Nat.reduceLeDiff, Nat.reduceLT, implies_true, za1, famS]) <;> (repeat' with_reducible apply And.intro) <;> first | (refine zb zc (by decide) ⟨rfl, rfl⟩ ?_; (try simp only [evWB, Nat.reduceBEq, Nat.reduceAdd, Nat.reduceSub, Nat.reduceLeDiff, Nat.reduceLT, implies_true, za1, famS]) <;> exact fin6; done) | exact fin6; done) | exact fin6) (by (try simp only [evWB, Nat.reduceBEq, Nat.reduceAdd, Nat.reduceSub, Nat.reduceLeDiff, Nat.reduceLT, implies_true, za1, famS]) <;> (repeat' with_reducible apply And.intro) <;> first | (refine zb zc (by decide) ⟨rfl, rfl⟩ ?_; (try simp only [evWB, Nat.reduceBEq, Nat.reduceAdd, Nat.reduceSub, Nat.reduceLeDiff, Nat.reduceLT, implies_true, za1, famS]) <;> (repeat' with_reducible apply And.intro) <;> first | (refine zb zc (by decide) ⟨rfl, rfl⟩ ?_; (try simp only [evWB, Nat.reduceBEq, Nat.reduceAdd, Nat.reduceSub, Nat.reduceLeDiff, Nat.reduceLT, implies_true, za1, famS]) <;> exact fin6; done) | exact fin6; done) | exact fin6))
def zwO (g : G) (exit : List Int) : AV := if zmo g = 0 then .tup [.agg (G.cells ⟨g.addr, zl5 exit g.blocks⟩), .int .i64 ((zA g.blocks - zA (zl5 exit g.blocks) : Nat) : Int), .int .i64 0] else .tup [.agg (G.cells ⟨0, []⟩), .int .i64 0, .int .i64 (zmo g)]
theorem zu6 {exit : List Int} {bl : List Bl} : (zl5 exit bl).length = bl.length := (zoo _ _).1
theorem zgo (g : G) (exit U : List Int) (hU : GoodB U exit g.blocks) (hf : fewB g) : zD Tryz.prog zcX [.agg g.cells, za exit] (· = zwO g exit) := by
  refine fn_x zkj rfl ?_
  unfold zgt zwO
  have hB := hBig
  have hcg := zj9 g hf (fun b hb s hs => by have := (hU.hsz b hb s hs).2; omega)
  have hcp := zuC g hU.len (fun b hb => Nat.le_trans (zjk hb) hU.cnt) (fun b hb s hs => ⟨(hU.hsz b hb s hs).1, by have := (hU.hsz b hb s hs).2; omega⟩)
  have hpl := zu6 (exit := exit) (bl := g.blocks)
  have hlen := hU.len
  have hcnt := hU.cnt
  obtain ⟨ad, bl⟩ := g
  simp only [G.cells] at hcg hcp hpl hU hlen hcnt ⊢
  (repeat first | simp (disch := try exact dis1) only [evD, Nat.reduceBEq, Nat.reduceAdd, Nat.reduceLeDiff, fldP, za, znc, tab, List.getD_cons_zero, List.getD_cons_succ] | with_reducible intro _ | ((with_reducible apply And.intro); omega))
  refine zn (zo hcg rfl) ?_
  by_cases hc : zmo ⟨ad, bl⟩ = 0
  · rw [if_pos hc, hc]
    (repeat first | simp (disch := try exact dis1) only [evD, Nat.reduceBEq, Nat.reduceAdd, Nat.reduceLeDiff, dF, fldP, za, znc, tab, List.getD_cons_zero, List.getD_cons_succ] | with_reducible intro _ | ((with_reducible apply And.intro); omega))
    refine zL [] 0 _ (hcp) rfl rfl (by (try simp only [evWB, Nat.reduceBEq, Nat.reduceAdd, Nat.reduceSub, Nat.reduceLeDiff, Nat.reduceLT, implies_true]) <;> exact fin6) (by (try simp only [evWB, Nat.reduceBEq, Nat.reduceAdd, Nat.reduceSub, Nat.reduceLeDiff, Nat.reduceLT, implies_true]) <;> exact fin6) ?_
    rintro _ _ _ ⟨rfl, rfl, rfl⟩
    have hrb : ∀ {ρ : Nat → Nat} {l : List Bl} {g : Nat}, AObj.ren ρ (.row 2 (l.map Bl.cells) g) = .row 2 (l.map Bl.cells) g := fun {ρ l g} => by
      simp only [AObj.ren]
      rw [zfU (zg fun s => rfl)]
    (repeat first | simp (disch := try exact dis1) only [evD, Nat.reduceBEq, Nat.reduceAdd, Nat.reduceLeDiff, hrb] | with_reducible intro _ | ((with_reducible apply And.intro); omega))
    refine zxs ad bl (zl5 exit bl) exit U hcnt ?_ ⟨hU, rfl, Nat.le_refl _, rfl, fun h => by cases h⟩ ?_
    · unfold zbt
      (repeat first | simp (disch := try exact dis1) only [evD, Nat.reduceBEq, Nat.reduceAdd, Nat.reduceLeDiff, zdO] | with_reducible intro _ | ((with_reducible apply And.intro); omega))
      refine ⟨.tup [.agg [.int .u32 ad, encL 2 Bl.cells (zl5 exit bl)], .int .i64 ((zA bl - zA (zl5 exit bl) : Nat) : Int), .int .i64 0], .tup _ _ _ rfl (fun j a c h1 h2 => ?_), rfl⟩
      match j with
      | 0 =>
        cases h1; cases h2
        refine .agg _ _ _ rfl (fun j a c h1 h2 => ?_)
        match j with
        | 0 => cases h1; cases h2; exact .int _ _ _
        | 1 => cases h1; cases h2; rw [← hpl]; exact ztV trivial rfl (by omega)
        | j + 2 => cases h1
      | 1 => cases h1; cases h2; exact .int _ _ _
      | 2 => cases h1; cases h2; exact .int _ _ _
      | j + 3 => cases h1
    · exact (Ent.tab [(0, 0, 0), (1, 2, 0), (2, 1, 0)] [] rfl (by (try simp only [evWB, Nat.reduceBEq, Nat.reduceAdd, Nat.reduceSub, Nat.reduceLeDiff, Nat.reduceLT, implies_true, za]) <;> exact fin2) (by (try simp only [evWB, Nat.reduceBEq, Nat.reduceAdd, Nat.reduceSub, Nat.reduceLeDiff, Nat.reduceLT, implies_true, za]) <;> exact fin2))
  · rw [if_neg hc]
    (repeat first | simp (disch := try exact dis1) only [evD, Nat.reduceBEq, Nat.reduceAdd, Nat.reduceLeDiff, fldP, dT, za, zdO] | with_reducible intro _ | ((with_reducible apply And.intro); omega))
    refine ⟨.tup [.agg [.int .u32 0, encL 2 Bl.cells []], .int .i64 0, .int .i64 (zmo ⟨ad, bl⟩)], .tup _ _ _ rfl (fun j a c h1 h2 => ?_), rfl⟩
    match j with
    | 0 =>
      cases h1; cases h2
      refine .agg _ _ _ rfl (fun j a c h1 h2 => ?_)
      match j with
      | 0 => cases h1; cases h2; exact .int _ _ _
      | 1 => cases h1; cases h2; exact .nil0 _ _ _
      | j + 2 => cases h1
    | 1 => cases h1; cases h2; exact .int _ _ _
    | 2 => cases h1; cases h2; exact .int _ _ _
    | j + 3 => cases h1
structure FewD (exit : List Int) (bl : List Bl) : Prop where
  sz : ∀ b ∈ bl, ∀ s ∈ b.stmts, zw s.e ≤ 100000 ∧ s.cases.length ≤ 100000 ∧ (s.op = 1 → s.e.length = 1)
  len : bl.length ≤ 1000000
  cnt : zA bl ≤ 1000
  uni : (univ exit bl).length + exit.length ≤ 400000
structure RunR (exit : List Int) (bl0 R x : List Bl) (k : Nat) : Prop where
  few : FewD exit x
  len : x.length = bl0.length
  cnt : k + zA x ≤ zA bl0
  go : ∀ j, zA x < j → deadR exit j x = R
theorem znx : ∀ (k : Nat) (e : Ex) (m n : Int), zbq e ≤ k → -1000 ≤ m → m ≤ 1000 → -1 ≤ n → n ≤ 30000 → zD Tryz.prog zgd [.agg (encX e), .int .i64 m, .int .i64 n] (· = .int .i64 (ze6 e m n)) := by
  intro k
  induction k with
  | zero => intro e m n h; obtain ⟨_, _, _, _, l⟩ := e; rw [zbq] at h; omega
  | succ k ih =>
  intro e m n hk h1 h2 h3 h4
  obtain ⟨op, nn, v, w, l⟩ := e
  refine fn_x zoV rfl ?_
  unfold zjG
  have hB := hBig
  rw [zbq] at hk
  have hR := ze8 (.mk op nn v w l) m n h3
  rw [ze6] at hR ⊢
  generalize hE : encX (.mk op nn v w l) = E
  rw [zcf] at hE
  subst hE
  by_cases c1 : m < 1
  · rw [if_pos (.inl c1)]
    (repeat first | simp (disch := try exact dis1) only [evD, Nat.reduceBEq, Nat.reduceAdd, Nat.reduceLeDiff, dT, zcH] | with_reducible intro _ | ((with_reducible apply And.intro); omega))
    exact ⟨_, .int _ _ _, rfl⟩
  by_cases c2 : n < 1
  · rw [if_pos (.inr (.inl c2))]
    (repeat first | simp (disch := try exact dis1) only [evD, Nat.reduceBEq, Nat.reduceAdd, Nat.reduceLeDiff, dT, dF, zcH] | with_reducible intro _ | ((with_reducible apply And.intro); omega))
    exact ⟨_, .int _ _ _, rfl⟩
  by_cases c3 : 4 < l.length
  · rw [if_pos (.inr (.inr c3))]
    (repeat first | simp (disch := try exact dis1) only [evD, Nat.reduceBEq, Nat.reduceAdd, Nat.reduceLeDiff, dT, dF, zcH] | with_reducible intro _ | ((with_reducible apply And.intro); omega))
    exact ⟨_, .int _ _ _, rfl⟩
  rw [if_neg (by omega)] at hR ⊢
  (repeat first | simp (disch := try exact dis1) only [evD, Nat.reduceBEq, Nat.reduceAdd, Nat.reduceLeDiff, dF] | with_reducible intro _ | ((with_reducible apply And.intro); omega))
  generalize hG : zaP l (m - 1) (n - 1) = R at hR ⊢
  refine zm (fun s : Nat × Int => ([(1, .int .i64 m), (3, encP 5 [.int .i64 op, .int .u32 nn, .int .i64 v, .int .i64 w, encL 5 encX l]), (7, .int .i64 s.2), (8, .int .i64 s.1)], [])) 0 (fun s => s.1 ≤ l.length ∧ -1 ≤ s.2 ∧ s.2 ≤ n ∧ zaP (l.drop s.1) (m - 1) s.2 = R) (fun s => l.length - s.1) (0, n - 1) ⟨Nat.zero_le _, by simp only; omega, by simp only; omega, hG⟩ (Ent.keep rfl fin5) ?_
  rintro ⟨i, x⟩ ⟨hi, hx1, hx2, hgo⟩ wf
  simp only at hi hx1 hx2 hgo
  unfold zg7
  by_cases hl : i < l.length
  · by_cases hx : 0 ≤ x
    · rw [zjV hl hx] at hgo
      have hm := zcR (List.getElem_mem hl)
      have hr := ze8 l[i] (m - 1) x hx1
      (repeat first | simp (disch := try exact dis1) only [evD, Nat.reduceBEq, Nat.reduceAdd, Nat.reduceLeDiff, fldP, dT, dF, zt hl, zbp, zaQ] | with_reducible intro _ | ((with_reducible apply And.intro); omega))
      refine zn (zo (ih l[i] (m - 1) x (by omega) (by omega) (by omega) (by omega) (by omega)) (flX rfl)) ?_
      (repeat first | simp (disch := try exact dis1) only [evD, Nat.reduceBEq, Nat.reduceAdd, Nat.reduceLeDiff] | with_reducible intro _ | ((with_reducible apply And.intro); omega))
      exact ⟨(i + 1, ze6 l[i] (m - 1) x), ⟨by simp only; omega, by simp only; omega, by simp only; omega, hgo⟩, by simp only; omega, Ent.keep rfl fin5⟩
    · rw [zio (by omega)] at hgo
      subst hgo
      (repeat first | simp (disch := try exact dis1) only [evD, Nat.reduceBEq, Nat.reduceAdd, Nat.reduceLeDiff, fldP, dT, dF] | with_reducible intro _ | ((with_reducible apply And.intro); omega))
      unfold zej
      (repeat first | simp (disch := try exact dis1) only [evD, Nat.reduceBEq, Nat.reduceAdd, Nat.reduceLeDiff, zcH] | with_reducible intro _ | ((with_reducible apply And.intro); omega))
      exact ⟨_, .int _ _ _, rfl⟩
  · rw [List.drop_of_length_le (by omega), zaP] at hgo
    subst hgo
    (repeat first | simp (disch := try exact dis1) only [evD, Nat.reduceBEq, Nat.reduceAdd, Nat.reduceLeDiff, fldP, dT, dF] | with_reducible intro _ | ((with_reducible apply And.intro); omega))
    unfold zej
    (repeat first | simp (disch := try exact dis1) only [evD, Nat.reduceBEq, Nat.reduceAdd, Nat.reduceLeDiff, zcH] | with_reducible intro _ | ((with_reducible apply And.intro); omega))
    exact ⟨_, .int _ _ _, rfl⟩
def zp8 (s : St) (n : Int) : Int := if 4 < s.e.length ∨ 100 < s.cases.length then -1 else zaP s.e 8 n
def zeB : List St → Int → Int
  | [], n => n
  | s :: l, n => if n < 0 then n else zeB l (zp8 s n)
def zqm (b : Bl) (n : Int) : Int := if 1100 < b.stmts.length then -1 else zeB b.stmts n
def zez : List Bl → Int → Int
  | [], n => n
  | b :: l, n => if n < 0 then n else zez l (zqm b n)
def zot (g : G) : Bool := decide (g.blocks.length ≤ 300) && decide (0 ≤ zez g.blocks 20000)
def zoQ (g : G) (exit : List Int) : Bool := decide (g.blocks.length ≤ 12) && (decide (exit.length ≤ 20) && (zot g && g.blocks.all fun b => decide (b.stmts.length ≤ 12)))
theorem zqx {l : List St} {i : Nat} {n : Int} (h : i < l.length) (hn : 0 ≤ n) : zeB (l.drop i) n = zeB (l.drop (i + 1)) (zp8 l[i] n) := by
  rw [List.drop_eq_getElem_cons h, zeB, if_neg (by omega)]
theorem zhq {l : List St} {n : Int} (hn : n < 0) : zeB l n = n := by
  cases l with
  | nil => rw [zeB]
  | cons a l => rw [zeB, if_pos hn]
theorem zqC {l : List Bl} {i : Nat} {n : Int} (h : i < l.length) (hn : 0 ≤ n) : zez (l.drop i) n = zez (l.drop (i + 1)) (zqm l[i] n) := by
  rw [List.drop_eq_getElem_cons h, zez, if_neg (by omega)]
theorem zjc {l : List Bl} {n : Int} (hn : n < 0) : zez l n = n := by
  cases l with
  | nil => rw [zez]
  | cons a l => rw [zez, if_pos hn]
theorem zjz (g : G) : zD Tryz.prog zdU [.agg g.cells, .int .i64 8] (· = .bool (zot g)) := by
  refine fn_x zi8 rfl ?_
  unfold zfF zot
  have hB := hBig
  obtain ⟨ad, bl⟩ := g
  simp only [G.cells]
  by_cases h300 : 300 < bl.length
  · rw [decide_eq_false (by omega), Bool.false_and]
    (repeat first | simp (disch := try exact dis1) only [evD, Nat.reduceBEq, Nat.reduceAdd, Nat.reduceLeDiff, fldP, dT, zal] | with_reducible intro _ | ((with_reducible apply And.intro); omega))
    exact ⟨_, .bool _ _, rfl⟩
  rw [decide_eq_true (by omega), Bool.true_and]
  generalize hR : zez bl 20000 = R
  have fin : R < 0 → decide (0 ≤ R) = false := fun h => decide_eq_false (by omega)
  (repeat first | simp (disch := try exact dis1) only [evD, Nat.reduceBEq, Nat.reduceAdd, Nat.reduceLeDiff, fldP, dF] | with_reducible intro _ | ((with_reducible apply And.intro); omega))
  refine zm (fun a : Nat × Int => ([(1, .int .i64 8), (2, encP 2 [.int .u32 ad, encL 2 Bl.cells bl]), (5, .int .i64 a.2), (6, .int .i64 a.1)], [])) 0 (fun a => a.1 ≤ bl.length ∧ 0 ≤ a.2 ∧ a.2 ≤ 20000 ∧ zez (bl.drop a.1) a.2 = R) (fun a => bl.length - a.1) (0, 20000) ⟨Nat.zero_le _, by simp only; omega, by simp only; omega, hR⟩ (Ent.keep rfl fin5) ?_
  rintro ⟨i, n⟩ ⟨hi, hn1, hn2, hgo⟩ wf
  simp only at hi hn1 hn2 hgo
  unfold zdW
  by_cases hil : i < bl.length
  case neg =>
    rw [List.drop_of_length_le (by omega), zez] at hgo
    subst hgo
    rw [decide_eq_true hn1]
    (repeat first | simp (disch := try exact dis1) only [evD, Nat.reduceBEq, Nat.reduceAdd, Nat.reduceLeDiff, fldP, dF] | with_reducible intro _ | ((with_reducible apply And.intro); omega))
    unfold zd4
    (repeat first | simp (disch := try exact dis1) only [evD, Nat.reduceBEq, Nat.reduceAdd, Nat.reduceLeDiff, zal] | with_reducible intro _ | ((with_reducible apply And.intro); omega))
    exact ⟨_, .bool _ _, rfl⟩
  have hg : (bl.map Bl.cells).getD i [] = [.int .u32 bl[i].addr, encL 8 St.cells bl[i].stmts] := zt hil
  rw [zqC hil hn1] at hgo
  unfold zqm at hgo
  generalize bl[i].addr = ad2 at hg
  generalize bl[i].stmts = m at hg hgo
  by_cases h11 : 1100 < m.length
  · rw [if_pos h11, zjc (by omega)] at hgo
    rw [fin (by omega)]
    (repeat first | simp (disch := try exact dis1) only [evD, Nat.reduceBEq, Nat.reduceAdd, Nat.reduceLeDiff, fldP, dT, hg, zal] | with_reducible intro _ | ((with_reducible apply And.intro); omega))
    exact ⟨_, .bool _ _, rfl⟩
  rw [if_neg h11] at hgo
  (repeat first | simp (disch := try exact dis1) only [evD, Nat.reduceBEq, Nat.reduceAdd, Nat.reduceLeDiff, fldP, dT, dF, hg] | with_reducible intro _ | ((with_reducible apply And.intro); omega))
  generalize hM : zeB m n = M at hgo
  have hMR : M < 0 → R < 0 := fun h => by rw [zjc h] at hgo; omega
  refine zm (fun a : Nat × Int => ([(1, .int .i64 8), (2, encP 2 [.int .u32 ad, encL 2 Bl.cells bl]), (5, .int .i64 a.2), (6, .int .i64 i), (7, .int .i64 a.1)], [])) 0 (fun a => a.1 ≤ m.length ∧ 0 ≤ a.2 ∧ a.2 ≤ 20000 ∧ zeB (m.drop a.1) a.2 = M) (fun a => m.length - a.1) (0, n) ⟨Nat.zero_le _, hn1, hn2, hM⟩ (Ent.keep rfl fin5) ?_
  rintro ⟨k, n2⟩ ⟨hk, hk1, hk2, hgo2⟩ wf2
  simp only at hk hk1 hk2 hgo2
  unfold zdZ
  by_cases hkl : k < m.length
  case neg =>
    rw [List.drop_of_length_le (by omega), zeB] at hgo2
    subst hgo2
    (repeat first | simp (disch := try exact dis1) only [evD, Nat.reduceBEq, Nat.reduceAdd, Nat.reduceLeDiff, fldP, dF, hg] | with_reducible intro _ | ((with_reducible apply And.intro); omega))
    unfold zd2
    (repeat first | simp (disch := try exact dis1) only [evD, Nat.reduceBEq, Nat.reduceAdd, Nat.reduceLeDiff] | with_reducible intro _ | ((with_reducible apply And.intro); omega))
    exact ⟨(i + 1, n2), ⟨by simp only; omega, hk1, hk2, hgo⟩, by simp only; omega, Ent.keep rfl fin5⟩
  have hgm := zt (f := St.cells) (d := []) hkl
  rw [zqx hkl hk1] at hgo2
  unfold zp8 at hgo2
  generalize m[k] = s at hgm hgo2
  obtain ⟨op, var, width, next, els, tgt, e, cs⟩ := s
  simp only at hgo2
  simp only [St.cells] at hgm
  by_cases h4 : 4 < e.length
  · rw [if_pos (.inl h4), zhq (by omega)] at hgo2
    have := hMR (by omega)
    rw [fin this]
    (repeat first | simp (disch := try exact dis1) only [evD, Nat.reduceBEq, Nat.reduceAdd, Nat.reduceLeDiff, fldP, dT, hg, hgm, zal] | with_reducible intro _ | ((with_reducible apply And.intro); omega))
    exact ⟨_, .bool _ _, rfl⟩
  by_cases h100 : 100 < cs.length
  · rw [if_pos (.inr h100), zhq (by omega)] at hgo2
    have := hMR (by omega)
    rw [fin this]
    (repeat first | simp (disch := try exact dis1) only [evD, Nat.reduceBEq, Nat.reduceAdd, Nat.reduceLeDiff, fldP, dT, dF, hg, hgm, za, zal] | with_reducible intro _ | ((with_reducible apply And.intro); omega))
    exact ⟨_, .bool _ _, rfl⟩
  rw [if_neg (by omega)] at hgo2
  generalize hE : zaP e 8 n2 = E at hgo2
  have hEM : E < 0 → M < 0 := fun h => by rw [zhq h] at hgo2; omega
  (repeat first | simp (disch := try exact dis1) only [evD, Nat.reduceBEq, Nat.reduceAdd, Nat.reduceLeDiff, fldP, dT, dF, hg, hgm, za] | with_reducible intro _ | ((with_reducible apply And.intro); omega))
  refine zm (fun a : Nat × Int => ([(1, .int .i64 8), (2, encP 2 [.int .u32 ad, encL 2 Bl.cells bl]), (5, .int .i64 a.2), (6, .int .i64 i), (7, .int .i64 k), (8, .ptr 0 0 0 0 0), (9, .int .i64 a.1)], [(0, .row 8 [[.int .i64 op, .int .i64 var, .int .i64 width, .int .i64 next, .int .i64 els, .int .u32 tgt, encL 5 encX e, za cs]] 0)])) 1 (fun a => a.1 ≤ e.length ∧ 0 ≤ a.2 ∧ a.2 ≤ 20000 ∧ zaP (e.drop a.1) 8 a.2 = E) (fun a => e.length - a.1) (0, n2) ⟨Nat.zero_le _, hk1, hk2, hE⟩ (Ent.tab [(0, 0, 0)] [] rfl (by (try simp only [evWB, Nat.reduceBEq, Nat.reduceAdd, Nat.reduceSub, Nat.reduceLeDiff, Nat.reduceLT, implies_true, za]) <;> exact fin2) (by (try simp only [evWB, Nat.reduceBEq, Nat.reduceAdd, Nat.reduceSub, Nat.reduceLeDiff, Nat.reduceLT, implies_true, za]) <;> exact fin2)) ?_
  rintro ⟨j, n3⟩ ⟨hj, hj1, hj2, hgo3⟩ wf3
  simp only at hj hj1 hj2 hgo3
  unfold zd6
  by_cases hjl : j < e.length
  case neg =>
    rw [List.drop_of_length_le (by omega), zaP] at hgo3
    subst hgo3
    (repeat first | simp (disch := try exact dis1) only [evD, Nat.reduceBEq, Nat.reduceAdd, Nat.reduceLeDiff, fldP, dF, hg] | with_reducible intro _ | ((with_reducible apply And.intro); omega))
    unfold zd1
    (repeat first | simp (disch := try exact dis1) only [evD, Nat.reduceBEq, Nat.reduceAdd, Nat.reduceLeDiff] | with_reducible intro _ | ((with_reducible apply And.intro); omega))
    exact ⟨(k + 1, n3), ⟨by simp only; omega, hj1, hj2, hgo2⟩, by simp only; omega, (Ent.tab [] [] rfl (by (try simp only [evWB, Nat.reduceBEq, Nat.reduceAdd, Nat.reduceSub, Nat.reduceLeDiff, Nat.reduceLT, implies_true, za]) <;> exact fin2) (by (try simp only [evWB, Nat.reduceBEq, Nat.reduceAdd, Nat.reduceSub, Nat.reduceLeDiff, Nat.reduceLT, implies_true, za]) <;> exact fin2))⟩
  rw [zjV hjl hj1] at hgo3
  have hr := ze8 e[j] 8 n3 (by omega)
  (repeat first | simp (disch := try exact dis1) only [evD, Nat.reduceBEq, Nat.reduceAdd, Nat.reduceLeDiff, fldP, dT, dF, zt hjl, zbp, zaQ, za] | with_reducible intro _ | ((with_reducible apply And.intro); omega))
  refine zn (zo (znx (zbq e[j]) e[j] 8 n3 (Nat.le_refl _) (by omega) (by omega) (by omega) (by omega)) (flX rfl)) ?_
  by_cases hx : ze6 e[j] 8 n3 < 0
  · rw [zio hx] at hgo3
    have := hMR (hEM (by omega))
    rw [fin this]
    (repeat first | simp (disch := try exact dis1) only [evD, Nat.reduceBEq, Nat.reduceAdd, Nat.reduceLeDiff, dT, zal] | with_reducible intro _ | ((with_reducible apply And.intro); omega))
    exact ⟨_, .bool _ _, rfl⟩
  · (repeat first | simp (disch := try exact dis1) only [evD, Nat.reduceBEq, Nat.reduceAdd, Nat.reduceLeDiff, dF] | with_reducible intro _ | ((with_reducible apply And.intro); omega))
    exact ⟨(j + 1, ze6 e[j] 8 n3), ⟨by simp only; omega, by simp only; omega, by simp only; omega, hgo3⟩, by simp only; omega, (Ent.tab [(0, 0, 0)] [] rfl (by (try simp only [evWB, Nat.reduceBEq, Nat.reduceAdd, Nat.reduceSub, Nat.reduceLeDiff, Nat.reduceLT, implies_true, za]) <;> exact fin2) (by (try simp only [evWB, Nat.reduceBEq, Nat.reduceAdd, Nat.reduceSub, Nat.reduceLeDiff, Nat.reduceLT, implies_true, za]) <;> exact fin2))⟩
theorem znM (g : G) (exit : List Int) : zD Tryz.prog zib [.agg g.cells, za exit] (· = .bool (zoQ g exit)) := by
  refine fn_x zoL rfl ?_
  unfold zjH zoQ
  have hB := hBig
  have hsg := zjz g
  generalize zot g = sg at hsg
  obtain ⟨ad, bl⟩ := g
  simp only [G.cells] at hsg ⊢
  by_cases h12 : 12 < bl.length
  · rw [decide_eq_false (by omega), Bool.false_and]
    (repeat first | simp (disch := try exact dis1) only [evD, Nat.reduceBEq, Nat.reduceAdd, Nat.reduceLeDiff, fldP, dT, za, zcE] | with_reducible intro _ | ((with_reducible apply And.intro); omega))
    exact ⟨_, .bool _ _, rfl⟩
  rw [decide_eq_true (by omega), Bool.true_and]
  by_cases h20 : 20 < exit.length
  · rw [decide_eq_false (by omega), Bool.false_and]
    (repeat first | simp (disch := try exact dis1) only [evD, Nat.reduceBEq, Nat.reduceAdd, Nat.reduceLeDiff, fldP, dT, dF, za, zcE] | with_reducible intro _ | ((with_reducible apply And.intro); omega))
    exact ⟨_, .bool _ _, rfl⟩
  rw [decide_eq_true (by omega), Bool.true_and]
  (repeat first | simp (disch := try exact dis1) only [evD, Nat.reduceBEq, Nat.reduceAdd, Nat.reduceLeDiff, fldP, dT, dF, za, znc, tab, List.getD_cons_zero, List.getD_cons_succ] | with_reducible intro _ | ((with_reducible apply And.intro); omega))
  refine zn (zo hsg rfl) ?_
  cases sg with
  | false =>
    rw [Bool.false_and]
    (repeat first | simp (disch := try exact dis1) only [evD, Nat.reduceBEq, Nat.reduceAdd, Nat.reduceLeDiff, zcE] | with_reducible intro _ | ((with_reducible apply And.intro); omega))
    exact ⟨_, .bool _ _, rfl⟩
  | true =>
  rw [Bool.true_and]
  generalize hR : (bl.all fun b => decide (b.stmts.length ≤ 12)) = R
  (repeat first | simp (disch := try exact dis1) only [evD, Nat.reduceBEq, Nat.reduceAdd, Nat.reduceLeDiff, fldP] | with_reducible intro _ | ((with_reducible apply And.intro); omega))
  refine zm (fun i : Nat => ([(2, encP 2 [.int .u32 ad, encL 2 Bl.cells bl]), (5, .int .i64 i)], [])) 0 (fun i => i ≤ bl.length ∧ ((bl.drop i).all fun b => decide (b.stmts.length ≤ 12)) = R) (fun i => bl.length - i) 0 ⟨Nat.zero_le _, hR⟩ (Ent.keep rfl fin5) ?_
  rintro i ⟨hi, hgo⟩ wf
  unfold zg6
  by_cases hil : i < bl.length
  · have hg : (bl.map Bl.cells).getD i [] = [.int .u32 bl[i].addr, encL 8 St.cells bl[i].stmts] := zt hil
    rw [List.drop_eq_getElem_cons hil, List.all_cons] at hgo
    by_cases h : 12 < bl[i].stmts.length
    · rw [decide_eq_false (by omega), Bool.false_and] at hgo
      rw [← hgo]
      (repeat first | simp (disch := try exact dis1) only [evD, Nat.reduceBEq, Nat.reduceAdd, Nat.reduceLeDiff, fldP, dT, hg, zcE] | with_reducible intro _ | ((with_reducible apply And.intro); omega))
      exact ⟨_, .bool _ _, rfl⟩
    · rw [decide_eq_true (by omega), Bool.true_and] at hgo
      (repeat first | simp (disch := try exact dis1) only [evD, Nat.reduceBEq, Nat.reduceAdd, Nat.reduceLeDiff, fldP, dT, dF, hg] | with_reducible intro _ | ((with_reducible apply And.intro); omega))
      exact ⟨i + 1, ⟨by omega, hgo⟩, by omega, Ent.keep rfl fin5⟩
  · rw [List.drop_of_length_le (by omega)] at hgo
    rw [← hgo]
    (repeat first | simp (disch := try exact dis1) only [evD, Nat.reduceBEq, Nat.reduceAdd, Nat.reduceLeDiff, fldP, dF] | with_reducible intro _ | ((with_reducible apply And.intro); omega))
    unfold zgC
    (repeat first | simp (disch := try exact dis1) only [evD, Nat.reduceBEq, Nat.reduceAdd, Nat.reduceLeDiff, zcE] | with_reducible intro _ | ((with_reducible apply And.intro); omega))
    exact ⟨_, .bool _ _, rfl⟩
mutual
theorem zsS : ∀ (e : Ex) (m n : Int), 0 ≤ ze6 e m n → (zbq e : Int) + ze6 e m n ≤ n
  | .mk _ _ _ _ l, m, n, h => by
    rw [ze6] at h ⊢
    split
    · rename_i hc
      rw [if_pos hc] at h
      omega
    · rename_i hc
      rw [if_neg hc] at h
      have := zjq l (m - 1) (n - 1) (by omega) h
      rw [zbq]
      omega
theorem zjq : ∀ (l : List Ex) (m n : Int), 0 ≤ n → 0 ≤ zaP l m n → (zw l : Int) + zaP l m n ≤ n
  | [], m, n, _, h => by rw [zaP] at h ⊢; rw [zw]; omega
  | e :: l, m, n, hn, h => by
    rw [zaP, if_neg (by omega)] at h ⊢
    by_cases h0 : ze6 e m n < 0
    · rw [zio h0] at h
      omega
    · have h1 := zsS e m n (by omega)
      have h2 := zjq l m _ (by omega) h
      rw [zw]
      omega
end
theorem zly : ∀ {l : List St} {n : Int}, 0 ≤ n → 0 ≤ zeB l n → (zaJ 0 l : Int) + zeB l n ≤ n ∧ ∀ s ∈ l, s.e.length ≤ 4 ∧ s.cases.length ≤ 100
  | [], n, hn, h => by
    rw [zeB] at h ⊢
    exact ⟨by show ((0 : Nat) : Int) + n ≤ n; omega, fun s hs => by cases hs⟩
  | s :: l, n, hn, h => by
    rw [zeB, if_neg (by omega)] at h ⊢
    by_cases h0 : zp8 s n < 0
    · rw [zhq h0] at h
      omega
    · obtain ⟨h2, h3⟩ := zly (l := l) (n := zp8 s n) (by omega) h
      have e : (zaJ 0 (s :: l) : Int) = zw s.e + zaJ 0 l := by
        show ((zw s.e + 0 + zaJ 0 l : Nat) : Int) = _
        omega
      unfold zp8 at h0 h2
      split at h0
      · omega
      · rename_i hc
        rw [if_neg hc] at h2
        have h4 := zjq s.e 8 n hn (by omega)
        refine ⟨?_, fun t ht => ?_⟩
        · rw [e]
          unfold zp8
          rw [if_neg hc]
          omega
        · rcases List.mem_cons.1 ht with rfl | ht
          · omega
          · exact h3 t ht
def ziq (bl : List Bl) : Nat := (bl.map fun b => zaJ 0 b.stmts).sum
theorem zkH : ∀ {l : List Bl} {n : Int}, 0 ≤ n → 0 ≤ zez l n → (ziq l : Int) + zez l n ≤ n ∧ ∀ b ∈ l, ∀ s ∈ b.stmts, s.e.length ≤ 4 ∧ s.cases.length ≤ 100
  | [], n, hn, h => by
    rw [zez] at h ⊢
    exact ⟨by show ((0 : Nat) : Int) + n ≤ n; omega, fun s hs => by cases hs⟩
  | b :: l, n, hn, h => by
    rw [zez, if_neg (by omega)] at h ⊢
    by_cases h0 : zqm b n < 0
    · rw [zjc h0] at h
      omega
    · obtain ⟨h2, h3⟩ := zkH (l := l) (n := zqm b n) (by omega) h
      have e : (ziq (b :: l) : Int) = zaJ 0 b.stmts + ziq l := by
        unfold ziq
        rw [List.map_cons, List.sum_cons]
        omega
      unfold zqm at h0 h2
      split at h0
      · omega
      · rename_i hc
        rw [if_neg hc] at h2
        obtain ⟨h4, h5⟩ := zly (l := b.stmts) hn (by omega)
        refine ⟨?_, fun t ht => ?_⟩
        · rw [e]
          unfold zqm
          rw [if_neg hc]
          omega
        · rcases List.mem_cons.1 ht with rfl | ht
          · exact h5
          · exact h3 t ht
theorem zkU : ∀ {bl : List Bl} {b : Bl}, b ∈ bl → zaJ 0 b.stmts ≤ ziq bl
  | [], b, h => by cases h
  | x :: l, b, h => by
    have e : ziq (x :: l) = zaJ 0 x.stmts + ziq l := by unfold ziq; rw [List.map_cons, List.sum_cons]
    rcases List.mem_cons.1 h with rfl | h
    · omega
    · have := zkU h; omega
theorem zux {k : Nat} : ∀ {l : List St}, zaJ k l = zaJ 0 l + k * l.length
  | [] => by simp [zaJ]
  | s :: l => by
    have e1 : zaJ k (s :: l) = zw s.e + k + zaJ k l := rfl
    have e2 : zaJ 0 (s :: l) = zw s.e + 0 + zaJ 0 l := rfl
    rw [e1, e2, zux (l := l), List.length_cons, Nat.mul_succ]
    omega
theorem zn1 : ∀ {l : List St} {s : St}, s ∈ l → zw s.e ≤ zaJ 0 l
  | [], s, h => by cases h
  | x :: l, s, h => by
    have e : zaJ 0 (x :: l) = zw x.e + 0 + zaJ 0 l := rfl
    rcases List.mem_cons.1 h with rfl | h
    · omega
    · have := zn1 h; omega
theorem zoy : ∀ {l : List St}, (l.flatMap zb6).length ≤ zaJ 0 l
  | [] => by simp [zaJ]
  | s :: l => by
    have e : zaJ 0 (s :: l) = zw s.e + 0 + zaJ 0 l := rfl
    have := zoy (l := l)
    have := ziz s
    rw [List.flatMap_cons, List.length_append]
    omega
theorem zlN {exit : List Int} : ∀ {bl : List Bl}, (univ exit bl).length ≤ exit.length + ziq bl
  | [] => by simp [univ, ziq]
  | b :: l => by
    have h := zlN (exit := exit) (bl := l)
    have e : ziq (b :: l) = zaJ 0 b.stmts + ziq l := by unfold ziq; rw [List.map_cons, List.sum_cons]
    have := zoy (l := b.stmts)
    unfold univ at h ⊢
    rw [List.length_append] at h ⊢
    rw [List.flatMap_cons, List.length_append]
    omega
theorem zoz {m : Nat} : ∀ {l : List Bl}, (∀ b ∈ l, b.stmts.length ≤ m) → zA l ≤ l.length * m
  | [], _ => by simp [zA]
  | b :: l, h => by
    have h1 := zoz (l := l) fun c hc => h c (List.mem_cons_of_mem _ hc)
    have h2 := h b (by simp)
    simp only [zA, List.map_cons, List.sum_cons, List.length_cons] at h1 ⊢
    rw [Nat.succ_mul]
    omega
structure SmallP (g : G) : Prop where
  blocks : g.blocks.length ≤ 12
  stmts : ∀ b ∈ g.blocks, b.stmts.length ≤ 12
  parts : ∀ b ∈ g.blocks, ∀ s ∈ b.stmts, s.e.length ≤ 4 ∧ s.cases.length ≤ 100
  size : ziq g.blocks ≤ 20000
theorem zlu {g : G} {exit : List Int} (h : zoQ g exit = true) : SmallP g ∧ exit.length ≤ 20 := by
  unfold zoQ zot at h
  simp only [Bool.and_eq_true, decide_eq_true_eq, List.all_eq_true] at h
  obtain ⟨h1, h2, ⟨_, h3⟩, h4⟩ := h
  obtain ⟨h5, h6⟩ := zkH (n := 20000) (by omega) h3
  exact ⟨⟨h1, h4, h6, by omega⟩, h2⟩
theorem SmallP.few {g : G} (h : SmallP g) : fewB g := ⟨by have := h.blocks; omega, fun b hb => by have := h.stmts b hb; omega⟩
theorem SmallP.cnt {g : G} (h : SmallP g) : zA g.blocks ≤ 144 := by
  have h1 := zoz h.stmts
  have h2 := h.blocks
  have : g.blocks.length * 12 ≤ 12 * 12 := Nat.mul_le_mul_right 12 h2
  omega
theorem SmallP.good {g : G} {exit : List Int} (h : SmallP g) (he : exit.length ≤ 40) : GoodB (univ exit g.blocks) exit g.blocks := by
  have hs := h.size
  have hu := zlN (exit := exit) (bl := g.blocks)
  refine ⟨fun x hx => List.mem_append_left _ hx, fun b hb s hs => zoP hb hs, fun b hb s hm => ?_, fun b hb => ?_, by have := h.cnt; omega, by have := h.blocks; omega⟩
  · have h1 := zn1 hm
    have h2 := zkU hb
    have h3 := (h.parts b hb s hm).2
    exact ⟨by omega, by omega⟩
  · have h1 := zux (k := exit.length) (l := b.stmts)
    have h2 := zkU hb
    have h3 := h.stmts b hb
    have h4 : exit.length * b.stmts.length ≤ 40 * 12 := Nat.mul_le_mul he h3
    omega
theorem SmallP.fewV {g : G} {exit : List Int} (h : SmallP g) (he : exit.length ≤ 40) : FewV exit g.blocks := by
  have hs := h.size
  have hu := zlN (exit := exit) (bl := g.blocks)
  have hg := h.good he
  refine ⟨fun b hb s hm => (hg.hsz b hb s hm).1, hg.len, fun b hb => by have := h.stmts b hb; omega, fun b hb => ?_, by omega⟩
  have := zg1 (l := b.stmts) (n := 100000) fun s hm => (hg.hsz b hb s hm).2
  omega
def exV (v : Int) : Ex := .mk 2 0 v 0 []
def exC (n : Int) : Ex := .mk 1 n 0 0 []
def zsn (v : Int) (e : Ex) : St := ⟨1, v, 0, 0, 0, 0, [e], []⟩
def exE1 : G := ⟨0, [⟨0, [zsn 12 (exV 1), zsn 13 (exV 12), zsn 0 (exC 1), ⟨9, 0, 0, 0, 0, 0, [], []⟩]⟩]⟩
def exE1d : G := ⟨0, [⟨0, [zsn 0 (exC 1), ⟨9, 0, 0, 0, 0, 0, [], []⟩]⟩]⟩
def exE2 : G := ⟨0, [⟨0, [zsn 12 (.mk 18 0 0 4 [exV 1]), ⟨10, 0, 0, 0, 0, 0, [], []⟩]⟩]⟩
def exSt : St := zsn 1 (.mk 3 0 0 0 [exV 1, .mk 18 0 0 4 [exV 2]])
theorem zi6 : SmallP exE1 := (zlu (exit := [0, 7]) (by decide)).1
theorem zmc : SmallP exE2 := (zlu (exit := []) (by decide)).1
theorem zsR : zwO exE1 [0, 7] = .tup [.agg (G.cells exE1d), .int .i64 2, .int .i64 0] := by kernel_rfl
theorem zs0 : zwO exE2 [] = .tup [.agg (G.cells exE2), .int .i64 0, .int .i64 0] := by kernel_rfl
theorem ztK : AV.tup [zdk (zbB [0, 7] exE1.blocks), zdk (zkc [0, 7] exE1.blocks)] = .tup [zdk [[1, 7]], zdk [[]]] := by kernel_rfl
theorem zvk : za (zb6 exSt) = za [1, 2] := by kernel_rfl
def zxk : List Memo := [⟨zcX, [.agg exE1.cells, za [0, 7]], .tup [.agg (G.cells exE1d), .int .i64 2, .int .i64 0]⟩, ⟨zcV, [.agg exE1.cells, za [0, 7]], .tup [zdk [[1, 7]], zdk [[]]]⟩,
  ⟨zbU, [.agg exSt.cells], za [1, 2]⟩, ⟨zcX, [.agg exE2.cells, za []], .tup [.agg (G.cells exE2), .int .i64 0, .int .i64 0]⟩]
theorem zut : ∀ e ∈ zxk, zD Tryz.prog e.f e.args (· = e.res) := by
  have h1 := zgo exE1 [0, 7] _ (zi6.good (by decide)) zi6.few
  have h2 := zgg exE1 [0, 7] _ (zi6.good (exit := [0, 7]) (by decide)).univ
  have h3 := zdK exSt (by decide)
  have h4 := zgo exE2 [] _ (zmc.good (by decide)) zmc.few
  rw [zsR] at h1
  rw [ztK] at h2
  rw [zvk] at h3
  rw [zs0] at h4
  intro e he
  unfold zxk at he
  simp only [List.mem_cons, List.not_mem_nil, or_false] at he
  rcases he with rfl | rfl | rfl | rfl
  · exact h1
  · exact h2
  · exact h3
  · exact h4
def q25 : FuncId → Nat → List Nat := qTabK [(zbE, ([19, 21, 25, 32, 45, 47, 78, 79, 84, 90, 96, 109, 111, 114], [3583], [])),
  (zbT, ([], [67126323], [])),
  (zbw, ([], [33571891], [])),
  (zbZ, ([], [1031], [])),
  (ztY, ([7], [27], [])),
  (zuA, ([], [5], [])),
  (zpD, ([], [5], [])),
  (ztQ, ([10], [119], [])),
  (zrB, ([7], [27], [])),
  (zpO, ([], [33571891], [])),
  (zkh, ([], [17768111], [])),
  (zeA, ([], [5], [])),
  (zdG, ([], [17596514574653], [])),
  (zdI, ([], [10384593871817177683247510831234831], [])),
  (zlh, ([], [5], [])),
  (zcj, ([], [1073746119], [])),
  (zi7, ([], [16661], []))]
theorem zik : zD Tryz.prog zbE [] (· = .bool true) := zrK (qf := q25) (zkx zpv zut) 3000 (by kernel_rfl)
theorem L25_LivenessLive_ok (g : G) (exit : List Int) : zD Tryz.prog zeY [.agg g.cells, za exit] (· = .bool true) := by
  refine fn_x zh6 rfl ?_
  unfold zeL
  have hB := hBig
  have hsm := znM g exit
  have hex := zik
  cases hs : zoQ g exit with
  | false =>
    rw [hs] at hsm
    obtain ⟨ad, bl⟩ := g
    simp only [G.cells] at hsm ⊢
    (repeat first | simp (disch := try exact dis1) only [evD, Nat.reduceBEq, Nat.reduceAdd, Nat.reduceLeDiff, fldP, znc, tab, List.getD_cons_zero, List.getD_cons_succ] | with_reducible intro _ | ((with_reducible apply And.intro); omega))
    refine zn (zo hsm rfl) ?_
    (repeat first | simp (disch := try exact dis1) only [evD, Nat.reduceBEq, Nat.reduceAdd, Nat.reduceLeDiff] | with_reducible intro _ | ((with_reducible apply And.intro); omega))
    refine zn (zo hex rfl) ?_
    (repeat first | simp (disch := try exact dis1) only [evD, Nat.reduceBEq, Nat.reduceAdd, Nat.reduceLeDiff, zcv] | with_reducible intro _ | ((with_reducible apply And.intro); omega))
    exact ⟨_, .bool _ _, rfl⟩
  | true =>
    rw [hs] at hsm
    obtain ⟨hp, hel⟩ := zlu hs
    have hl1 := zgg g exit _ (hp.good (exit := exit) (by omega)).univ
    have hl2 := zqG g exit (hp.fewV (by omega))
    have hgood := hp.good (exit := exit) (by omega)
    have hs1 := zgh (zbB exit g.blocks) (zbB exit g.blocks)
    have hs2 := zgh (zkc exit g.blocks) (zkc exit g.blocks)
    rw [decide_eq_true rfl] at hs1 hs2
    obtain ⟨ad, bl⟩ := g
    simp only [G.cells] at hsm hl1 hl2 hgood hs1 hs2 ⊢
    generalize zbB exit bl = li at hl1 hl2 hs1
    generalize zkc exit bl = lo at hl1 hl2 hs2
    (repeat first | simp (disch := try exact dis1) only [evD, Nat.reduceBEq, Nat.reduceAdd, Nat.reduceLeDiff, fldP, znc, tab, List.getD_cons_zero, List.getD_cons_succ] | with_reducible intro _ | ((with_reducible apply And.intro); omega))
    refine zn (zo hsm rfl) ?_
    (repeat first | simp (disch := try exact dis1) only [evD, Nat.reduceBEq, Nat.reduceAdd, Nat.reduceLeDiff, fldP, znc, tab, List.getD_cons_zero, List.getD_cons_succ] | with_reducible intro _ | ((with_reducible apply And.intro); omega))
    refine zn (zo hl1 rfl) ?_
    (repeat first | simp (disch := try exact dis1) only [evD, Nat.reduceBEq, Nat.reduceAdd, Nat.reduceLeDiff, fldP, znc, tab, List.getD_cons_zero, List.getD_cons_succ] | with_reducible intro _ | ((with_reducible apply And.intro); omega))
    refine zn (zo hl2 rfl) ?_
    (repeat first | simp (disch := try exact dis1) only [evD, Nat.reduceBEq, Nat.reduceAdd, Nat.reduceLeDiff, fldP] | with_reducible intro _ | ((with_reducible apply And.intro); omega))
    refine zn (zo hs1 rfl) ?_
    (repeat first | simp (disch := try exact dis1) only [evD, Nat.reduceBEq, Nat.reduceAdd, Nat.reduceLeDiff, fldP] | with_reducible intro _ | ((with_reducible apply And.intro); omega))
    refine zn (zo hs2 rfl) ?_
    (repeat first | simp (disch := try exact dis1) only [evD, Nat.reduceBEq, Nat.reduceAdd, Nat.reduceLeDiff, fldP] | with_reducible intro _ | ((with_reducible apply And.intro); omega))
    refine zm (fun i : Nat => ([(2, encP 2 [.int .u32 ad, encL 2 Bl.cells bl]), (9, .int .i64 i)], [])) 0 (fun i => i ≤ bl.length) (fun i => bl.length - i) 0 (Nat.zero_le _) (Ent.keep rfl fin5) ?_
    rintro i hi wf
    unfold zc9
    by_cases hil : i < bl.length
    case neg =>
      (repeat first | simp (disch := try exact dis1) only [evD, Nat.reduceBEq, Nat.reduceAdd, Nat.reduceLeDiff, fldP, dF] | with_reducible intro _ | ((with_reducible apply And.intro); omega))
      unfold zc7
      (repeat first | simp (disch := try exact dis1) only [evD, Nat.reduceBEq, Nat.reduceAdd, Nat.reduceLeDiff] | with_reducible intro _ | ((with_reducible apply And.intro); omega))
      refine zn (zo hex rfl) ?_
      (repeat first | simp (disch := try exact dis1) only [evD, Nat.reduceBEq, Nat.reduceAdd, Nat.reduceLeDiff, zcv] | with_reducible intro _ | ((with_reducible apply And.intro); omega))
      exact ⟨_, .bool _ _, rfl⟩
    have hm := List.getElem_mem hil
    have hg : (bl.map Bl.cells).getD i [] = [.int .u32 bl[i].addr, encL 8 St.cells bl[i].stmts] := zt hil
    have hsz := hgood.hsz _ hm
    generalize bl[i].addr = ad2 at hg
    generalize bl[i].stmts = m at hg hsz
    (repeat first | simp (disch := try exact dis1) only [evD, Nat.reduceBEq, Nat.reduceAdd, Nat.reduceLeDiff, fldP, dT] | with_reducible intro _ | ((with_reducible apply And.intro); omega))
    refine zm (fun k : Nat => ([(2, encP 2 [.int .u32 ad, encL 2 Bl.cells bl]), (9, .int .i64 i), (10, .int .i64 k)], [])) 0 (fun k => k ≤ m.length) (fun k => m.length - k) 0 (Nat.zero_le _) (Ent.keep rfl fin5) ?_
    rintro k hk wf2
    unfold zc8
    by_cases hkl : k < m.length
    case neg =>
      (repeat first | simp (disch := try exact dis1) only [evD, Nat.reduceBEq, Nat.reduceAdd, Nat.reduceLeDiff, fldP, dF, hg] | with_reducible intro _ | ((with_reducible apply And.intro); omega))
      unfold zc5
      (repeat first | simp (disch := try exact dis1) only [evD, Nat.reduceBEq, Nat.reduceAdd, Nat.reduceLeDiff] | with_reducible intro _ | ((with_reducible apply And.intro); omega))
      exact ⟨i + 1, by omega, by omega, Ent.keep rfl fin5⟩
    have hgm := zt (f := St.cells) (d := []) hkl
    have hu1 := zdK m[k] (hsz _ (List.getElem_mem hkl)).1
    have hu2 := zls m[k] (hsz _ (List.getElem_mem hkl)).1
    have hu3 := zeC (zb6 m[k]) (zb6 m[k])
    have hd1 := zgn m[k]
    have hd2 := zk0 m[k]
    have hd3 := zeC (zfu m[k]) (zfu m[k])
    rw [decide_eq_true rfl] at hu3 hd3
    generalize zb6 m[k] = us at hu1 hu2 hu3
    generalize zfu m[k] = ds at hd1 hd2 hd3
    generalize m[k] = s at hgm hu1 hu2 hd1 hd2
    (repeat first | simp (disch := try exact dis1) only [evD, Nat.reduceBEq, Nat.reduceAdd, Nat.reduceLeDiff, fldP, dT, hg, hgm, St.len, St.eight] | with_reducible intro _ | ((with_reducible apply And.intro); omega))
    refine zaZ (zo hu1 rfl) ?_
    (repeat first | simp (disch := try exact dis1) only [evD, Nat.reduceBEq, Nat.reduceAdd, Nat.reduceLeDiff, St.len, St.eight] | with_reducible intro _ | ((with_reducible apply And.intro); omega))
    refine zaZ (zo hu2 rfl) ?_
    (repeat first | simp (disch := try exact dis1) only [evD, Nat.reduceBEq, Nat.reduceAdd, Nat.reduceLeDiff, St.len, St.eight] | with_reducible intro _ | ((with_reducible apply And.intro); omega))
    refine zaZ (zo hu3 rfl) ?_
    (repeat first | simp (disch := try exact dis1) only [evD, Nat.reduceBEq, Nat.reduceAdd, Nat.reduceLeDiff, St.len, St.eight] | with_reducible intro _ | ((with_reducible apply And.intro); omega))
    refine zaZ (zo hd1 rfl) ?_
    (repeat first | simp (disch := try exact dis1) only [evD, Nat.reduceBEq, Nat.reduceAdd, Nat.reduceLeDiff, St.len, St.eight] | with_reducible intro _ | ((with_reducible apply And.intro); omega))
    refine zaZ (zo hd2 rfl) ?_
    (repeat first | simp (disch := try exact dis1) only [evD, Nat.reduceBEq, Nat.reduceAdd, Nat.reduceLeDiff, St.len, St.eight] | with_reducible intro _ | ((with_reducible apply And.intro); omega))
    refine zaZ (zo hd3 rfl) ?_
    (repeat first | simp (disch := try exact dis1) only [evD, Nat.reduceBEq, Nat.reduceAdd, Nat.reduceLeDiff, St.len, St.eight] | with_reducible intro _ | ((with_reducible apply And.intro); omega))
    exact ⟨k + 1, by omega, by omega, (Ent.tab [] [] rfl (by (try simp only [evWB, Nat.reduceBEq, Nat.reduceAdd, Nat.reduceSub, Nat.reduceLeDiff, Nat.reduceLT, implies_true]) <;> exact fin2) (by (try simp only [evWB, Nat.reduceBEq, Nat.reduceAdd, Nat.reduceSub, Nat.reduceLeDiff, Nat.reduceLT, implies_true]) <;> exact fin2))⟩
end Go.Ab
