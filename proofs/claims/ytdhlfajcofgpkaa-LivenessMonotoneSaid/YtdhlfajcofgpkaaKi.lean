/-
  Part 9 of the proof: how the calls of this program run, over values instead of memory, and what each function computes.
-/
import Derived.KernelRfl
import Derived.Test.YtdhlfajcofgpkaaKh
set_option maxRecDepth 100000
set_option linter.unusedVariables false
set_option linter.unusedSimpArgs false
set_option linter.unnecessarySimpa false
set_option linter.unusedSectionVars false

namespace Go.Ab
open Go.RowKit Go.Proofs
abbrev LeL (a b : List Int) : Prop := ∀ x ∈ a, x ∈ b
theorem LeL.trans {a b c : List Int} (h : LeL a b) (k : LeL b c) : LeL a c := fun x hx => k x (h x hx)
theorem zmC {exit : List Int} {s : St} {a b : List Int} (h : LeL a b) : LeL (zb1 exit s a) (zb1 exit s b) := fun x hx => by
  rw [zc2] at hx ⊢
  rcases hx with ⟨h1, h2⟩ | h1
  · exact .inl ⟨h x h1, h2⟩
  · exact .inr h1
theorem zku {exit : List Int} {s : St} {l : List St} {a : List Int} : zeB exit (s :: l) a = zb1 exit s (zeB exit l a) := rfl
inductive SubD (exit e : List Int) : List St → List St → Prop
  | nil : SubD exit e [] []
  | keep {s : St} {x y : List St} : SubD exit e x y → SubD exit e (s :: x) (s :: y)
  | drop {s : St} {x y : List St} : SubD exit e x y → remS s (zeB exit x e) = true → SubD exit e x (s :: y)
def zs9 (exit e : List Int) : List St → List St
  | [] => []
  | s :: l => if remS s (zeB exit l e) = true then zs9 exit e l else s :: zs9 exit e l
theorem zmg {exit : List Int} {g : List Bl} {I : List (List Int)} (hl : I.length = g.length) (hI : ∀ i, i < g.length → LeL (newB exit g I i) (I.getD i [])) : ∀ i, LeL ((zaB exit g).getD i []) (I.getD i []) := by
  have hstep : ∀ (n : Nat) (ins : List (List Int)), LInvU exit g ins → n ≤ g.length → (∀ i, LeL (ins.getD i []) (I.getD i [])) → ∀ i, LeL ((zfR exit g n ins).getD i []) (I.getD i []) := by
    intro n
    induction n with
    | zero => intro ins _ _ h; exact h
    | succ n ih =>
      intro ins hv hn h
      refine ih _ (hv.step (by omega)) (by omega) fun i => ?_
      unfold zdq
      split
      · exact h i
      · rw [zfb (by rw [hv.len]; omega)]
        split
        · rename_i hi
          subst hi
          exact LeL.trans (zjj (by rw [hv.len, hl]) h _) (hI _ (by omega))
        · exact h i
  have hfix : ∀ (k : Nat) (ins : List (List Int)), LInvU exit g ins → (∀ i, LeL (ins.getD i []) (I.getD i [])) → ∀ i, LeL ((fixL exit g k ins).getD i []) (I.getD i []) := by
    intro k
    induction k with
    | zero => intro ins _ h; exact h
    | succ k ih =>
      intro ins hv h
      rw [fixL]
      split
      · exact h
      · exact ih _ (hv.pass (Nat.le_refl _)).1 (hstep _ _ hv (Nat.le_refl _) h)
  refine hfix _ _ (zjr exit g) fun i x hx => ?_
  have e : (g.map fun _ => ([] : List Int)).getD i [] = [] := by
    rw [List.getD_eq_getElem?_getD, List.getElem?_map]
    cases g[i]? <;> rfl
  rw [e] at hx
  cases hx
structure RelD (exit : List Int) (x y : List Bl) : Prop where
  len : x.length = y.length
  blk : ∀ i (h1 : i < x.length) (h2 : i < y.length), x[i].addr = y[i].addr ∧ SubD exit (zaN exit x i) x[i].stmts y[i].stmts
theorem zlo {g : List Bl} {i : Nat} (h : i < g.length) : (g.map (·.stmts)).getD i [] = g[i].stmts := zA h
theorem zpE {exit : List Int} {g : List Bl} {ins : List (List Int)} {i : Nat} (h : i < g.length) : newB exit g ins i = zeK exit g[i].stmts (endB ins g[i].stmts) := by
  unfold newB; rw [zlo h]
theorem zkm {exit : List Int} {g : List Bl} {i : Nat} (h : i < g.length) : zaN exit g i = endB (zaB exit g) g[i].stmts := by
  unfold zaN; rw [zlo h]
theorem zis {exit : List Int} {g : List Bl} : (zaB exit g).length = g.length := (zcz exit g).1.len
theorem zrg {exit : List Int} {g : List Bl} {i : Nat} (h : i < g.length) : (zaB exit g).getD i [] = zeK exit g[i].stmts (zaN exit g i) := by
  rw [← (zcz exit g).2 i h, zpE h, zkm h]
def ztj (exit : List Int) (bl : List Bl) : List Bl := bl.mapIdx fun i b => ⟨b.addr, zs9 exit (zaN exit bl i) b.stmts⟩
def deadR (exit : List Int) : Nat → List Bl → List Bl
  | 0, bl => bl
  | k + 1, bl => if zu (ztj exit bl) = zu bl then ztj exit bl else deadR exit k (ztj exit bl)
structure OkG (g : G) : Prop where
  len : g.blocks.length ≤ 256
  cnt : zu g.blocks ≤ 1024
  ne : g.blocks ≠ []
  closed : ∀ b ∈ g.blocks, b.stmts ≠ [] ∧ zkp b.stmts = true ∧ ∀ t ∈ zB b.stmts, 0 ≤ t ∧ t < g.blocks.length
  chk : ∀ b ∈ g.blocks, ∀ s ∈ b.stmts, s.check = 0
def st0 : St := ⟨0, 0, 0, 0, 0, 0, [], []⟩
def revP (l : List St) (i x : Nat) : St := if x < i ∨ l.length - i ≤ x then l.getD (l.length - 1 - x) st0 else l.getD x st0
def revL (l : List St) (i : Nat) : List St := (List.range l.length).map (revP l i)
theorem zux {l : List St} {i : Nat} : (revL l i).length = l.length := by simp [revL]
theorem zmx {l : List St} : revL l 0 = l := by
  apply List.ext_getElem?
  intro x
  unfold revL revP
  by_cases hx : x < l.length
  · have : ¬ l.length ≤ x := by omega
    simp [hx, List.getD_eq_getElem?_getD, this]
  · simp [hx]
theorem zug {l : List St} {i : Nat} (h : l.length ≤ 2 * i + 1) : revL l i = l.reverse := by
  apply List.ext_getElem?
  intro x
  unfold revL revP
  by_cases hx : x < l.length
  · rw [List.getElem?_reverse hx]
    simp only [List.getElem?_map, List.getElem?_range hx, Option.map_some]
    by_cases hc : x < i ∨ l.length - i ≤ x
    · rw [if_pos hc]
      rw [List.getD_eq_getElem?_getD, List.getElem?_eq_getElem (show l.length - 1 - x < l.length by omega)]
      rfl
    · rw [if_neg hc, show l.length - 1 - x = x by omega, List.getD_eq_getElem?_getD, List.getElem?_eq_getElem hx]
      rfl
  · simp [hx]
theorem zpV {l : List St} {i x : Nat} (hx : x < l.length) : ((revL l i).map St.cells).getD x [] = (revP l i x).cells := by
  simp [revL, List.getD_eq_getElem?_getD, hx]
theorem zrF {l : List St} {i : Nat} (h : 2 * i + 1 < l.length) :
    (((revL l i).map St.cells).set i (revP l i (l.length - 1 - i)).cells).set (l.length - 1 - i) (revP l i i).cells = (revL l (i + 1)).map St.cells := by
  unfold revL
  rw [List.map_map, List.map_map, zdU, zdU]
  refine List.map_congr_left fun x hx => ?_
  have hx' := List.mem_range.1 hx
  unfold updF
  simp only [Function.comp]
  by_cases h1 : x = l.length - 1 - i
  · rw [if_pos h1]
    unfold revP
    rw [if_neg (by omega), if_pos (by omega), show l.length - 1 - x = i by omega]
  · rw [if_neg h1]
    by_cases h2 : x = i
    · rw [if_pos h2]
      unfold revP
      rw [if_neg (by omega), if_pos (by omega), h2]
    · rw [if_neg h2]
      unfold revP
      by_cases h3 : x < i ∨ l.length - i ≤ x
      · rw [if_pos h3, if_pos (by omega)]
      · rw [if_neg h3, if_neg (by omega)]
theorem renS {ρ : Nat → Nat} {l : List St} {g : Nat} : AObj.ren ρ (.row 8 (l.map St.cells) g) = .row 8 (l.map St.cells) g := by
  simp only [AObj.ren]
  rw [zfm (ze fun s => s.flat)]
theorem zii (l : List St) (g : Nat) (hl : l.length ≤ 1000000) : zR Try.prog z8 [.own 0 0 g 0 l.length] [(0, .row 8 (l.map St.cells) g)] 1
    (fun v H nx => v = .tup [] ∧ H = [(0, .row 8 (l.reverse.map St.cells) g)] ∧ nx = 1) := by
  refine zbT (fn_x zco rfl ?_)
  unfold zaL
  have hB := hBig
  (repeat first | simp (disch := try exact dis1) only [evD, Nat.reduceBEq, Nat.reduceAdd, Nat.reduceLeDiff] | with_reducible intro _ | ((with_reducible apply And.intro); omega))
  refine zo (fun i : Nat => ([(0, .own 0 0 g 0 l.length), (2, .int .i64 i), (3, .int .i64 ((l.length : Int) - 1 - i))], [(0, .row 8 ((revL l i).map St.cells) g)])) 1 (fun i => 2 * i ≤ l.length + 1) (fun i => l.length + 1 - i) 0 (by omega) (Ent.tabB [(0, 0, 0)] [] rfl rfl rfl (by (try simp only [evWB, Nat.reduceBEq, Nat.reduceAdd, Nat.reduceSub, Nat.reduceLeDiff, Nat.reduceLT, implies_true, zmx]) <;> exact fin2) (by (try simp only [evWB, Nat.reduceBEq, Nat.reduceAdd, Nat.reduceSub, Nat.reduceLeDiff, Nat.reduceLT, implies_true, zmx]) <;> exact fin2)) ?_
  intro i hi wf
  unfold zay
  (repeat first | simp (disch := try exact dis1) only [evD, Nat.reduceBEq, Nat.reduceAdd, Nat.reduceLeDiff] | with_reducible intro _ | ((with_reducible apply And.intro); omega))
  (refine zaj (fun h => ?_) (fun h => ?_)) <;> (try simp only [dcd] at h)
  · have e : ((l.length : Int) - 1 - i).toNat = l.length - 1 - i := by omega
    have hsw := zrF (l := l) (i := i) (by omega)
    have g1 := zpV (l := l) (i := i) (show l.length - 1 - i < l.length by omega)
    have g2 := zpV (l := l) (i := i) (show i < l.length by omega)
    (repeat first | simp (disch := try exact dis1) only [evD, Nat.reduceBEq, Nat.reduceAdd, Nat.reduceLeDiff, e, zux, g1, g2, St.len, St.eight, List.length_set] | with_reducible intro _ | ((with_reducible apply And.intro); omega))
    rw [hsw]
    exact ⟨i + 1, by omega, by omega, (Ent.tabB [(0, 0, 0)] [] rfl rfl rfl (by (try simp only [evWB, Nat.reduceBEq, Nat.reduceAdd, Nat.reduceSub, Nat.reduceLeDiff, Nat.reduceLT, implies_true]) <;> exact fin2) (by (try simp only [evWB, Nat.reduceBEq, Nat.reduceAdd, Nat.reduceSub, Nat.reduceLeDiff, Nat.reduceLT, implies_true]) <;> exact fin2))⟩
  · (repeat first | simp (disch := try exact dis1) only [evD, Nat.reduceBEq, Nat.reduceAdd, Nat.reduceLeDiff, zaO] | with_reducible intro _ | ((with_reducible apply And.intro); omega))
    refine ⟨.tup [], [(0, .row 8 (l.reverse.map St.cells) g)], 1, ?_, rfl, rfl, rfl⟩
    rw [zug (by omega)]
    exact (Ent.tabB [(0, 0, 0)] [] rfl rfl rfl (by (try simp only [evWB, Nat.reduceBEq, Nat.reduceAdd, Nat.reduceSub, Nat.reduceLeDiff, Nat.reduceLT, implies_true]) <;> exact fin2) (by (try simp only [evWB, Nat.reduceBEq, Nat.reduceAdd, Nat.reduceSub, Nat.reduceLeDiff, Nat.reduceLT, implies_true]) <;> exact fin2))
def zdM (ad : Int) (n : Nat) (D : List Bl) (T : Nat → MS) : AH := [(0, .row 2 [[.int .u32 0, .nilsl]] 0), (1, .row 2 [[.int .u32 ad, .own 2 0 0 0 n]] 0), (2, .row 2 (D.map Bl.cells) 0), (3, .row 1 (mps 4 n) 0), (4, famS n T)]
theorem zvj {exit : List Int} {sts : List St} {i : Nat} {a : MS} (h : i < sts.length) : keepM exit (sts.drop i) a = if remS sts[i] (keepM exit (sts.drop (i + 1)) a).2.keys = true then keepM exit (sts.drop (i + 1)) a else (sts[i] :: (keepM exit (sts.drop (i + 1)) a).1, zcQ exit sts[i] (keepM exit (sts.drop (i + 1)) a).2) := by
  rw [List.drop_eq_getElem_cons h, keepM]
theorem zr4 {α : Type} {f : α → List AV} {A : List α} {a : α} {i : Nat} {c : List AV} {H HH : AH} {σ : Nat → Nat → Option (Nat × Nat × Nat)} {D : Nat → Nat → Prop} (hf : ∀ a, zC (f a) = true) (hi : i < A.length) (hl : (f a).length = c.length)
    (h : ∀ (j : Nat) (x y : AV), c[j]? = some x → (f a)[j]? = some y → Vw H HH σ D true x y) : RowV H HH σ D ((A.map f).set i c) ((A.set i a).map f) := by
  refine ⟨by simp, fun k c2 hk => ?_⟩
  rw [List.map_set] at hk
  by_cases hki : i = k
  · subst hki
    rw [List.getElem?_set_self (by simpa using hi)] at hk ⊢
    cases hk
    exact ⟨c, rfl, hl, h⟩
  · rw [List.getElem?_set_ne hki] at hk ⊢
    refine ⟨c2, hk, rfl, fun j x y h1 h2 => ?_⟩
    rw [h1] at h2
    cases h2
    obtain ⟨b, _, rfl⟩ := List.mem_map.1 (List.mem_of_getElem? hk)
    exact zbV (zaz (hf b) h1)
theorem zrn {H HH : AH} {σ : Nat → Nat → Option (Nat × Nat × Nat)} {D : Nat → Nat → Prop} {r : Nat} {kp : List St} {x : Int} (hD : D r 0) (hg : H.get r 0 = some (.row 8 (kp.map St.cells) 0)) (hb : kp.length ≤ big) :
    ∀ (j : Nat) (a b : AV), [AV.int .u32 x, .own r 0 0 0 kp.length][j]? = some a → (Bl.cells ⟨x, kp⟩)[j]? = some b → Vw H HH σ D true a b := by
  intro j a b h1 h2
  match j with
  | 0 => cases h1; cases h2; exact .int _ _ _
  | 1 => cases h1; cases h2; exact zvW hD hg hb
  | j + 2 => cases h1
theorem zwK {Q : QT} (ad : Int) (n b : Nat) (hb : b < n) (hn : n ≤ 1000000) (D : List Bl) (hD : D.length = n) (T : Nat → MS) (exit : List Int) (sts : List St) (a0 : MS) (r0 : Nat) (m0 : Bool)
    (hsz : ∀ s ∈ sts, zr s.e ≤ 100000) (ha : a0.ok) (h1 : a0.1 + zaH exit.length sts ≤ 1000000) (h2 : a0.2.length + zaH exit.length sts ≤ 1000000) (hlen : sts.length ≤ 1000000) (hr0 : r0 + sts.length ≤ 2000000)
    (hfin : ∀ K H nx, Ent 0 K H nx [(1, za exit), (4, .ptr 0 0 0 0 0), (8, .ptr 1 0 0 0 0), (9, .int .i64 ((r0 + (sts.length - (keepM exit sts a0).1.length) : Nat) : Int)), (10, .bool (m0 || decide ((keepM exit sts a0).1.length < sts.length))), (12, .own 3 0 0 0 n), (35, .int .i64 n), (36, .int .i64 ((b + 1 : Nat) : Int))]
      (zdM ad n (D.set b ⟨(D[b]'(by omega)).addr, (keepM exit sts a0).1⟩) T) 5 → Q .normal K H nx)
    {K : Kn} {H : AH} {nx : Nat} (hent : Ent 0 K H nx [(1, za exit), (4, .ptr 0 0 0 0 0), (8, .ptr 1 0 0 0 0), (9, .int .i64 r0), (10, .bool m0), (12, .own 3 0 0 0 n), (13, .int .i64 b), (14, .mp 5 0), (15, encL 8 St.cells sts), (16, .own 6 0 0 0 0), (17, .int .i64 ((sts.length : Int) - 1)), (35, .int .i64 n), (36, .int .i64 b)]
      (zdM ad n D T ++ [(5, .row 3 ((setM a0.1 a0.2).map cm) 0), (6, .row 8 [] 0)]) 7) :
    zhU Try.prog 0 zci (zbe 4 (seqQ Try.prog 0 zch (zbe 3 (seqQ Try.prog 0 zcm Q)))) K H nx := by
  have hB := hBig
  have hz : keepM exit (sts.drop sts.length) a0 = ([], a0) := by rw [List.drop_length]; rfl
  have hlk := fun i => (zkn (exit := exit) (e := a0) (sts.drop i)).length_le
  simp only [List.length_drop] at hlk
  refine zo (fun i : Nat => ([(1, za exit), (4, .ptr 0 0 0 0 0), (8, .ptr 1 0 0 0 0), (9, .int .i64 ((r0 + (sts.length - i - (keepM exit (sts.drop i) a0).1.length) : Nat) : Int)), (10, .bool (m0 || decide ((keepM exit (sts.drop i) a0).1.length < sts.length - i))), (12, .own 3 0 0 0 n), (13, .int .i64 b), (14, .mp 5 0), (15, encL 8 St.cells sts), (16, .own 6 0 0 0 (keepM exit (sts.drop i) a0).1.length), (17, .int .i64 ((i : Int) - 1)), (35, .int .i64 n), (36, .int .i64 b)],
      zdM ad n D T ++ [(5, .row 3 ((setM (keepM exit (sts.drop i) a0).2.1 (keepM exit (sts.drop i) a0).2.2).map cm) 0), (6, .row 8 ((keepM exit (sts.drop i) a0).1.reverse.map St.cells) 0)])) 7
    (fun i => i ≤ sts.length) (fun i => i) sts.length (Nat.le_refl _) ?_ ?_
  · rw [hz]
    simp only [List.length_nil, Nat.sub_self, Nat.lt_irrefl, decide_false, Bool.or_false, Nat.add_zero, List.reverse_nil, List.map_nil]
    exact hent
  rintro i hi wf
  unfold zci
  have hc := zi8 (k := exit.length) (l := sts) (i := i)
  obtain ⟨k1, k2, k3⟩ := zp7 (exit := exit) (l := sts.drop i) ha (by omega) (by omega)
  have hli := hlk i
  rcases Nat.eq_zero_or_pos i with rfl | hp
  · rw [List.drop_zero] at *
    generalize keepM exit sts a0 = R at *
    obtain ⟨kp, a⟩ := R
    simp only [Nat.sub_zero] at *
    have hrl : kp.reverse.length = kp.length := List.length_reverse
    have hrr : kp.reverse.reverse = kp := List.reverse_reverse kp
    have hbD : b < D.length := by omega
    have hrev := zii kp.reverse 0 (by omega)
    rw [hrl, hrr] at hrev
    (repeat first | simp (disch := try exact dis1) only [evD, Nat.reduceBEq, Nat.reduceAdd, Nat.reduceLeDiff, dF, Int.natCast_zero, zdM, List.cons_append, List.nil_append] | with_reducible intro _ | ((with_reducible apply And.intro); omega))
    unfold zch
    (repeat first | simp (disch := try exact dis1) only [evD, Nat.reduceBEq, Nat.reduceAdd, Nat.reduceLeDiff] | with_reducible intro _ | ((with_reducible apply And.intro); omega))
    refine zN [(0, 6, 0)] 1 _ (hrev) rfl rfl fin8 fin8 ?_
    rintro _ _ _ ⟨rfl, rfl, rfl⟩
    have hg : (D.map Bl.cells).getD b [] = [.int .u32 D[b].addr, encL 8 St.cells D[b].stmts] := zA (f := Bl.cells) (d := []) hbD
    have hsp : ∀ x y z : AV, splice [x, y] 1 [z] = [x, z] := fun _ _ _ => rfl
    (repeat first | simp (disch := try exact dis1) only [evD, Nat.reduceBEq, Nat.reduceAdd, Nat.reduceLeDiff, renS, hg, hsp] | with_reducible intro _ | ((with_reducible apply And.intro); omega))
    unfold zcm
    (repeat first | simp (disch := try exact dis1) only [evD, Nat.reduceBEq, Nat.reduceAdd, Nat.reduceLeDiff] | with_reducible intro _ | ((with_reducible apply And.intro); omega))
    refine hfin _ _ _ ?_
    refine Ent.tab [(0, 0, 0), (1, 1, 0), (2, 2, 0), (3, 3, 0), (4, 4, 0)] [6] rfl ?_ ?_
    · ((try simp only [evWB, Nat.reduceBEq, Nat.reduceAdd, Nat.reduceSub, Nat.reduceLeDiff, Nat.reduceLT, implies_true, zdM, famS]) <;> ((repeat' with_reducible apply And.intro) <;> first | omega | rfl | (exact zr4 (fun _ => rfl) hbD rfl (zrn rfl rfl (by omega)); done) | (refine zy zH (by decide) ⟨rfl, rfl⟩ ?_; (try simp only [evWB, Nat.reduceBEq, Nat.reduceAdd, Nat.reduceSub, Nat.reduceLeDiff, Nat.reduceLT, implies_true, zdM, famS]) <;> ((repeat' with_reducible apply And.intro) <;> first | omega | rfl | (refine zy zH (by decide) ⟨rfl, rfl⟩ ?_; (try simp only [evWB, Nat.reduceBEq, Nat.reduceAdd, Nat.reduceSub, Nat.reduceLeDiff, Nat.reduceLT, implies_true, zdM, famS]) <;> ((repeat' with_reducible apply And.intro) <;> first | omega | rfl | exact zfy (fun _ => rfl) | exact Vw.it _ _ rfl | exact Vw.mp _ _ _ _ rfl | exact zy zH (by decide) ⟨rfl, rfl⟩ trivial | exact zy zH (by decide) (fun _ _ => ⟨rfl, rfl⟩) trivial | (refine zhg rfl ?_; (repeat' (first | exact ze zH | exact zV | exact ze (fun _ => rfl) | exact ze (fun _ => zg) | exact ze (fun _ => zb) | exact zj zg | exact zj zb | exact zZ rfl | exact z6 | exact zj rfl | refine zI ?_ ?_ | refine zf rfl ?_ | refine zf zg ?_ | refine zf zb ?_)); done) | exact zdd rfl | (refine RowV.of_flat ?_; (repeat' (first | exact ze zH | exact zV | exact ze (fun _ => rfl) | exact ze (fun _ => zg) | exact ze (fun _ => zb) | exact zj zg | exact zj zb | exact zZ rfl | exact z6 | exact zj rfl | refine zI ?_ ?_ | refine zf rfl ?_ | refine zf zg ?_ | refine zf zb ?_)); done) | ((repeat' (first | exact ze zH | exact zV | exact ze (fun _ => rfl) | exact ze (fun _ => zg) | exact ze (fun _ => zb) | exact zj zg | exact zj zb | exact zZ rfl | exact z6 | exact zj rfl | refine zI ?_ ?_ | refine zf rfl ?_ | refine zf zg ?_ | refine zf zb ?_)); done) | exact zeM rfl rfl (by omega) | exact za7 rfl rfl (by omega) | exact zc9 rfl rfl (by omega) | exact zeN (fun _ => rfl) | exact zy (fun _ => rfl) (by decide) ⟨rfl, rfl⟩ trivial | exact zy (fun _ => rfl) (by decide) (fun _ _ => ⟨rfl, rfl⟩) trivial | (simp; done)); done) | exact zfy (fun _ => rfl) | exact Vw.it _ _ rfl | exact Vw.mp _ _ _ _ rfl | exact zy zH (by decide) ⟨rfl, rfl⟩ trivial | exact zy zH (by decide) (fun _ _ => ⟨rfl, rfl⟩) trivial | (refine zhg rfl ?_; (repeat' (first | exact ze zH | exact zV | exact ze (fun _ => rfl) | exact ze (fun _ => zg) | exact ze (fun _ => zb) | exact zj zg | exact zj zb | exact zZ rfl | exact z6 | exact zj rfl | refine zI ?_ ?_ | refine zf rfl ?_ | refine zf zg ?_ | refine zf zb ?_)); done) | exact zdd rfl | (refine RowV.of_flat ?_; (repeat' (first | exact ze zH | exact zV | exact ze (fun _ => rfl) | exact ze (fun _ => zg) | exact ze (fun _ => zb) | exact zj zg | exact zj zb | exact zZ rfl | exact z6 | exact zj rfl | refine zI ?_ ?_ | refine zf rfl ?_ | refine zf zg ?_ | refine zf zb ?_)); done) | ((repeat' (first | exact ze zH | exact zV | exact ze (fun _ => rfl) | exact ze (fun _ => zg) | exact ze (fun _ => zb) | exact zj zg | exact zj zb | exact zZ rfl | exact z6 | exact zj rfl | refine zI ?_ ?_ | refine zf rfl ?_ | refine zf zg ?_ | refine zf zb ?_)); done) | exact zeM rfl rfl (by omega) | exact za7 rfl rfl (by omega) | exact zc9 rfl rfl (by omega) | exact zeN (fun _ => rfl) | exact zy (fun _ => rfl) (by decide) ⟨rfl, rfl⟩ trivial | exact zy (fun _ => rfl) (by decide) (fun _ _ => ⟨rfl, rfl⟩) trivial | (simp; done)); done) | exact zfy (fun _ => rfl) | exact Vw.it _ _ rfl | exact Vw.mp _ _ _ _ rfl | exact zy zH (by decide) ⟨rfl, rfl⟩ trivial | exact zy zH (by decide) (fun _ _ => ⟨rfl, rfl⟩) trivial | (refine zhg rfl ?_; (repeat' (first | exact ze zH | exact zV | exact ze (fun _ => rfl) | exact ze (fun _ => zg) | exact ze (fun _ => zb) | exact zj zg | exact zj zb | exact zZ rfl | exact z6 | exact zj rfl | refine zI ?_ ?_ | refine zf rfl ?_ | refine zf zg ?_ | refine zf zb ?_)); done) | exact zdd rfl | (refine RowV.of_flat ?_; (repeat' (first | exact ze zH | exact zV | exact ze (fun _ => rfl) | exact ze (fun _ => zg) | exact ze (fun _ => zb) | exact zj zg | exact zj zb | exact zZ rfl | exact z6 | exact zj rfl | refine zI ?_ ?_ | refine zf rfl ?_ | refine zf zg ?_ | refine zf zb ?_)); done) | ((repeat' (first | exact ze zH | exact zV | exact ze (fun _ => rfl) | exact ze (fun _ => zg) | exact ze (fun _ => zb) | exact zj zg | exact zj zb | exact zZ rfl | exact z6 | exact zj rfl | refine zI ?_ ?_ | refine zf rfl ?_ | refine zf zg ?_ | refine zf zb ?_)); done) | exact zeM rfl rfl (by omega) | exact za7 rfl rfl (by omega) | exact zc9 rfl rfl (by omega) | exact zeN (fun _ => rfl) | exact zy (fun _ => rfl) (by decide) ⟨rfl, rfl⟩ trivial | exact zy (fun _ => rfl) (by decide) (fun _ _ => ⟨rfl, rfl⟩) trivial | (simp; done)))
    · ((try simp only [evWB, Nat.reduceBEq, Nat.reduceAdd, Nat.reduceSub, Nat.reduceLeDiff, Nat.reduceLT, implies_true, zdM]) <;> ((repeat' with_reducible apply And.intro) <;> first | omega | rfl | (rfl; done) | (refine zy zH (by decide) ⟨rfl, rfl⟩ ?_; (try simp only [evWB, Nat.reduceBEq, Nat.reduceAdd, Nat.reduceSub, Nat.reduceLeDiff, Nat.reduceLT, implies_true, zdM]) <;> ((repeat' with_reducible apply And.intro) <;> first | omega | rfl | (refine zy zH (by decide) ⟨rfl, rfl⟩ ?_; (try simp only [evWB, Nat.reduceBEq, Nat.reduceAdd, Nat.reduceSub, Nat.reduceLeDiff, Nat.reduceLT, implies_true, zdM]) <;> ((repeat' with_reducible apply And.intro) <;> first | omega | rfl | exact zfy (fun _ => rfl) | exact Vw.it _ _ rfl | exact Vw.mp _ _ _ _ rfl | exact zy zH (by decide) ⟨rfl, rfl⟩ trivial | exact zy zH (by decide) (fun _ _ => ⟨rfl, rfl⟩) trivial | (refine zhg rfl ?_; (repeat' (first | exact ze zH | exact zV | exact ze (fun _ => rfl) | exact ze (fun _ => zg) | exact ze (fun _ => zb) | exact zj zg | exact zj zb | exact zZ rfl | exact z6 | exact zj rfl | refine zI ?_ ?_ | refine zf rfl ?_ | refine zf zg ?_ | refine zf zb ?_)); done) | exact zdd rfl | (refine RowV.of_flat ?_; (repeat' (first | exact ze zH | exact zV | exact ze (fun _ => rfl) | exact ze (fun _ => zg) | exact ze (fun _ => zb) | exact zj zg | exact zj zb | exact zZ rfl | exact z6 | exact zj rfl | refine zI ?_ ?_ | refine zf rfl ?_ | refine zf zg ?_ | refine zf zb ?_)); done) | ((repeat' (first | exact ze zH | exact zV | exact ze (fun _ => rfl) | exact ze (fun _ => zg) | exact ze (fun _ => zb) | exact zj zg | exact zj zb | exact zZ rfl | exact z6 | exact zj rfl | refine zI ?_ ?_ | refine zf rfl ?_ | refine zf zg ?_ | refine zf zb ?_)); done) | exact zeM rfl rfl (by omega) | exact za7 rfl rfl (by omega) | exact zc9 rfl rfl (by omega) | exact zeN (fun _ => rfl) | exact zy (fun _ => rfl) (by decide) ⟨rfl, rfl⟩ trivial | exact zy (fun _ => rfl) (by decide) (fun _ _ => ⟨rfl, rfl⟩) trivial | (simp; done)); done) | exact zfy (fun _ => rfl) | exact Vw.it _ _ rfl | exact Vw.mp _ _ _ _ rfl | exact zy zH (by decide) ⟨rfl, rfl⟩ trivial | exact zy zH (by decide) (fun _ _ => ⟨rfl, rfl⟩) trivial | (refine zhg rfl ?_; (repeat' (first | exact ze zH | exact zV | exact ze (fun _ => rfl) | exact ze (fun _ => zg) | exact ze (fun _ => zb) | exact zj zg | exact zj zb | exact zZ rfl | exact z6 | exact zj rfl | refine zI ?_ ?_ | refine zf rfl ?_ | refine zf zg ?_ | refine zf zb ?_)); done) | exact zdd rfl | (refine RowV.of_flat ?_; (repeat' (first | exact ze zH | exact zV | exact ze (fun _ => rfl) | exact ze (fun _ => zg) | exact ze (fun _ => zb) | exact zj zg | exact zj zb | exact zZ rfl | exact z6 | exact zj rfl | refine zI ?_ ?_ | refine zf rfl ?_ | refine zf zg ?_ | refine zf zb ?_)); done) | ((repeat' (first | exact ze zH | exact zV | exact ze (fun _ => rfl) | exact ze (fun _ => zg) | exact ze (fun _ => zb) | exact zj zg | exact zj zb | exact zZ rfl | exact z6 | exact zj rfl | refine zI ?_ ?_ | refine zf rfl ?_ | refine zf zg ?_ | refine zf zb ?_)); done) | exact zeM rfl rfl (by omega) | exact za7 rfl rfl (by omega) | exact zc9 rfl rfl (by omega) | exact zeN (fun _ => rfl) | exact zy (fun _ => rfl) (by decide) ⟨rfl, rfl⟩ trivial | exact zy (fun _ => rfl) (by decide) (fun _ _ => ⟨rfl, rfl⟩) trivial | (simp; done)); done) | exact zfy (fun _ => rfl) | exact Vw.it _ _ rfl | exact Vw.mp _ _ _ _ rfl | exact zy zH (by decide) ⟨rfl, rfl⟩ trivial | exact zy zH (by decide) (fun _ _ => ⟨rfl, rfl⟩) trivial | (refine zhg rfl ?_; (repeat' (first | exact ze zH | exact zV | exact ze (fun _ => rfl) | exact ze (fun _ => zg) | exact ze (fun _ => zb) | exact zj zg | exact zj zb | exact zZ rfl | exact z6 | exact zj rfl | refine zI ?_ ?_ | refine zf rfl ?_ | refine zf zg ?_ | refine zf zb ?_)); done) | exact zdd rfl | (refine RowV.of_flat ?_; (repeat' (first | exact ze zH | exact zV | exact ze (fun _ => rfl) | exact ze (fun _ => zg) | exact ze (fun _ => zb) | exact zj zg | exact zj zb | exact zZ rfl | exact z6 | exact zj rfl | refine zI ?_ ?_ | refine zf rfl ?_ | refine zf zg ?_ | refine zf zb ?_)); done) | ((repeat' (first | exact ze zH | exact zV | exact ze (fun _ => rfl) | exact ze (fun _ => zg) | exact ze (fun _ => zb) | exact zj zg | exact zj zb | exact zZ rfl | exact z6 | exact zj rfl | refine zI ?_ ?_ | refine zf rfl ?_ | refine zf zg ?_ | refine zf zb ?_)); done) | exact zeM rfl rfl (by omega) | exact za7 rfl rfl (by omega) | exact zc9 rfl rfl (by omega) | exact zeN (fun _ => rfl) | exact zy (fun _ => rfl) (by decide) ⟨rfl, rfl⟩ trivial | exact zy (fun _ => rfl) (by decide) (fun _ _ => ⟨rfl, rfl⟩) trivial | (simp; done)))
  · obtain ⟨i, rfl⟩ : ∃ k, i = k + 1 := ⟨i - 1, by omega⟩
    have hil : i < sts.length := by omega
    have hgl := zA (f := St.cells) (d := []) hil
    have ei : ((i + 1 : Nat) : Int) - 1 = i := by omega
    have hat := zvj (exit := exit) (a := a0) hil
    have hl0 := hlk i
    have hci := zli (k := exit.length) hil
    have hc0 := zi8 (k := exit.length) (l := sts) (i := i)
    have hrem := zgp sts[i] (keepM exit (sts.drop (i + 1)) a0).2
    have hbk := zfH (keepM exit (sts.drop (i + 1)) a0).2 sts[i] exit k1 (hsz _ (List.getElem_mem hil)) (by omega) (by omega)
    generalize keepM exit (sts.drop (i + 1)) a0 = R at *
    obtain ⟨kp, a⟩ := R
    simp only at hrem hbk hli k1 k2 k3 hat
    (repeat first | simp (disch := try exact dis1) only [evD, Nat.reduceBEq, Nat.reduceAdd, Nat.reduceLeDiff, ei, dT, zdM, List.cons_append, List.nil_append, hgl, St.len, St.eight] | with_reducible intro _ | ((with_reducible apply And.intro); omega))
    refine zN [(0, 5, 0)] 1 _ (hrem) rfl rfl fin8 fin8 ?_
    rintro _ _ _ ⟨rfl, rfl, rfl⟩
    cases hx : remS sts[i] a.keys with
    | true =>
      rw [hx, if_pos rfl] at hat
      have hbt : (m0 || decide (kp.length < sts.length - i)) = true := by rw [decide_eq_true (by omega)]; simp
      (repeat first | simp (disch := try exact dis1) only [evD, Nat.reduceBEq, Nat.reduceAdd, Nat.reduceLeDiff, renM] | with_reducible intro _ | ((with_reducible apply And.intro); omega))
      refine ⟨i, by omega, by omega, ?_⟩
      exact (Ent.tab [(0, 0, 0), (1, 1, 0), (2, 2, 0), (3, 3, 0), (4, 4, 0), (5, 5, 0), (6, 6, 0)] [] rfl (by (try simp only [evWB, Nat.reduceBEq, Nat.reduceAdd, Nat.reduceSub, Nat.reduceLeDiff, Nat.reduceLT, implies_true, zdM, famS, hat, hbt, List.cons_append, List.nil_append]) <;> exact fin8) (by (try simp only [evWB, Nat.reduceBEq, Nat.reduceAdd, Nat.reduceSub, Nat.reduceLeDiff, Nat.reduceLT, implies_true, zdM, famS, hat, hbt, List.cons_append, List.nil_append]) <;> exact fin8))
    | false =>
      rw [hx, if_neg (by simp)] at hat
      (repeat first | simp (disch := try exact dis1) only [evD, Nat.reduceBEq, Nat.reduceAdd, Nat.reduceLeDiff, renM, hgl, St.len, St.eight] | with_reducible intro _ | ((with_reducible apply And.intro); omega))
      refine zN [(0, 5, 0)] 1 _ (hbk) rfl rfl fin8 fin8 ?_
      rintro _ _ _ ⟨rfl, rfl, rfl⟩
      have hkl : kp.reverse.length = kp.length := List.length_reverse
      have htk : (kp.reverse.map St.cells).take kp.length = kp.reverse.map St.cells := List.take_of_length_le (by rw [List.length_map, hkl]; omega)
      have hbt : decide (kp.length + 1 < sts.length - i) = decide (kp.length < sts.length - (i + 1)) := decide_eq_decide.2 (by omega)
      (repeat first | simp (disch := try exact dis1) only [evD, Nat.reduceBEq, Nat.reduceAdd, Nat.reduceLeDiff, renM, hgl, St.len, St.eight, hkl, htk] | with_reducible intro _ | ((with_reducible apply And.intro); omega))
      refine ⟨i, by omega, by omega, ?_⟩
      exact (Ent.tab [(0, 0, 0), (1, 1, 0), (2, 2, 0), (3, 3, 0), (4, 4, 0), (5, 5, 0), (6, 6, 1)] [] rfl (by (try simp only [evWB, Nat.reduceBEq, Nat.reduceAdd, Nat.reduceSub, Nat.reduceLeDiff, Nat.reduceLT, implies_true, zdM, famS, hat, hbt, List.cons_append, List.nil_append, List.length_cons, List.reverse_cons, List.map_append, List.map_cons, List.map_nil]) <;> exact fin8) (by (try simp only [evWB, Nat.reduceBEq, Nat.reduceAdd, Nat.reduceSub, Nat.reduceLeDiff, Nat.reduceLT, implies_true, zdM, famS, hat, hbt, List.cons_append, List.nil_append, List.length_cons, List.reverse_cons, List.map_append, List.map_cons, List.map_nil]) <;> exact fin8))
theorem zrp {b : List Int} : ∀ {a : List Int}, Asc a → LeL b a → zbp a b = a := by
  induction b with
  | nil => intro a _ _; rfl
  | cons x b ih =>
    intro a ha hb
    show zbp (insU x a) b = a
    rw [zjU ha (hb x (by simp))]
    exact ih ha fun y hy => hb y (List.mem_cons_of_mem _ hy)
theorem znr {exit more : List Int} {s : St} {a : List Int} (h : LeL exit more) : LeL (zb1 exit s a) (zb1 more s a) := fun x hx => by
  rw [zc2] at hx ⊢
  rcases hx with h1 | h1 | ⟨h1, h2⟩
  · exact .inl h1
  · exact .inr (.inl h1)
  · exact .inr (.inr ⟨h1, h x h2⟩)
theorem zjW {exit more : List Int} (h : LeL exit more) : ∀ {l : List St} {a : List Int}, LeL (zeB exit l a) (zeB more l a)
  | [], _ => fun _ h => h
  | s :: l, a => by
    rw [zku, zku]
    exact LeL.trans (znr h) (zmC (zjW h))
theorem zo4 {exit more : List Int} {g : List Bl} (h : LeL exit more) (i : Nat) : LeL ((zaB exit g).getD i []) ((zaB more g).getD i []) := by
  refine zmg (zis (exit := more)) (fun j hj => ?_) i
  rw [zrg hj, zpE hj, ← zkm hj]
  unfold zeK
  split
  · exact fun _ h => h
  · exact zjW h
def za8 (exit : List Int) (bl : List Bl) (i : Nat) : List Bl := bl.mapIdx fun j b => if j < i then blkD exit bl j b else b
theorem zc6 {exit : List Int} {bl : List Bl} {i : Nat} : (za8 exit bl i).length = bl.length := by simp [za8]
theorem zok {exit : List Int} {bl : List Bl} : za8 exit bl 0 = bl := by
  apply List.ext_getElem
  · exact zc6
  · intro k h1 h2; simp [za8]
theorem zo3 {exit : List Int} {bl : List Bl} : za8 exit bl bl.length = zbX exit bl := by
  apply List.ext_getElem
  · rw [zc6, zgD]
  · intro k h1 h2
    rw [zc6] at h1
    simp [za8, zbX, h1]
theorem zqY {exit : List Int} {bl : List Bl} {i : Nat} (h : i < bl.length) : (za8 exit bl i)[i]'(by rw [zc6]; exact h) = bl[i] := by simp [za8]
theorem zqy {exit : List Int} {bl : List Bl} {i : Nat} (h : i < bl.length) : (za8 exit bl i).set i ⟨bl[i].addr, (zhu exit bl[i].stmts (zaN exit bl i)).1⟩ = za8 exit bl (i + 1) := by
  apply List.ext_getElem
  · simp [za8]
  · intro k h1 h2
    rw [zc6] at h2
    rw [List.getElem_set]
    by_cases hk : i = k
    · subst hk
      simp [za8, blkD]
    · rw [if_neg hk]
      simp only [za8, List.getElem_mapIdx]
      by_cases hl : k < i
      · rw [if_pos hl, if_pos (by omega)]
      · rw [if_neg hl, if_neg (by omega)]
theorem zk5 {exit : List Int} {bl : List Bl} {i : Nat} : SubB (za8 exit bl i) bl := by
  refine ⟨zc6, fun k h1 h2 => ?_⟩
  simp only [za8, List.getElem_mapIdx]
  split
  · exact ⟨rfl, zgc _⟩
  · exact ⟨rfl, List.Sublist.refl _⟩
theorem zkS {b : Bl} : ∀ {l : List Bl} {i : Nat} (h : i < l.length), zu (l.set i b) + l[i].stmts.length = zu l + b.stmts.length
  | x :: l, 0, h => by simp only [zu, List.set_cons_zero, List.map_cons, List.sum_cons, List.getElem_cons_zero]; omega
  | x :: l, i + 1, h => by
    have := zkS (b := b) (l := l) (i := i) (by simpa using h)
    simp only [zu, List.set_cons_succ, List.map_cons, List.sum_cons, List.getElem_cons_succ] at *
    omega
theorem zqS {exit : List Int} {x : List Bl} : zkQ exit x = if zu (zbX exit x) = zu x then x else zkQ exit (zbX exit x) := by
  unfold zkQ
  rw [zm2]
  split
  · rfl
  · have := (zcw (exit := exit) (bl := x)).count
    exact zlm _ _ _ (by omega) (by omega)
theorem zv7 {Q : QT} (ad : Int) (bl : List Bl) (exit U : List Int) (hU : GoodB U exit bl) (S T : Nat → MS) (hE : EndB U exit bl S T) (r0 : Nat) (hr0 : r0 + zu bl ≤ 1000000)
    (hfin : ∀ K H nx, Ent 0 K H nx [(1, za exit), (4, .ptr 0 0 0 0 0), (8, .ptr 1 0 0 0 0), (9, .int .i64 ((r0 + (zu bl - zu (zbX exit bl)) : Nat) : Int)), (10, .bool (decide (zu (zbX exit bl) < zu bl)))]
      [(0, .row 2 [[.int .u32 0, .nilsl]] 0), (1, .row 2 [[.int .u32 ad, .own 2 0 0 0 bl.length]] 0), (2, .row 2 ((zbX exit bl).map Bl.cells) 0)] 3 → Q .normal K H nx)
    {K : Kn} {H : AH} {nx : Nat} (hent : Ent 0 K H nx [(1, za exit), (4, .ptr 0 0 0 0 0), (8, .ptr 1 0 0 0 0), (9, .int .i64 r0), (10, .bool false), (12, .own 3 0 0 0 bl.length), (35, .int .i64 bl.length), (36, .int .i64 0)] (zdM ad bl.length bl T) 5) :
    zhU Try.prog 0 zcs (zbe 2 Q) K H nx := by
  have hB := hBig
  have hlen := hU.len
  refine zo (fun i : Nat => ([(1, za exit), (4, .ptr 0 0 0 0 0), (8, .ptr 1 0 0 0 0), (9, .int .i64 ((r0 + (zu bl - zu (za8 exit bl i)) : Nat) : Int)), (10, .bool (decide (zu (za8 exit bl i) < zu bl))), (12, .own 3 0 0 0 bl.length), (35, .int .i64 bl.length), (36, .int .i64 i)], zdM ad bl.length (za8 exit bl i) T)) 5
    (fun i => i ≤ bl.length) (fun i => bl.length - i) 0 (Nat.zero_le _) ?_ ?_
  · rw [zok]
    simp only [Nat.sub_self, Nat.lt_irrefl, decide_false, Nat.add_zero]
    exact hent
  rintro i hi wf
  unfold zcs
  by_cases hil : i < bl.length
  · have hm := List.getElem_mem hil
    have hDl := zc6 (exit := exit) (bl := bl) (i := i)
    have hDi := zqY (exit := exit) hil
    have hDs := zqy (exit := exit) hil
    have hDc := (zk5 (exit := exit) (bl := bl) (i := i)).count
    have hcs := zkS (b := ⟨bl[i].addr, (zhu exit bl[i].stmts (zaN exit bl i)).1⟩) (l := za8 exit bl i) (i := i) (by omega)
    rw [hDs, hDi] at hcs
    simp only at hcs
    have hDc1 := (zk5 (exit := exit) (bl := bl) (i := i + 1)).count
    have hT := hE.t i
    have hTl := hT.len
    have hks : zbM ((T i).2.map (·.1)) = zaN exit bl i := hE.keyT hil
    have hkl : (zaN exit bl i).length = (T i).2.length := by rw [← hks, (zL _).length_eq, List.length_map]
    have hcost := hU.cost _ hm
    have hok : (addL (0, []) (zaN exit bl i)).ok := zg3 zjo (by simp only; omega) (by simp only [List.length_nil]; omega)
    have hbd := zcx (l := zaN exit bl i) (s := (0, []))
    simp only [List.length_nil] at hbd
    have hkeys : ∀ x, x ∈ (addL (0, []) (zaN exit bl i)).keys ↔ x ∈ zaN exit bl i := fun x => by rw [zde]; simp [MS.keys]
    obtain ⟨hkp, _⟩ := znb (exit := exit) hkeys bl[i].stmts
    have hll := (zgc (exit := exit) (e := zaN exit bl i) bl[i].stmts).length_le
    have hstl := zik hm
    have hl0 := fun (Q : QT) => zwK (Q := Q) ad bl.length i hil hlen (za8 exit bl i) hDl T exit bl[i].stmts (addL (0, []) (zaN exit bl i)) (r0 + (zu bl - zu (za8 exit bl i))) (decide (zu (za8 exit bl i) < zu bl)) (fun s hs => (hU.hsz _ hm s hs).1) hok (by omega) (by omega) (by omega) (by omega)
    simp only [hDi] at hl0
    rw [hkp, hDs] at hl0
    have hg : ((za8 exit bl i).map Bl.cells).getD i [] = [.int .u32 bl[i].addr, encL 8 St.cells bl[i].stmts] := by
      have := zA (f := Bl.cells) (d := []) (l := za8 exit bl i) (i := i) (by omega)
      rw [hDi] at this
      exact this
    have hDml : ((za8 exit bl i).map Bl.cells).length = bl.length := by rw [List.length_map, hDl]
    have hsa := ze3 (0, []) (zaN exit bl i) zjo (by simp only; omega) (by simp only [List.length_nil]; omega)
    generalize addL (0, []) (zaN exit bl i) = a0 at *
    generalize zaN exit bl i = lo at *
    clear hDi hDs hDl
    generalize hD : za8 exit bl i = D at *
    (repeat first | simp (disch := try exact dis1) only [evD, Nat.reduceBEq, Nat.reduceAdd, Nat.reduceLeDiff, dT, zdM, za, zeR, zdz hil] | with_reducible intro _ | ((with_reducible apply And.intro); omega))
    refine zN [(0, 4, 0)] 1 _ (zbL bl.length i hil T hT.ok) rfl rfl (by (try simp only [evWB, Nat.reduceBEq, Nat.reduceAdd, Nat.reduceSub, Nat.reduceLeDiff, Nat.reduceLT, implies_true, famS]) <;> exact fin8) (by (try simp only [evWB, Nat.reduceBEq, Nat.reduceAdd, Nat.reduceSub, Nat.reduceLeDiff, Nat.reduceLT, implies_true, famS]) <;> exact fin8) ?_
    rintro _ _ _ ⟨rfl, rfl, rfl⟩
    (repeat first | simp (disch := try exact dis1) only [evD, Nat.reduceBEq, Nat.reduceAdd, Nat.reduceLeDiff, renE, renF, hks, za, zeR, zdz hil] | with_reducible intro _ | ((with_reducible apply And.intro); omega))
    refine zN [(0, 5, 0)] 1 _ (hsa) rfl rfl (by (try simp only [evWB, Nat.reduceBEq, Nat.reduceAdd, Nat.reduceSub, Nat.reduceLeDiff, Nat.reduceLT, implies_true, zl]) <;> exact fin8) (by (try simp only [evWB, Nat.reduceBEq, Nat.reduceAdd, Nat.reduceSub, Nat.reduceLeDiff, Nat.reduceLT, implies_true, zl]) <;> exact fin8) ?_
    rintro _ _ _ ⟨rfl, rfl, rfl⟩
    (repeat first | simp (disch := try exact dis1) only [evD, Nat.reduceBEq, Nat.reduceAdd, Nat.reduceLeDiff, renM, za, hg, hDml] | with_reducible intro _ | ((with_reducible apply And.intro); omega))
    refine hl0 _ ?_ ?_
    · intro K2 H2 nx2 he
      refine ⟨i + 1, by omega, by show bl.length - (i + 1) < bl.length - i; omega, ?_⟩
      have e1 : r0 + (zu bl - zu D) + (bl[i].stmts.length - (zhu exit bl[i].stmts lo).1.length) = r0 + (zu bl - zu (za8 exit bl (i + 1))) := by omega
      have e2 : (decide (zu D < zu bl) || decide ((zhu exit bl[i].stmts lo).1.length < bl[i].stmts.length)) = decide (zu (za8 exit bl (i + 1)) < zu bl) := by
        rw [← Bool.decide_or]
        exact decide_eq_decide.2 (by omega)
      rw [e1, e2] at he
      exact he
    · exact (Ent.tab [(0, 0, 0), (1, 1, 0), (2, 2, 0), (3, 3, 0), (4, 4, 0), (5, 5, 0), (6, 8, 0)] [] rfl (by (try simp only [evWB, Nat.reduceBEq, Nat.reduceAdd, Nat.reduceSub, Nat.reduceLeDiff, Nat.reduceLT, implies_true, zdM, famS, List.cons_append, List.nil_append]) <;> exact fin8) (by (try simp only [evWB, Nat.reduceBEq, Nat.reduceAdd, Nat.reduceSub, Nat.reduceLeDiff, Nat.reduceLT, implies_true, zdM, famS, List.cons_append, List.nil_append]) <;> exact fin8))
  · obtain rfl : i = bl.length := by omega
    rw [zo3]
    (repeat first | simp (disch := try exact dis1) only [evD, Nat.reduceBEq, Nat.reduceAdd, Nat.reduceLeDiff, dF] | with_reducible intro _ | ((with_reducible apply And.intro); omega))
    refine hfin _ _ _ ?_
    exact (Ent.tab [(0, 0, 0), (1, 1, 0), (2, 2, 0)] [] rfl (by (try simp only [evWB, Nat.reduceBEq, Nat.reduceAdd, Nat.reduceSub, Nat.reduceLeDiff, Nat.reduceLT, implies_true, zdM, famS, za]) <;> exact fin8) (by (try simp only [evWB, Nat.reduceBEq, Nat.reduceAdd, Nat.reduceSub, Nat.reduceLeDiff, Nat.reduceLT, implies_true, zdM, famS, za]) <;> exact fin8))
theorem zpB {F n g : Nat} : AObj.refs (.row 1 (mps F n) g) := by
  intro c hc
  obtain ⟨i, _, rfl⟩ := List.mem_map.1 hc
  rfl
theorem zwy (a : MC) : (cm a).all AV.ref0 = true := by
  unfold cm
  split <;> rfl
theorem zmF {n : Nat} {S : Nat → MS} : AObj.refs (famS n S) := by
  intro p hp
  unfold fi at hp
  obtain ⟨i, _, rfl⟩ := List.mem_map.1 hp
  exact zvf zwy
theorem zuj {n : Nat} {S T : Nat → MS} : AH.refs (bdH n S T) := ⟨zpB, zpB, zmF, zmF, trivial⟩
structure RunD (U exit : List Int) (bl0 R x : List Bl) (m : Bool) : Prop where
  good : GoodB U exit x
  len : x.length = bl0.length
  cnt : zu x ≤ zu bl0
  go : zkQ exit x = R
  done : m = false → x = R
theorem RunD.next {U exit : List Int} {bl0 R x : List Bl} (h : RunD U exit bl0 R x true) :
    RunD U exit bl0 R (zbX exit x) (decide (zu (zbX exit x) < zu x)) ∧ 2 * zu (zbX exit x) + (bif decide (zu (zbX exit x) < zu x) then 1 else 0) < 2 * zu x + (bif true then 1 else 0) := by
  have hc := (zcw (exit := exit) (bl := x)).count
  have hg := h.go
  have hn := h.cnt
  rw [zqS] at hg
  refine ⟨⟨h.good.sub zcw, by rw [zgD]; exact h.len, by omega, ?_, fun hm => ?_⟩, ?_⟩
  · split at hg
    · rename_i he
      rw [zcw.same he]
      exact h.go
    · exact hg
  · have hm := of_decide_eq_false hm
    rw [if_pos (by omega)] at hg
    rw [zcw.same (by omega)]
    exact hg
  · by_cases hlt : zu (zbX exit x) < zu x
    · rw [decide_eq_true hlt]
      simp only [cond_true]
      omega
    · rw [decide_eq_false hlt]
      simp only [cond_true, cond_false]
      omega
theorem zw3 {Q : QT} (ad : Int) (bl0 R : List Bl) (exit U : List Int)
    (hcnt : zu bl0 ≤ 1000000)
    (hfin : wpX Try.prog 0 zbk Q [(4, .ptr 0 0 0 0 0), (8, .ptr 1 0 0 0 0), (9, .int .i64 ((zu bl0 - zu R : Nat) : Int)), (26, .bool false)]
      [(0, .row 2 [[.int .u32 0, .nilsl]] 0), (1, .row 2 [[.int .u32 ad, .own 2 0 0 0 bl0.length]] 0), (2, .row 2 (R.map Bl.cells) 0)] 3)
    {K : Kn} {H : AH} {nx : Nat} (hrun : RunD U exit bl0 R bl0 true) (hent : Ent 0 K H nx [(1, za exit), (4, .ptr 0 0 0 0 0), (8, .ptr 1 0 0 0 0), (9, .int .i64 0), (10, .bool true)]
      [(0, .row 2 [[.int .u32 0, .nilsl]] 0), (1, .row 2 [[.int .u32 ad, .own 2 0 0 0 bl0.length]] 0), (2, .row 2 (bl0.map Bl.cells) 0)] 3) :
    zhU Try.prog 0 zcq (zbe 0 (seqQ Try.prog 0 zbk Q)) K H nx := by
  have hB := hBig
  refine zo (fun a : List Bl × Bool => ([(1, za exit), (4, .ptr 0 0 0 0 0), (8, .ptr 1 0 0 0 0), (9, .int .i64 ((zu bl0 - zu a.1 : Nat) : Int)), (10, .bool a.2)],
      [(0, .row 2 [[.int .u32 0, .nilsl]] 0), (1, .row 2 [[.int .u32 ad, .own 2 0 0 0 bl0.length]] 0), (2, .row 2 (a.1.map Bl.cells) 0)])) 3
    (fun a => RunD U exit bl0 R a.1 a.2) (fun a => 2 * zu a.1 + (bif a.2 then 1 else 0)) (bl0, true) hrun ?_ ?_
  · simp only [Nat.sub_self]
    exact hent
  rintro ⟨x, m⟩ hrn wf
  simp only at hrn
  unfold zcq
  cases m with
  | false =>
    obtain rfl := hrn.done rfl
    (repeat first | simp (disch := try exact dis1) only [evD, Nat.reduceBEq, Nat.reduceAdd, Nat.reduceLeDiff] | with_reducible intro _ | ((with_reducible apply And.intro); omega))
    exact hfin
  | true =>
    obtain ⟨n1, n2⟩ := hrn.next
    have hxl := hrn.len
    have hxc := hrn.cnt
    have hbd := zhA ⟨ad, x⟩ exit U hrn.good.univ
    have hxb := hrn.good.len
    have hml : (x.map Bl.cells).length = x.length := List.length_map _
    (repeat first | simp (disch := try exact dis1) only [evD, Nat.reduceBEq, Nat.reduceAdd, Nat.reduceLeDiff] | with_reducible intro _ | ((with_reducible apply And.intro); omega))
    refine zre (D := inD [2]) hbd (.cons (.agg _ _ _ rfl (fun j a c h1 h2 => ?_)) (.cons (zaa rfl) .nil)) ?_ ?_
    · match j with
      | 0 => cases h1; cases h2; exact .int _ _ _
      | 1 => cases h1; cases h2; rw [← hxl]; exact zrQ rfl rfl (by omega)
      | j + 2 => cases h1
    · rintro _ _ _ ⟨S, T, rfl, rfl, rfl, _⟩
      exact ⟨rfl, zuj⟩
    rintro _ _ _ ⟨S, T, rfl, rfl, rfl, hend⟩
    simp only at hend
    (repeat first | simp (disch := try exact dis1) only [evD, Nat.reduceBEq, Nat.reduceAdd, Nat.reduceLeDiff, bdH, renP, renF] | with_reducible intro _ | ((with_reducible apply And.intro); omega))
    refine zv7 ad x exit U hrn.good S T hend (zu bl0 - zu x) (by omega) ?_ ?_
    · intro K2 H2 nx2 he
      refine ⟨(zbX exit x, _), n1, n2, ?_⟩
      have hc := (zcw (exit := exit) (bl := x)).count
      have e1 : zu bl0 - zu x + (zu x - zu (zbX exit x)) = zu bl0 - zu (zbX exit x) := by omega
      rw [e1, hxl] at he
      exact he
    · rw [hxl]
      exact (Ent.tab [(0, 0, 0), (1, 1, 0), (2, 2, 0), (3, 4, 0), (4, 6, 0)] [] rfl (by (try simp only [evWB, Nat.reduceBEq, Nat.reduceAdd, Nat.reduceSub, Nat.reduceLeDiff, Nat.reduceLT, implies_true, zdM, famS]) <;> exact fin8) (by (try simp only [evWB, Nat.reduceBEq, Nat.reduceAdd, Nat.reduceSub, Nat.reduceLeDiff, Nat.reduceLT, implies_true, zdM, famS]) <;> exact fin8))
def zvu (g : G) (exit : List Int) : AV := if zkU g = 0 then .tup [.agg (G.cells ⟨g.addr, zkQ exit g.blocks⟩), .int .i64 ((zu g.blocks - zu (zkQ exit g.blocks) : Nat) : Int), .int .i64 0] else .tup [.agg (G.cells ⟨0, []⟩), .int .i64 0, .int .i64 (zkU g)]
theorem zrA {exit : List Int} {bl : List Bl} : (zkQ exit bl).length = bl.length := (zmW _ _).1
theorem zfM (g : G) (exit U : List Int) (hU : GoodB U exit g.blocks) (hf : fewB g) : zE Try.prog zcJ [.agg g.cells, za exit] (· = zvu g exit) := by
  refine fn_x zi4 rfl ?_
  unfold zfL zvu
  have hB := hBig
  have hcg := zi3 g hf (fun b hb s hs => by have := (hU.hsz b hb s hs).2; omega)
  have hcp := zsV g hU.len (fun b hb => Nat.le_trans (zik hb) hU.cnt) (fun b hb s hs => ⟨(hU.hsz b hb s hs).1, by have := (hU.hsz b hb s hs).2; omega⟩)
  have hpl := zrA (exit := exit) (bl := g.blocks)
  have hlen := hU.len
  have hcnt := hU.cnt
  obtain ⟨ad, bl⟩ := g
  simp only [G.cells] at hcg hcp hpl hU hlen hcnt ⊢
  (repeat first | simp (disch := try exact dis1) only [evD, Nat.reduceBEq, Nat.reduceAdd, Nat.reduceLeDiff, fldP, za, zkI, tab, List.getD_cons_zero, List.getD_cons_succ] | with_reducible intro _ | ((with_reducible apply And.intro); omega))
  refine zn (zw hcg rfl) ?_
  by_cases hc : zkU ⟨ad, bl⟩ = 0
  · rw [if_pos hc, hc]
    (repeat first | simp (disch := try exact dis1) only [evD, Nat.reduceBEq, Nat.reduceAdd, Nat.reduceLeDiff, dF, fldP, za, zkI, tab, List.getD_cons_zero, List.getD_cons_succ] | with_reducible intro _ | ((with_reducible apply And.intro); omega))
    refine zN [] 0 _ (hcp) rfl rfl fin9 fin9 ?_
    rintro _ _ _ ⟨rfl, rfl, rfl⟩
    have hrb : ∀ {ρ : Nat → Nat} {l : List Bl} {g : Nat}, AObj.ren ρ (.row 2 (l.map Bl.cells) g) = .row 2 (l.map Bl.cells) g := fun {ρ l g} => by
      simp only [AObj.ren]
      rw [zfm (ze fun s => rfl)]
    (repeat first | simp (disch := try exact dis1) only [evD, Nat.reduceBEq, Nat.reduceAdd, Nat.reduceLeDiff, hrb] | with_reducible intro _ | ((with_reducible apply And.intro); omega))
    refine zw3 ad bl (zkQ exit bl) exit U hcnt ?_ ⟨hU, rfl, Nat.le_refl _, rfl, fun h => by cases h⟩ ?_
    · unfold zbk
      (repeat first | simp (disch := try exact dis1) only [evD, Nat.reduceBEq, Nat.reduceAdd, Nat.reduceLeDiff, zdw] | with_reducible intro _ | ((with_reducible apply And.intro); omega))
      refine ⟨.tup [.agg [.int .u32 ad, encL 2 Bl.cells (zkQ exit bl)], .int .i64 ((zu bl - zu (zkQ exit bl) : Nat) : Int), .int .i64 0], .tup _ _ _ rfl (fun j a c h1 h2 => ?_), rfl⟩
      match j with
      | 0 =>
        cases h1; cases h2
        refine .agg _ _ _ rfl (fun j a c h1 h2 => ?_)
        match j with
        | 0 => cases h1; cases h2; exact .int _ _ _
        | 1 => cases h1; cases h2; rw [← hpl]; exact zrQ trivial rfl (by omega)
        | j + 2 => cases h1
      | 1 => cases h1; cases h2; exact .int _ _ _
      | 2 => cases h1; cases h2; exact .int _ _ _
      | j + 3 => cases h1
    · exact (Ent.tab [(0, 0, 0), (1, 2, 0), (2, 1, 0)] [] rfl (by (try simp only [evWB, Nat.reduceBEq, Nat.reduceAdd, Nat.reduceSub, Nat.reduceLeDiff, Nat.reduceLT, implies_true, za]) <;> exact fin2) (by (try simp only [evWB, Nat.reduceBEq, Nat.reduceAdd, Nat.reduceSub, Nat.reduceLeDiff, Nat.reduceLT, implies_true, za]) <;> exact fin2))
  · rw [if_neg hc]
    (repeat first | simp (disch := try exact dis1) only [evD, Nat.reduceBEq, Nat.reduceAdd, Nat.reduceLeDiff, fldP, dT, za, zdw] | with_reducible intro _ | ((with_reducible apply And.intro); omega))
    refine ⟨.tup [.agg [.int .u32 0, encL 2 Bl.cells []], .int .i64 0, .int .i64 (zkU ⟨ad, bl⟩)], .tup _ _ _ rfl (fun j a c h1 h2 => ?_), rfl⟩
    match j with
    | 0 =>
      cases h1; cases h2
      refine .agg _ _ _ rfl (fun j a c h1 h2 => ?_)
      match j with
      | 0 => cases h1; cases h2; exact .int _ _ _
      | 1 => cases h1; cases h2; exact .nil0 _ _ _
      | j + 2 => cases h1
    | 1 => cases h1; cases h2; exact .int _ _ _
    | 2 => cases h1; cases h2; exact .int _ _ _
    | j + 3 => cases h1
structure FewD (exit : List Int) (bl : List Bl) : Prop where
  sz : ∀ b ∈ bl, ∀ s ∈ b.stmts, zr s.e ≤ 100000 ∧ s.cases.length ≤ 100000 ∧ (s.op = 1 → s.e.length = 1)
  len : bl.length ≤ 1000000
  cnt : zu bl ≤ 1000
  uni : (univ exit bl).length + exit.length ≤ 400000
structure RunR (exit : List Int) (bl0 R x : List Bl) (k : Nat) : Prop where
  few : FewD exit x
  len : x.length = bl0.length
  cnt : k + zu x ≤ zu bl0
  go : ∀ j, zu x < j → deadR exit j x = R
theorem zlP : ∀ (k : Nat) (e : Ex) (m n : Int), zbB e ≤ k → -1000 ≤ m → m ≤ 1000 → -1 ≤ n → n ≤ 30000 → zE Try.prog zfo [.agg (encX e), .int .i64 m, .int .i64 n] (· = .int .i64 (zeD e m n)) := by
  intro k
  induction k with
  | zero => intro e m n h; obtain ⟨_, _, _, _, l⟩ := e; rw [zbB] at h; omega
  | succ k ih =>
  intro e m n hk h1 h2 h3 h4
  obtain ⟨op, nn, v, w, l⟩ := e
  refine fn_x zmi rfl ?_
  unfold ziR
  have hB := hBig
  rw [zbB] at hk
  have hR := zet (.mk op nn v w l) m n h3
  rw [zeD] at hR ⊢
  generalize hE : encX (.mk op nn v w l) = E
  rw [zct] at hE
  subst hE
  by_cases c1 : m < 1
  · rw [if_pos (.inl c1)]
    (repeat first | simp (disch := try exact dis1) only [evD, Nat.reduceBEq, Nat.reduceAdd, Nat.reduceLeDiff, dT, zcy] | with_reducible intro _ | ((with_reducible apply And.intro); omega))
    exact ⟨_, .int _ _ _, rfl⟩
  by_cases c2 : n < 1
  · rw [if_pos (.inr (.inl c2))]
    (repeat first | simp (disch := try exact dis1) only [evD, Nat.reduceBEq, Nat.reduceAdd, Nat.reduceLeDiff, dT, dF, zcy] | with_reducible intro _ | ((with_reducible apply And.intro); omega))
    exact ⟨_, .int _ _ _, rfl⟩
  by_cases c3 : 4 < l.length
  · rw [if_pos (.inr (.inr c3))]
    (repeat first | simp (disch := try exact dis1) only [evD, Nat.reduceBEq, Nat.reduceAdd, Nat.reduceLeDiff, dT, dF, zcy] | with_reducible intro _ | ((with_reducible apply And.intro); omega))
    exact ⟨_, .int _ _ _, rfl⟩
  rw [if_neg (by omega)] at hR ⊢
  (repeat first | simp (disch := try exact dis1) only [evD, Nat.reduceBEq, Nat.reduceAdd, Nat.reduceLeDiff, dF] | with_reducible intro _ | ((with_reducible apply And.intro); omega))
  generalize hG : zaK l (m - 1) (n - 1) = R at hR ⊢
  refine zo (fun s : Nat × Int => ([(1, .int .i64 m), (3, encP 5 [.int .i64 op, .int .u32 nn, .int .i64 v, .int .i64 w, encL 5 encX l]), (7, .int .i64 s.2), (8, .int .i64 s.1)], [])) 0 (fun s => s.1 ≤ l.length ∧ -1 ≤ s.2 ∧ s.2 ≤ n ∧ zaK (l.drop s.1) (m - 1) s.2 = R) (fun s => l.length - s.1) (0, n - 1) ⟨Nat.zero_le _, by simp only; omega, by simp only; omega, hG⟩ (Ent.keep rfl fin5) ?_
  rintro ⟨i, x⟩ ⟨hi, hx1, hx2, hgo⟩ wf
  simp only at hi hx1 hx2 hgo
  unfold zgu
  by_cases hl : i < l.length
  · by_cases hx : 0 ≤ x
    · rw [ziF hl hx] at hgo
      have hm := zd0 (List.getElem_mem hl)
      have hr := zet l[i] (m - 1) x hx1
      (repeat first | simp (disch := try exact dis1) only [evD, Nat.reduceBEq, Nat.reduceAdd, Nat.reduceLeDiff, fldP, dT, dF, zA hl, zbU, zbc] | with_reducible intro _ | ((with_reducible apply And.intro); omega))
      refine zn (zw (ih l[i] (m - 1) x (by omega) (by omega) (by omega) (by omega) (by omega)) (flX rfl)) ?_
      (repeat first | simp (disch := try exact dis1) only [evD, Nat.reduceBEq, Nat.reduceAdd, Nat.reduceLeDiff] | with_reducible intro _ | ((with_reducible apply And.intro); omega))
      exact ⟨(i + 1, zeD l[i] (m - 1) x), ⟨by simp only; omega, by simp only; omega, by simp only; omega, hgo⟩, by simp only; omega, Ent.keep rfl fin5⟩
    · rw [zhb (by omega)] at hgo
      subst hgo
      (repeat first | simp (disch := try exact dis1) only [evD, Nat.reduceBEq, Nat.reduceAdd, Nat.reduceLeDiff, fldP, dT, dF] | with_reducible intro _ | ((with_reducible apply And.intro); omega))
      unfold zee
      (repeat first | simp (disch := try exact dis1) only [evD, Nat.reduceBEq, Nat.reduceAdd, Nat.reduceLeDiff, zcy] | with_reducible intro _ | ((with_reducible apply And.intro); omega))
      exact ⟨_, .int _ _ _, rfl⟩
  · rw [List.drop_of_length_le (by omega), zaK] at hgo
    subst hgo
    (repeat first | simp (disch := try exact dis1) only [evD, Nat.reduceBEq, Nat.reduceAdd, Nat.reduceLeDiff, fldP, dT, dF] | with_reducible intro _ | ((with_reducible apply And.intro); omega))
    unfold zee
    (repeat first | simp (disch := try exact dis1) only [evD, Nat.reduceBEq, Nat.reduceAdd, Nat.reduceLeDiff, zcy] | with_reducible intro _ | ((with_reducible apply And.intro); omega))
    exact ⟨_, .int _ _ _, rfl⟩
def znO (s : St) (n : Int) : Int := if 4 < s.e.length ∨ 100 < s.cases.length then -1 else zaK s.e 8 n
def zep : List St → Int → Int
  | [], n => n
  | s :: l, n => if n < 0 then n else zep l (znO s n)
def zod (b : Bl) (n : Int) : Int := if 1100 < b.stmts.length then -1 else zep b.stmts n
def zek : List Bl → Int → Int
  | [], n => n
  | b :: l, n => if n < 0 then n else zek l (zod b n)
def zmK (g : G) : Bool := decide (g.blocks.length ≤ 300) && decide (0 ≤ zek g.blocks 20000)
def zmA (g : G) (exit : List Int) : Bool := decide (g.blocks.length ≤ 12) && (decide (exit.length ≤ 20) && (zmK g && g.blocks.all fun b => decide (b.stmts.length ≤ 12)))
theorem zn0 {l : List St} {i : Nat} {n : Int} (h : i < l.length) (hn : 0 ≤ n) : zep (l.drop i) n = zep (l.drop (i + 1)) (znO l[i] n) := by
  rw [List.drop_eq_getElem_cons h, zep, if_neg (by omega)]
theorem zgy {l : List St} {n : Int} (hn : n < 0) : zep l n = n := by
  cases l with
  | nil => rw [zep]
  | cons a l => rw [zep, if_pos hn]
theorem zoK {l : List Bl} {i : Nat} {n : Int} (h : i < l.length) (hn : 0 ≤ n) : zek (l.drop i) n = zek (l.drop (i + 1)) (zod l[i] n) := by
  rw [List.drop_eq_getElem_cons h, zek, if_neg (by omega)]
theorem zib {l : List Bl} {n : Int} (hn : n < 0) : zek l n = n := by
  cases l with
  | nil => rw [zek]
  | cons a l => rw [zek, if_pos hn]
theorem ziq (g : G) : zE Try.prog zdr [.agg g.cells, .int .i64 8] (· = .bool (zmK g)) := by
  refine fn_x zhY rfl ?_
  unfold ze7 zmK
  have hB := hBig
  obtain ⟨ad, bl⟩ := g
  simp only [G.cells]
  by_cases h300 : 300 < bl.length
  · rw [decide_eq_false (by omega), Bool.false_and]
    (repeat first | simp (disch := try exact dis1) only [evD, Nat.reduceBEq, Nat.reduceAdd, Nat.reduceLeDiff, fldP, dT, zai] | with_reducible intro _ | ((with_reducible apply And.intro); omega))
    exact ⟨_, .bool _ _, rfl⟩
  rw [decide_eq_true (by omega), Bool.true_and]
  generalize hR : zek bl 20000 = R
  have fin : R < 0 → decide (0 ≤ R) = false := fun h => decide_eq_false (by omega)
  (repeat first | simp (disch := try exact dis1) only [evD, Nat.reduceBEq, Nat.reduceAdd, Nat.reduceLeDiff, fldP, dF] | with_reducible intro _ | ((with_reducible apply And.intro); omega))
  refine zo (fun a : Nat × Int => ([(1, .int .i64 8), (2, encP 2 [.int .u32 ad, encL 2 Bl.cells bl]), (5, .int .i64 a.2), (6, .int .i64 a.1)], [])) 0 (fun a => a.1 ≤ bl.length ∧ 0 ≤ a.2 ∧ a.2 ≤ 20000 ∧ zek (bl.drop a.1) a.2 = R) (fun a => bl.length - a.1) (0, 20000) ⟨Nat.zero_le _, by simp only; omega, by simp only; omega, hR⟩ (Ent.keep rfl fin5) ?_
  rintro ⟨i, n⟩ ⟨hi, hn1, hn2, hgo⟩ wf
  simp only at hi hn1 hn2 hgo
  unfold zdB
  by_cases hil : i < bl.length
  case neg =>
    rw [List.drop_of_length_le (by omega), zek] at hgo
    subst hgo
    rw [decide_eq_true hn1]
    (repeat first | simp (disch := try exact dis1) only [evD, Nat.reduceBEq, Nat.reduceAdd, Nat.reduceLeDiff, fldP, dF] | with_reducible intro _ | ((with_reducible apply And.intro); omega))
    unfold zdI
    (repeat first | simp (disch := try exact dis1) only [evD, Nat.reduceBEq, Nat.reduceAdd, Nat.reduceLeDiff, zai] | with_reducible intro _ | ((with_reducible apply And.intro); omega))
    exact ⟨_, .bool _ _, rfl⟩
  have hg : (bl.map Bl.cells).getD i [] = [.int .u32 bl[i].addr, encL 8 St.cells bl[i].stmts] := zA hil
  rw [zoK hil hn1] at hgo
  unfold zod at hgo
  generalize bl[i].addr = ad2 at hg
  generalize bl[i].stmts = m at hg hgo
  by_cases h11 : 1100 < m.length
  · rw [if_pos h11, zib (by omega)] at hgo
    rw [fin (by omega)]
    (repeat first | simp (disch := try exact dis1) only [evD, Nat.reduceBEq, Nat.reduceAdd, Nat.reduceLeDiff, fldP, dT, hg, zai] | with_reducible intro _ | ((with_reducible apply And.intro); omega))
    exact ⟨_, .bool _ _, rfl⟩
  rw [if_neg h11] at hgo
  (repeat first | simp (disch := try exact dis1) only [evD, Nat.reduceBEq, Nat.reduceAdd, Nat.reduceLeDiff, fldP, dT, dF, hg] | with_reducible intro _ | ((with_reducible apply And.intro); omega))
  generalize hM : zep m n = M at hgo
  have hMR : M < 0 → R < 0 := fun h => by rw [zib h] at hgo; omega
  refine zo (fun a : Nat × Int => ([(1, .int .i64 8), (2, encP 2 [.int .u32 ad, encL 2 Bl.cells bl]), (5, .int .i64 a.2), (6, .int .i64 i), (7, .int .i64 a.1)], [])) 0 (fun a => a.1 ≤ m.length ∧ 0 ≤ a.2 ∧ a.2 ≤ 20000 ∧ zep (m.drop a.1) a.2 = M) (fun a => m.length - a.1) (0, n) ⟨Nat.zero_le _, hn1, hn2, hM⟩ (Ent.keep rfl fin5) ?_
  rintro ⟨k, n2⟩ ⟨hk, hk1, hk2, hgo2⟩ wf2
  simp only at hk hk1 hk2 hgo2
  unfold zdF
  by_cases hkl : k < m.length
  case neg =>
    rw [List.drop_of_length_le (by omega), zep] at hgo2
    subst hgo2
    (repeat first | simp (disch := try exact dis1) only [evD, Nat.reduceBEq, Nat.reduceAdd, Nat.reduceLeDiff, fldP, dF, hg] | with_reducible intro _ | ((with_reducible apply And.intro); omega))
    unfold zdJ
    (repeat first | simp (disch := try exact dis1) only [evD, Nat.reduceBEq, Nat.reduceAdd, Nat.reduceLeDiff] | with_reducible intro _ | ((with_reducible apply And.intro); omega))
    exact ⟨(i + 1, n2), ⟨by simp only; omega, hk1, hk2, hgo⟩, by simp only; omega, Ent.keep rfl fin5⟩
  have hgm := zA (f := St.cells) (d := []) hkl
  rw [zn0 hkl hk1] at hgo2
  unfold znO at hgo2
  generalize m[k] = s at hgm hgo2
  obtain ⟨op, var, width, next, els, tgt, e, cs⟩ := s
  simp only at hgo2
  simp only [St.cells] at hgm
  by_cases h4 : 4 < e.length
  · rw [if_pos (.inl h4), zgy (by omega)] at hgo2
    have := hMR (by omega)
    rw [fin this]
    (repeat first | simp (disch := try exact dis1) only [evD, Nat.reduceBEq, Nat.reduceAdd, Nat.reduceLeDiff, fldP, dT, hg, hgm, zai] | with_reducible intro _ | ((with_reducible apply And.intro); omega))
    exact ⟨_, .bool _ _, rfl⟩
  by_cases h100 : 100 < cs.length
  · rw [if_pos (.inr h100), zgy (by omega)] at hgo2
    have := hMR (by omega)
    rw [fin this]
    (repeat first | simp (disch := try exact dis1) only [evD, Nat.reduceBEq, Nat.reduceAdd, Nat.reduceLeDiff, fldP, dT, dF, hg, hgm, za, zai] | with_reducible intro _ | ((with_reducible apply And.intro); omega))
    exact ⟨_, .bool _ _, rfl⟩
  rw [if_neg (by omega)] at hgo2
  generalize hE : zaK e 8 n2 = E at hgo2
  have hEM : E < 0 → M < 0 := fun h => by rw [zgy h] at hgo2; omega
  (repeat first | simp (disch := try exact dis1) only [evD, Nat.reduceBEq, Nat.reduceAdd, Nat.reduceLeDiff, fldP, dT, dF, hg, hgm, za] | with_reducible intro _ | ((with_reducible apply And.intro); omega))
  refine zo (fun a : Nat × Int => ([(1, .int .i64 8), (2, encP 2 [.int .u32 ad, encL 2 Bl.cells bl]), (5, .int .i64 a.2), (6, .int .i64 i), (7, .int .i64 k), (8, .ptr 0 0 0 0 0), (9, .int .i64 a.1)], [(0, .row 8 [[.int .i64 op, .int .i64 var, .int .i64 width, .int .i64 next, .int .i64 els, .int .u32 tgt, encL 5 encX e, za cs]] 0)])) 1 (fun a => a.1 ≤ e.length ∧ 0 ≤ a.2 ∧ a.2 ≤ 20000 ∧ zaK (e.drop a.1) 8 a.2 = E) (fun a => e.length - a.1) (0, n2) ⟨Nat.zero_le _, hk1, hk2, hE⟩ (Ent.tab [(0, 0, 0)] [] rfl (by (try simp only [evWB, Nat.reduceBEq, Nat.reduceAdd, Nat.reduceSub, Nat.reduceLeDiff, Nat.reduceLT, implies_true, za]) <;> exact fin2) (by (try simp only [evWB, Nat.reduceBEq, Nat.reduceAdd, Nat.reduceSub, Nat.reduceLeDiff, Nat.reduceLT, implies_true, za]) <;> exact fin2)) ?_
  rintro ⟨j, n3⟩ ⟨hj, hj1, hj2, hgo3⟩ wf3
  simp only at hj hj1 hj2 hgo3
  unfold zdK
  by_cases hjl : j < e.length
  case neg =>
    rw [List.drop_of_length_le (by omega), zaK] at hgo3
    subst hgo3
    (repeat first | simp (disch := try exact dis1) only [evD, Nat.reduceBEq, Nat.reduceAdd, Nat.reduceLeDiff, fldP, dF, hg] | with_reducible intro _ | ((with_reducible apply And.intro); omega))
    unfold zdE
    (repeat first | simp (disch := try exact dis1) only [evD, Nat.reduceBEq, Nat.reduceAdd, Nat.reduceLeDiff] | with_reducible intro _ | ((with_reducible apply And.intro); omega))
    exact ⟨(k + 1, n3), ⟨by simp only; omega, hj1, hj2, hgo2⟩, by simp only; omega, (Ent.tab [] [] rfl (by (try simp only [evWB, Nat.reduceBEq, Nat.reduceAdd, Nat.reduceSub, Nat.reduceLeDiff, Nat.reduceLT, implies_true, za]) <;> exact fin2) (by (try simp only [evWB, Nat.reduceBEq, Nat.reduceAdd, Nat.reduceSub, Nat.reduceLeDiff, Nat.reduceLT, implies_true, za]) <;> exact fin2))⟩
  rw [ziF hjl hj1] at hgo3
  have hr := zet e[j] 8 n3 (by omega)
  (repeat first | simp (disch := try exact dis1) only [evD, Nat.reduceBEq, Nat.reduceAdd, Nat.reduceLeDiff, fldP, dT, dF, zA hjl, zbU, zbc, za] | with_reducible intro _ | ((with_reducible apply And.intro); omega))
  refine zn (zw (zlP (zbB e[j]) e[j] 8 n3 (Nat.le_refl _) (by omega) (by omega) (by omega) (by omega)) (flX rfl)) ?_
  by_cases hx : zeD e[j] 8 n3 < 0
  · rw [zhb hx] at hgo3
    have := hMR (hEM (by omega))
    rw [fin this]
    (repeat first | simp (disch := try exact dis1) only [evD, Nat.reduceBEq, Nat.reduceAdd, Nat.reduceLeDiff, dT, zai] | with_reducible intro _ | ((with_reducible apply And.intro); omega))
    exact ⟨_, .bool _ _, rfl⟩
  · (repeat first | simp (disch := try exact dis1) only [evD, Nat.reduceBEq, Nat.reduceAdd, Nat.reduceLeDiff, dF] | with_reducible intro _ | ((with_reducible apply And.intro); omega))
    exact ⟨(j + 1, zeD e[j] 8 n3), ⟨by simp only; omega, by simp only; omega, by simp only; omega, hgo3⟩, by simp only; omega, (Ent.tab [(0, 0, 0)] [] rfl (by (try simp only [evWB, Nat.reduceBEq, Nat.reduceAdd, Nat.reduceSub, Nat.reduceLeDiff, Nat.reduceLT, implies_true, za]) <;> exact fin2) (by (try simp only [evWB, Nat.reduceBEq, Nat.reduceAdd, Nat.reduceSub, Nat.reduceLeDiff, Nat.reduceLT, implies_true, za]) <;> exact fin2))⟩
theorem znA (g : G) (exit : List Int) : zE Try.prog zg2 [.agg g.cells, za exit] (· = .bool (zmA g exit)) := by
  refine fn_x zmh rfl ?_
  unfold ziM zmA
  have hB := hBig
  have hsg := ziq g
  generalize zmK g = sg at hsg
  obtain ⟨ad, bl⟩ := g
  simp only [G.cells] at hsg ⊢
  by_cases h12 : 12 < bl.length
  · rw [decide_eq_false (by omega), Bool.false_and]
    (repeat first | simp (disch := try exact dis1) only [evD, Nat.reduceBEq, Nat.reduceAdd, Nat.reduceLeDiff, fldP, dT, za, zcv] | with_reducible intro _ | ((with_reducible apply And.intro); omega))
    exact ⟨_, .bool _ _, rfl⟩
  rw [decide_eq_true (by omega), Bool.true_and]
  by_cases h20 : 20 < exit.length
  · rw [decide_eq_false (by omega), Bool.false_and]
    (repeat first | simp (disch := try exact dis1) only [evD, Nat.reduceBEq, Nat.reduceAdd, Nat.reduceLeDiff, fldP, dT, dF, za, zcv] | with_reducible intro _ | ((with_reducible apply And.intro); omega))
    exact ⟨_, .bool _ _, rfl⟩
  rw [decide_eq_true (by omega), Bool.true_and]
  (repeat first | simp (disch := try exact dis1) only [evD, Nat.reduceBEq, Nat.reduceAdd, Nat.reduceLeDiff, fldP, dT, dF, za, zkI, tab, List.getD_cons_zero, List.getD_cons_succ] | with_reducible intro _ | ((with_reducible apply And.intro); omega))
  refine zn (zw hsg rfl) ?_
  cases sg with
  | false =>
    rw [Bool.false_and]
    (repeat first | simp (disch := try exact dis1) only [evD, Nat.reduceBEq, Nat.reduceAdd, Nat.reduceLeDiff, zcv] | with_reducible intro _ | ((with_reducible apply And.intro); omega))
    exact ⟨_, .bool _ _, rfl⟩
  | true =>
  rw [Bool.true_and]
  generalize hR : (bl.all fun b => decide (b.stmts.length ≤ 12)) = R
  (repeat first | simp (disch := try exact dis1) only [evD, Nat.reduceBEq, Nat.reduceAdd, Nat.reduceLeDiff, fldP] | with_reducible intro _ | ((with_reducible apply And.intro); omega))
  refine zo (fun i : Nat => ([(2, encP 2 [.int .u32 ad, encL 2 Bl.cells bl]), (5, .int .i64 i)], [])) 0 (fun i => i ≤ bl.length ∧ ((bl.drop i).all fun b => decide (b.stmts.length ≤ 12)) = R) (fun i => bl.length - i) 0 ⟨Nat.zero_le _, hR⟩ (Ent.keep rfl fin5) ?_
  rintro i ⟨hi, hgo⟩ wf
  unfold zge
  by_cases hil : i < bl.length
  · have hg : (bl.map Bl.cells).getD i [] = [.int .u32 bl[i].addr, encL 8 St.cells bl[i].stmts] := zA hil
    rw [List.drop_eq_getElem_cons hil, List.all_cons] at hgo
    by_cases h : 12 < bl[i].stmts.length
    · rw [decide_eq_false (by omega), Bool.false_and] at hgo
      rw [← hgo]
      (repeat first | simp (disch := try exact dis1) only [evD, Nat.reduceBEq, Nat.reduceAdd, Nat.reduceLeDiff, fldP, dT, hg, zcv] | with_reducible intro _ | ((with_reducible apply And.intro); omega))
      exact ⟨_, .bool _ _, rfl⟩
    · rw [decide_eq_true (by omega), Bool.true_and] at hgo
      (repeat first | simp (disch := try exact dis1) only [evD, Nat.reduceBEq, Nat.reduceAdd, Nat.reduceLeDiff, fldP, dT, dF, hg] | with_reducible intro _ | ((with_reducible apply And.intro); omega))
      exact ⟨i + 1, ⟨by omega, hgo⟩, by omega, Ent.keep rfl fin5⟩
  · rw [List.drop_of_length_le (by omega)] at hgo
    rw [← hgo]
    (repeat first | simp (disch := try exact dis1) only [evD, Nat.reduceBEq, Nat.reduceAdd, Nat.reduceLeDiff, fldP, dF] | with_reducible intro _ | ((with_reducible apply And.intro); omega))
    unfold zgq
    (repeat first | simp (disch := try exact dis1) only [evD, Nat.reduceBEq, Nat.reduceAdd, Nat.reduceLeDiff, zcv] | with_reducible intro _ | ((with_reducible apply And.intro); omega))
    exact ⟨_, .bool _ _, rfl⟩
mutual
theorem zt0 : ∀ (e : Ex) (m n : Int), 0 ≤ zeD e m n → (zbB e : Int) + zeD e m n ≤ n
  | .mk _ _ _ _ l, m, n, h => by
    rw [zeD] at h ⊢
    split
    · rename_i hc
      rw [if_pos hc] at h
      omega
    · rename_i hc
      rw [if_neg hc] at h
      have := zih l (m - 1) (n - 1) (by omega) h
      rw [zbB]
      omega
theorem zih : ∀ (l : List Ex) (m n : Int), 0 ≤ n → 0 ≤ zaK l m n → (zr l : Int) + zaK l m n ≤ n
  | [], m, n, _, h => by rw [zaK] at h ⊢; rw [zr]; omega
  | e :: l, m, n, hn, h => by
    rw [zaK, if_neg (by omega)] at h ⊢
    by_cases h0 : zeD e m n < 0
    · rw [zhb h0] at h
      omega
    · have h1 := zt0 e m n (by omega)
      have h2 := zih l m _ (by omega) h
      rw [zr]
      omega
end
theorem zkA : ∀ {l : List St} {n : Int}, 0 ≤ n → 0 ≤ zep l n → (zaH 0 l : Int) + zep l n ≤ n ∧ ∀ s ∈ l, s.e.length ≤ 4 ∧ s.cases.length ≤ 100
  | [], n, hn, h => by
    rw [zep] at h ⊢
    exact ⟨by show ((0 : Nat) : Int) + n ≤ n; omega, fun s hs => by cases hs⟩
  | s :: l, n, hn, h => by
    rw [zep, if_neg (by omega)] at h ⊢
    by_cases h0 : znO s n < 0
    · rw [zgy h0] at h
      omega
    · obtain ⟨h2, h3⟩ := zkA (l := l) (n := znO s n) (by omega) h
      have e : (zaH 0 (s :: l) : Int) = zr s.e + zaH 0 l := by
        show ((zr s.e + 0 + zaH 0 l : Nat) : Int) = _
        omega
      unfold znO at h0 h2
      split at h0
      · omega
      · rename_i hc
        rw [if_neg hc] at h2
        have h4 := zih s.e 8 n hn (by omega)
        refine ⟨?_, fun t ht => ?_⟩
        · rw [e]
          unfold znO
          rw [if_neg hc]
          omega
        · rcases List.mem_cons.1 ht with rfl | ht
          · omega
          · exact h3 t ht
def zhT (bl : List Bl) : Nat := (bl.map fun b => zaH 0 b.stmts).sum
theorem zka : ∀ {l : List Bl} {n : Int}, 0 ≤ n → 0 ≤ zek l n → (zhT l : Int) + zek l n ≤ n ∧ ∀ b ∈ l, ∀ s ∈ b.stmts, s.e.length ≤ 4 ∧ s.cases.length ≤ 100
  | [], n, hn, h => by
    rw [zek] at h ⊢
    exact ⟨by show ((0 : Nat) : Int) + n ≤ n; omega, fun s hs => by cases hs⟩
  | b :: l, n, hn, h => by
    rw [zek, if_neg (by omega)] at h ⊢
    by_cases h0 : zod b n < 0
    · rw [zib h0] at h
      omega
    · obtain ⟨h2, h3⟩ := zka (l := l) (n := zod b n) (by omega) h
      have e : (zhT (b :: l) : Int) = zaH 0 b.stmts + zhT l := by
        unfold zhT
        rw [List.map_cons, List.sum_cons]
        omega
      unfold zod at h0 h2
      split at h0
      · omega
      · rename_i hc
        rw [if_neg hc] at h2
        obtain ⟨h4, h5⟩ := zkA (l := b.stmts) hn (by omega)
        refine ⟨?_, fun t ht => ?_⟩
        · rw [e]
          unfold zod
          rw [if_neg hc]
          omega
        · rcases List.mem_cons.1 ht with rfl | ht
          · exact h5
          · exact h3 t ht
theorem zj3 : ∀ {bl : List Bl} {b : Bl}, b ∈ bl → zaH 0 b.stmts ≤ zhT bl
  | [], b, h => by cases h
  | x :: l, b, h => by
    have e : zhT (x :: l) = zaH 0 x.stmts + zhT l := by unfold zhT; rw [List.map_cons, List.sum_cons]
    rcases List.mem_cons.1 h with rfl | h
    · omega
    · have := zj3 h; omega
theorem zrP {k : Nat} : ∀ {l : List St}, zaH k l = zaH 0 l + k * l.length
  | [] => by simp [zaH]
  | s :: l => by
    have e1 : zaH k (s :: l) = zr s.e + k + zaH k l := rfl
    have e2 : zaH 0 (s :: l) = zr s.e + 0 + zaH 0 l := rfl
    rw [e1, e2, zrP (l := l), List.length_cons, Nat.mul_succ]
    omega
theorem znD : ∀ {l : List St} {s : St}, s ∈ l → zr s.e ≤ zaH 0 l
  | [], s, h => by cases h
  | x :: l, s, h => by
    have e : zaH 0 (x :: l) = zr x.e + 0 + zaH 0 l := rfl
    rcases List.mem_cons.1 h with rfl | h
    · omega
    · have := znD h; omega
theorem znl : ∀ {l : List St}, (l.flatMap zdS).length ≤ zaH 0 l
  | [] => by simp [zaH]
  | s :: l => by
    have e : zaH 0 (s :: l) = zr s.e + 0 + zaH 0 l := rfl
    have := znl (l := l)
    have := zj9 s
    rw [List.flatMap_cons, List.length_append]
    omega
theorem zhP {exit : List Int} : ∀ {bl : List Bl}, (univ exit bl).length ≤ exit.length + zhT bl
  | [] => by simp [univ, zhT]
  | b :: l => by
    have h := zhP (exit := exit) (bl := l)
    have e : zhT (b :: l) = zaH 0 b.stmts + zhT l := by unfold zhT; rw [List.map_cons, List.sum_cons]
    have := znl (l := b.stmts)
    unfold univ at h ⊢
    rw [List.length_append] at h ⊢
    rw [List.flatMap_cons, List.length_append]
    omega
theorem znI {m : Nat} : ∀ {l : List Bl}, (∀ b ∈ l, b.stmts.length ≤ m) → zu l ≤ l.length * m
  | [], _ => by simp [zu]
  | b :: l, h => by
    have h1 := znI (l := l) fun c hc => h c (List.mem_cons_of_mem _ hc)
    have h2 := h b (by simp)
    simp only [zu, List.map_cons, List.sum_cons, List.length_cons] at h1 ⊢
    rw [Nat.succ_mul]
    omega
structure SmallP (g : G) : Prop where
  blocks : g.blocks.length ≤ 12
  stmts : ∀ b ∈ g.blocks, b.stmts.length ≤ 12
  parts : ∀ b ∈ g.blocks, ∀ s ∈ b.stmts, s.e.length ≤ 4 ∧ s.cases.length ≤ 100
  size : zhT g.blocks ≤ 20000
theorem zjY {g : G} {exit : List Int} (h : zmA g exit = true) : SmallP g ∧ exit.length ≤ 20 := by
  unfold zmA zmK at h
  simp only [Bool.and_eq_true, decide_eq_true_eq, List.all_eq_true] at h
  obtain ⟨h1, h2, ⟨_, h3⟩, h4⟩ := h
  obtain ⟨h5, h6⟩ := zka (n := 20000) (by omega) h3
  exact ⟨⟨h1, h4, h6, by omega⟩, h2⟩
theorem SmallP.few {g : G} (h : SmallP g) : fewB g := ⟨by have := h.blocks; omega, fun b hb => by have := h.stmts b hb; omega⟩
theorem SmallP.cnt {g : G} (h : SmallP g) : zu g.blocks ≤ 144 := by
  have h1 := znI h.stmts
  have h2 := h.blocks
  have : g.blocks.length * 12 ≤ 12 * 12 := Nat.mul_le_mul_right 12 h2
  omega
theorem SmallP.good {g : G} {exit : List Int} (h : SmallP g) (he : exit.length ≤ 40) : GoodB (univ exit g.blocks) exit g.blocks := by
  have hs := h.size
  have hu := zhP (exit := exit) (bl := g.blocks)
  refine ⟨fun x hx => List.mem_append_left _ hx, fun b hb s hs => zsv hb hs, fun b hb s hm => ?_, fun b hb => ?_, by have := h.cnt; omega, by have := h.blocks; omega⟩
  · have h1 := znD hm
    have h2 := zj3 hb
    have h3 := (h.parts b hb s hm).2
    exact ⟨by omega, by omega⟩
  · have h1 := zrP (k := exit.length) (l := b.stmts)
    have h2 := zj3 hb
    have h3 := h.stmts b hb
    have h4 : exit.length * b.stmts.length ≤ 40 * 12 := Nat.mul_le_mul he h3
    omega
def exV (v : Int) : Ex := .mk 2 0 v 0 []
def exC (n : Int) : Ex := .mk 1 n 0 0 []
def zqz (v : Int) (e : Ex) : St := ⟨1, v, 0, 0, 0, 0, [e], []⟩
def exE1 : G := ⟨0, [⟨0, [zqz 12 (exV 1), zqz 13 (exV 12), zqz 0 (exC 1), ⟨9, 0, 0, 0, 0, 0, [], []⟩]⟩]⟩
def exE1d : G := ⟨0, [⟨0, [zqz 0 (exC 1), ⟨9, 0, 0, 0, 0, 0, [], []⟩]⟩]⟩
def exE2 : G := ⟨0, [⟨0, [zqz 12 (.mk 18 0 0 4 [exV 1]), ⟨10, 0, 0, 0, 0, 0, [], []⟩]⟩]⟩
def exSt : St := zqz 1 (.mk 3 0 0 0 [exV 1, .mk 18 0 0 4 [exV 2]])
theorem zie : SmallP exE1 := (zjY (exit := [0, 7]) (by decide)).1
theorem zla : SmallP exE2 := (zjY (exit := []) (by decide)).1
theorem zr9 : zvu exE1 [0, 7] = .tup [.agg (G.cells exE1d), .int .i64 2, .int .i64 0] := by kernel_rfl
theorem zry : zvu exE2 [] = .tup [.agg (G.cells exE2), .int .i64 0, .int .i64 0] := by kernel_rfl
theorem zsM : AV.tup [zdR (zaB [0, 7] exE1.blocks), zdR (zut [0, 7] exE1.blocks)] = .tup [zdR [[1, 7]], zdR [[]]] := by kernel_rfl
theorem ztQ : za (zdS exSt) = za [1, 2] := by kernel_rfl
def zv1 : List Memo := [⟨zcJ, [.agg exE1.cells, za [0, 7]], .tup [.agg (G.cells exE1d), .int .i64 2, .int .i64 0]⟩, ⟨zbC, [.agg exE1.cells, za [0, 7]], .tup [zdR [[1, 7]], zdR [[]]]⟩,
  ⟨zcF, [.agg exSt.cells], za [1, 2]⟩, ⟨zcJ, [.agg exE2.cells, za []], .tup [.agg (G.cells exE2), .int .i64 0, .int .i64 0]⟩]
theorem ztp : ∀ e ∈ zv1, zE Try.prog e.f e.args (· = e.res) := by
  have h1 := zfM exE1 [0, 7] _ (zie.good (by decide)) zie.few
  have h2 := zdv exE1 [0, 7] _ (zie.good (exit := [0, 7]) (by decide)).univ
  have h3 := zfC exSt (by decide)
  have h4 := zfM exE2 [] _ (zla.good (by decide)) zla.few
  rw [zr9] at h1
  rw [zsM] at h2
  rw [ztQ] at h3
  rw [zry] at h4
  intro e he
  unfold zv1 at he
  simp only [List.mem_cons, List.not_mem_nil, or_false] at he
  rcases he with rfl | rfl | rfl | rfl
  · exact h1
  · exact h2
  · exact h3
  · exact h4
def q25 : FuncId → Nat → List Nat := qTabK [(zby, ([19, 21, 25, 32, 45, 47, 78, 79, 84, 90, 96, 109, 111, 114], [3583], [])),
  (zjB, ([], [67126323], [])),
  (zkB, ([], [33571891], [])),
  (zcO, ([], [1031], [])),
  (zs3, ([7], [27], [])),
  (zsN, ([], [5], [])),
  (zpd, ([], [5], [])),
  (zs0, ([10], [119], [])),
  (zq2, ([7], [27], [])),
  (znS, ([], [33571891], [])),
  (zi5, ([], [17768111], [])),
  (zd1, ([], [5], [])),
  (zdg, ([], [17596514574653], [])),
  (zdm, ([], [10384593871817177683247510831234831], [])),
  (zjN, ([], [5], [])),
  (zcb, ([], [1073746119], [])),
  (zig, ([], [16661], []))]
theorem zg1 : zE Try.prog zby [] (· = .bool true) := zqs (qf := q25) (zjx zpa ztp) 3000 (by kernel_rfl)
def zb0 : ACode := .seq (.seq (.region [ (oN 55 (.mov (.t 12))), (oN 56 (.mov (.t 8))), (oN 57 (.len (.t 56))), (oN 58 (.bin .lss (.t 55) (.t 57)))] [55, 56, 57]) (.cond (.t 58) (.skip) (.exit 0))) (.seq (.block 1 (.seq (.draw ( .step (oN 61 (.mov (.t 10))) ( .step (oN 62 (.mov (.t 12))) ( .step (oN 63 (.idx 1 (.t 61) (.t 62))) ( .step (oN 64 (.load false 1 (.t 63))) ( .step (oN 65 (.mov (.t 8))) ( .step (oN 66 (.mov (.t 12))) ( .step (oN 67 (.idx 1 (.t 65) (.t 66))) ( .step (oN 68 (.load false 1 (.t 67))) ( .step (oN 69 (.callq zft [(.t 64), (.t 68)])) ( .step (oN 70 (.len (.t 69))) ( .step (oN 71 (.mov (.t 10))) ( .step (oN 72 (.mov (.t 12))) ( .step (oN 73 (.idx 1 (.t 71) (.t 72))) ( .step (oN 74 (.load false 1 (.t 73))) ( .step (oN 75 (.len (.t 74))) ( .step (oN 76 (.bin .neq (.t 70) (.t 75))) ( .done))))))))))))))))) [58, 61, 62, 63, 64, 65, 66, 67, 68, 69, 70, 71, 72, 73, 74, 75]) (.cond (.t 76) (.seq (.region [ (oN 6 (.mov (.c (.bool false))))] [8, 10, 12, 76]) (.ret)) (.skip)))) (.region [ (oN 59 (.mov (.t 12))), (oN 60 (.bin .add (.t 59) (.c (.int .i64 1)))), (oN 12 (.mov (.t 60)))] [6, 59, 60, 76]))
def zbZ : ACode := .seq (.region [ (oN 77 (.call zby [])), (oN 6 (.mov (.t 77)))] [8, 10, 12, 77]) (.ret)
def zcK : ACode := .seq (.region [ (oN 3 (.rbox (.t 0))), (oN 6 (.mov (.c (.bool false))))] [0, 6]) (.seq (.seq (.region [ (oN 13 (.load true 2 (.t 3))), (oN 14 (.mov (.t 1))), (oN 15 (.call zg2 [(.t 13), (.t 14)])), (oN 16 (.un .not (.t 15))), (oN 17 (.mov (.t 16))), (oG 18 17 false (.mov (.t 2))), (oG 19 17 false (.len (.t 18))), (oG 20 17 false (.bin .gtr (.t 19) (.c (.int .i64 20)))), (oN 21 (.pick (.t 17) (.c (.bool true)) (.t 20)))] [13, 14, 15, 16, 17, 18, 19, 20]) (.cond (.t 21) (.seq (.region [ (oN 22 (.call zby [])), (oN 6 (.mov (.t 22)))] [1, 2, 3, 21, 22]) (.ret)) (.skip))) (.seq (.region [ (oN 7 (.mknil 1))] [6, 21]) (.seq (.region [ (oN 23 (.mov (.t 7))), (oN 24 (.mov (.t 1))), (oN 25 (.append 1 8 (.t 23) (.t 24))), (oN 7 (.mov (.t 25)))] [23, 24, 25]) (.seq (.region [ (oN 26 (.mov (.t 7))), (oN 27 (.mov (.t 2))), (oN 28 (.append 1 8 (.t 26) (.t 27))), (oN 7 (.mov (.t 28)))] [2, 26, 27, 28]) (.seq (.region [ (oN 30 (.load true 2 (.t 3))), (oN 31 (.mov (.t 1))), (oN 32 (.call zbC [(.t 30), (.t 31)])), (oN 29 (.mov (.t 32))), (oN 33 (.ext 0 (.t 29))), (oN 34 (.ext 1 (.t 29))), (oN 8 (.mov (.t 33))), (oN 9 (.mov (.t 34)))] [1, 9, 29, 30, 31, 32, 33, 34]) (.mark 0 (.seq (.region [ (oN 36 (.load true 2 (.t 3))), (oN 37 (.mov (.t 7))), (oN 38 (.call zbC [(.t 36), (.t 37)])), (oN 35 (.mov (.t 38))), (oN 39 (.ext 0 (.t 35))), (oN 40 (.ext 1 (.t 35))), (oN 10 (.mov (.t 39))), (oN 11 (.mov (.t 40)))] [7, 11, 35, 36, 37, 38, 39, 40]) (.seq (.seq (.region [ (oN 41 (.mov (.t 8))), (oN 42 (.len (.t 41))), (oN 43 (.fldaddr 1 1 (.t 3))), (oN 44 (.load false 1 (.t 43))), (oN 45 (.len (.t 44))), (oN 46 (.bin .neq (.t 42) (.t 45))), (oN 47 (.mov (.t 46))), (oG 48 47 false (.mov (.t 10))), (oG 49 47 false (.len (.t 48))), (oG 50 47 false (.fldaddr 1 1 (.t 3))), (oG 51 47 false (.load false 1 (.t 50))), (oG 52 47 false (.len (.t 51))), (oG 53 47 false (.bin .neq (.t 49) (.t 52))), (oN 54 (.pick (.t 47) (.c (.bool true)) (.t 53)))] [3, 41, 42, 43, 44, 45, 46, 47, 48, 49, 50, 51, 52, 53]) (.cond (.t 54) (.seq (.region [ (oN 6 (.mov (.c (.bool false))))] [8, 10, 54]) (.ret)) (.skip))) (.seq (.seq (.region [ (oN 12 (.mov (.c (.int .i64 0))))] [6, 54]) (.block 0 (.loop zb0))) (zbZ))))))))))
def zaE : List ARet := [.tmp 6]
theorem zfw : zaF Try.prog zcT (qRo [3]) = some (zcK.strip, zaE, 78) := by kernel_rfl
theorem L25_LivenessMonotone_ok (g : G) (exit more : List Int) : zE Try.prog zcT [.agg g.cells, za exit, za more] (· = .bool true) := by
  refine fn_x zfw rfl ?_
  unfold zcK
  have hB := hBig
  have hsm := znA g exit
  have hex := zg1
  cases hs : zmA g exit with
  | false =>
    rw [hs] at hsm
    obtain ⟨ad, bl⟩ := g
    simp only [G.cells] at hsm ⊢
    (repeat first | simp (disch := try exact dis1) only [evD, Nat.reduceBEq, Nat.reduceAdd, Nat.reduceLeDiff, fldP, zkI, tab, List.getD_cons_zero, List.getD_cons_succ] | with_reducible intro _ | ((with_reducible apply And.intro); omega))
    refine zn (zw hsm rfl) ?_
    (repeat first | simp (disch := try exact dis1) only [evD, Nat.reduceBEq, Nat.reduceAdd, Nat.reduceLeDiff] | with_reducible intro _ | ((with_reducible apply And.intro); omega))
    refine zn (zw hex rfl) ?_
    (repeat first | simp (disch := try exact dis1) only [evD, Nat.reduceBEq, Nat.reduceAdd, Nat.reduceLeDiff, zaE] | with_reducible intro _ | ((with_reducible apply And.intro); omega))
    exact ⟨_, .bool _ _, rfl⟩
  | true =>
    rw [hs] at hsm
    obtain ⟨hp, hel⟩ := zjY hs
    by_cases hml : 20 < more.length
    · obtain ⟨ad, bl⟩ := g
      simp only [G.cells] at hsm ⊢
      (repeat first | simp (disch := try exact dis1) only [evD, Nat.reduceBEq, Nat.reduceAdd, Nat.reduceLeDiff, fldP, zkI, tab, List.getD_cons_zero, List.getD_cons_succ] | with_reducible intro _ | ((with_reducible apply And.intro); omega))
      refine zn (zw hsm rfl) ?_
      (repeat first | simp (disch := try exact dis1) only [evD, Nat.reduceBEq, Nat.reduceAdd, Nat.reduceLeDiff, dT, za] | with_reducible intro _ | ((with_reducible apply And.intro); omega))
      refine zn (zw hex rfl) ?_
      (repeat first | simp (disch := try exact dis1) only [evD, Nat.reduceBEq, Nat.reduceAdd, Nat.reduceLeDiff, zaE] | with_reducible intro _ | ((with_reducible apply And.intro); omega))
      exact ⟨_, .bool _ _, rfl⟩
    have hl1 := zdv g exit _ (hp.good (exit := exit) (by omega)).univ
    have hl2 := zdv g (exit ++ more) _ (hp.good (exit := exit ++ more) (by rw [List.length_append]; omega)).univ
    have hlen1 := zis (exit := exit) (g := g.blocks)
    have hlen2 := zis (exit := exit ++ more) (g := g.blocks)
    have hun : ∀ i (h1 : i < (zaB exit g.blocks).length) (h2 : i < (zaB (exit ++ more) g.blocks).length), zE Try.prog zft [za (zaB (exit ++ more) g.blocks)[i], za (zaB exit g.blocks)[i]] (· = za (zaB (exit ++ more) g.blocks)[i]) := fun i h1 h2 => by
      have e1 : (zaB exit g.blocks).getD i [] = (zaB exit g.blocks)[i] := by rw [List.getD_eq_getElem?_getD, List.getElem?_eq_getElem h1]; rfl
      have e2 : (zaB (exit ++ more) g.blocks).getD i [] = (zaB (exit ++ more) g.blocks)[i] := by rw [List.getD_eq_getElem?_getD, List.getElem?_eq_getElem h2]; rfl
      have a1 := (zcz exit g.blocks).1.asc i
      have u1 := ztz (U := univ exit g.blocks) a1 ((zcz exit g.blocks).1.uni i)
      have a2 := (zcz (exit ++ more) g.blocks).1.asc i
      have u2 := ztz (U := univ (exit ++ more) g.blocks) a2 ((zcz (exit ++ more) g.blocks).1.uni i)
      have s1 := zhP (exit := exit) (bl := g.blocks)
      have s2 := zhP (exit := exit ++ more) (bl := g.blocks)
      have s3 := hp.size
      have hle := zo4 (exit := exit) (more := exit ++ more) (g := g.blocks) (fun x hx => List.mem_append_left _ hx) i
      rw [List.length_append] at s2
      rw [e1] at u1 hle
      rw [e2] at a2 u2 hle
      have h := znx (zaB (exit ++ more) g.blocks)[i] (zaB exit g.blocks)[i] (by omega)
      rw [zrp a2 hle] at h
      exact h
    have hbl := hp.blocks
    obtain ⟨ad, bl⟩ := g
    simp only [G.cells] at hsm hl1 hl2 hlen1 hlen2 hun hbl ⊢
    generalize zaB exit bl = l1 at hl1 hlen1 hun
    generalize zaB (exit ++ more) bl = l2 at hl2 hlen2 hun
    generalize zut exit bl = o1 at hl1
    generalize zut (exit ++ more) bl = o2 at hl2
    (repeat first | simp (disch := try exact dis1) only [evD, Nat.reduceBEq, Nat.reduceAdd, Nat.reduceLeDiff, fldP, zkI, tab, List.getD_cons_zero, List.getD_cons_succ] | with_reducible intro _ | ((with_reducible apply And.intro); omega))
    refine zn (zw hsm rfl) ?_
    have he1 : ∀ H, zcB 1 (encL 1 (fun n => [.int .i64 n]) exit) H = some (exit.map cI) := fun H => zio
    have he2 : ∀ H, zcB 1 (encL 1 (fun n => [.int .i64 n]) more) H = some (more.map cI) := fun H => zio
    have ht1 : (exit.map cI).take exit.length = exit.map cI := List.take_of_length_le (by rw [List.length_map]; omega)
    have ht2 : (exit.map cI).length = exit.length := List.length_map _
    (repeat first | simp (disch := try exact dis1) only [evD, Nat.reduceBEq, Nat.reduceAdd, Nat.reduceLeDiff, dF, fldP, zkI, tab, List.getD_cons_zero, List.getD_cons_succ, za, he1, he2, ht1, ht2, List.take_zero, List.nil_append] | with_reducible intro _ | ((with_reducible apply And.intro); omega))
    refine zn (zw hl1 rfl) ?_
    (repeat first | simp (disch := try exact dis1) only [evD, Nat.reduceBEq, Nat.reduceAdd, Nat.reduceLeDiff, fldP] | with_reducible intro _ | ((with_reducible apply And.intro); omega))
    have hal : (exit ++ more).length = exit.length + more.length := List.length_append
    rw [← List.map_append, ← hal]
    refine zou [(3, encP 2 [.int .u32 ad, encL 2 Bl.cells bl]), (7, za (exit ++ more)), (8, zdR l1)] [] 0 fun _ => ⟨Ent.tab [] [0] rfl trivial ⟨zaa rfl, za7 rfl rfl (by omega), zaa rfl, trivial⟩, ?_⟩
    (repeat first | simp (disch := try exact dis1) only [evD, Nat.reduceBEq, Nat.reduceAdd, Nat.reduceLeDiff, fldP, zkI, tab, List.getD_cons_zero, List.getD_cons_succ] | with_reducible intro _ | ((with_reducible apply And.intro); omega))
    refine zn (zw hl2 rfl) ?_
    (repeat first | simp (disch := try exact dis1) only [evD, Nat.reduceBEq, Nat.reduceAdd, Nat.reduceLeDiff, dF, fldP, zdR, hlen1, hlen2] | with_reducible intro _ | ((with_reducible apply And.intro); omega))
    refine zo (fun i : Nat => ([(8, zdR l1), (10, zdR l2), (12, .int .i64 i)], [])) 0 (fun i => i ≤ bl.length) (fun i => bl.length - i) 0 (Nat.zero_le _) (Ent.tab [] [] rfl (by (try simp only [evWB, Nat.reduceBEq, Nat.reduceAdd, Nat.reduceSub, Nat.reduceLeDiff, Nat.reduceLT, implies_true, zdR]) <;> exact fin2) (by (try simp only [evWB, Nat.reduceBEq, Nat.reduceAdd, Nat.reduceSub, Nat.reduceLeDiff, Nat.reduceLT, implies_true, zdR]) <;> exact fin2)) ?_
    rintro i hi wf
    unfold zb0
    by_cases hil : i < bl.length
    case neg =>
      (repeat first | simp (disch := try exact dis1) only [evD, Nat.reduceBEq, Nat.reduceAdd, Nat.reduceLeDiff, dF, zdR, hlen1] | with_reducible intro _ | ((with_reducible apply And.intro); omega))
      unfold zbZ
      (repeat first | simp (disch := try exact dis1) only [evD, Nat.reduceBEq, Nat.reduceAdd, Nat.reduceLeDiff] | with_reducible intro _ | ((with_reducible apply And.intro); omega))
      refine zn (zw hex rfl) ?_
      (repeat first | simp (disch := try exact dis1) only [evD, Nat.reduceBEq, Nat.reduceAdd, Nat.reduceLeDiff, zaE] | with_reducible intro _ | ((with_reducible apply And.intro); omega))
      exact ⟨_, .bool _ _, rfl⟩
    have h1 : i < l1.length := by omega
    have h2 : i < l2.length := by omega
    have g1 : (l1.map cLL).getD i [] = [za l1[i]] := zA (f := cLL) (d := []) h1
    have g2 : (l2.map cLL).getD i [] = [za l2[i]] := zA (f := cLL) (d := []) h2
    (repeat first | simp (disch := try exact dis1) only [evD, Nat.reduceBEq, Nat.reduceAdd, Nat.reduceLeDiff, dT, dF, zdR, za, g1, g2] | with_reducible intro _ | ((with_reducible apply And.intro); omega))
    refine zq8 (zw (hun i h1 h2) rfl) ?_
    (repeat first | simp (disch := try exact dis1) only [evD, Nat.reduceBEq, Nat.reduceAdd, Nat.reduceLeDiff, dF, zdR, za, g1, g2] | with_reducible intro _ | ((with_reducible apply And.intro); omega))
    exact ⟨i + 1, by omega, by omega, (Ent.tab [] [] rfl (by (try simp only [evWB, Nat.reduceBEq, Nat.reduceAdd, Nat.reduceSub, Nat.reduceLeDiff, Nat.reduceLT, implies_true, zdR]) <;> exact fin2) (by (try simp only [evWB, Nat.reduceBEq, Nat.reduceAdd, Nat.reduceSub, Nat.reduceLeDiff, Nat.reduceLT, implies_true, zdR]) <;> exact fin2))⟩
end Go.Ab
