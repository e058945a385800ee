/-
  Part 10 of the proof: how the calls of this program run, over values instead of memory, and what each function computes.
-/
import Derived.KernelRfl
import Derived.Test.YtdhlfajcofgpkaaGreatKi
set_option maxRecDepth 100000
set_option linter.unusedVariables false
set_option linter.unusedSimpArgs false
set_option linter.unnecessarySimpa false
set_option linter.unusedSectionVars false

namespace Go.Ab
open Go.RowKit Go.Proofs
def mpsI (F n i : Nat) : List (List AV) := (List.range n).map fun j => if j < i then [.mp F (j + 1)] else [.nilmp]
def zi5 (i : Nat) : Nat → List MC := fun j => if j < i then setM 0 [] else []
def famI (n i : Nat) : AObj := .fam 3 (fi cm n (zi5 i) (fun _ => 0))
def bdI (n i : Nat) : AH := [(0, .row 1 (mpsI 2 n i) 0), (1, .row 1 (mpsI 3 n i) 0), (2, famI n i), (3, famI n i)]
theorem zwV {F n i : Nat} : (mpsI F n i).length = n := by simp [mpsI]
theorem znC {F n : Nat} : mpsI F n n = mps F n := by
  unfold mpsI mps
  refine List.map_congr_left fun j hj => ?_
  rw [if_pos (List.mem_range.1 hj)]
theorem zug {F n : Nat} : List.replicate n [AV.nilmp] = mpsI F n 0 := by
  apply List.ext_getElem
  · simp [mpsI]
  · intro k h1 h2; simp [mpsI]
theorem zu4 {n : Nat} : famI n n = famS n (fun _ => (0, [])) := by
  unfold famI famS fi
  congr 1
  refine List.map_congr_left fun j hj => ?_
  unfold zi5
  rw [if_pos (List.mem_range.1 hj)]
theorem zwr {n : Nat} : bdI n n = bdH n (fun _ => (0, [])) (fun _ => (0, [])) := by
  unfold bdI bdH
  rw [znC, znC, zu4]
abbrev T4 : Tab := [(0, 0, 0), (1, 1, 0), (2, 2, 0), (3, 3, 0)]
abbrev F4 (i a b : Nat) : Fds := [(2, i + 1, a), (3, i + 1, b)]
theorem beqN {a b : Nat} (h : a ≠ b) : Nat.beq a b = false := by
  cases hx : Nat.beq a b with
  | false => rfl
  | true => exact absurd (Nat.eq_of_beq_eq_true hx) h
theorem f4_2 {i k a b : Nat} : fsig T4 (F4 i a b) 2 (k + 1) = if k = i then some (a, 0, 0) else some (2, k + 1, 0) := by
  unfold fsig F4
  simp only [fat]
  by_cases h : k = i
  · subst h
    rw [if_pos rfl, show Nat.beq 2 2 = true from rfl, Nat.beq_refl]
    rfl
  · rw [if_neg h, beqN (show i + 1 ≠ k + 1 by omega), Bool.and_false, Bool.and_false]
    rfl
theorem f4_3 {i k a b : Nat} : fsig T4 (F4 i a b) 3 (k + 1) = if k = i then some (b, 0, 0) else some (3, k + 1, 0) := by
  unfold fsig F4
  simp only [fat]
  by_cases h : k = i
  · subst h
    rw [if_pos rfl, show Nat.beq 3 3 = true from rfl, show Nat.beq 2 3 = false from rfl, Nat.beq_refl]
    rfl
  · rw [if_neg h, beqN (show i + 1 ≠ k + 1 by omega), Bool.and_false, Bool.and_false]
    rfl
theorem zok {H HH : AH} {σ : Nat → Nat → Option (Nat × Nat × Nat)} {D : Nat → Nat → Prop} {F n i a : Nat} (h1 : ∀ k, σ F (k + 1) = if k = i then some (a, 0, 0) else some (F, k + 1, 0)) :
    RowV H HH σ D ((mpsI F n i).set i [.mp a 0]) (mpsI F n (i + 1)) := by
  refine ⟨by simp [mpsI], fun j c2 hj => ?_⟩
  unfold mpsI at hj ⊢
  simp only [List.getElem?_map, Option.map_eq_some_iff] at hj
  obtain ⟨k, hk, rfl⟩ := hj
  obtain ⟨hkl, hkk⟩ := List.getElem?_eq_some_iff.1 hk
  simp only [List.length_range] at hkl
  rw [List.getElem_range] at hkk
  subst hkk
  by_cases hji : j = i
  · subst hji
    rw [if_pos (Nat.lt_succ_self j)]
    refine ⟨[.mp a 0], by simp [hkl], rfl, fun z x y h3 h4 => ?_⟩
    cases z with
    | succ z => cases h3
    | zero =>
      cases h3
      cases h4
      exact .mp _ _ _ _ (by rw [h1, if_pos rfl])
  · by_cases hlt : j < i
    · rw [if_pos (by omega)]
      refine ⟨[.mp F (j + 1)], ?_, rfl, fun z x y h3 h4 => ?_⟩
      · rw [List.getElem?_set_ne (fun e => hji e.symm)]
        simp [hkl, hlt]
      · cases z with
        | succ z => cases h3
        | zero =>
          cases h3
          cases h4
          exact .mp _ _ _ _ (by rw [h1, if_neg hji])
    · rw [if_neg (by omega)]
      refine ⟨[.nilmp], ?_, rfl, fun z x y h3 h4 => ?_⟩
      · rw [List.getElem?_set_ne (fun e => hji e.symm)]
        simp [hkl, hlt]
      · cases z with
        | succ z => cases h3
        | zero =>
          cases h3
          cases h4
          exact .nilmp _
theorem zsQ {H : AH} {F n i k : Nat} (h : H.look F = some (famI n i)) (hk : k < n) : H.get F (k + 1) = some (.row 3 ((zi5 i k).map cm) 0) := by
  unfold AH.get
  rw [h]
  simp only [Option.bind_some, famI, AObj.part, zkP hk, Option.map_some]
theorem zqJ {H HH : AH} {σ : Nat → Nat → Option (Nat × Nat × Nat)} {F n i a : Nat} (h1 : ∀ k, σ F (k + 1) = if k = i then some (a, 0, 0) else some (F, k + 1, 0))
    (hF : H.look F = some (famI n i)) (ha : H.get a 0 = some (.row 3 [[.int .i64 0, .undef, .undef]] 0)) (k : Nat) (p : List (List AV) × Nat) (hp : (fi cm n (zi5 (i + 1)) (fun _ => 0))[k]? = some p) :
    match σ F (k + 1) with
      | some (r, q, d) => ∃ els, H.get r q = some (.row 3 els (p.2 + d)) ∧ RowV H HH σ noQ els p.1
      | none => p = ([], 0) := by
  rw [zmU] at hp
  split at hp
  case isFalse => cases hp
  rename_i hk
  cases hp
  rw [h1]
  by_cases hki : k = i
  · subst hki
    rw [if_pos rfl]
    refine ⟨_, ha, ?_⟩
    have : zi5 (k + 1) k = setM 0 [] := if_pos (Nat.lt_succ_self k)
    rw [this]
    exact RowV.of_flat (by simp only [zec, ze1, and_true]; rfl)
  · rw [if_neg hki]
    refine ⟨_, zsQ hF hk, ?_⟩
    have : zi5 (i + 1) k = zi5 i k := by
      unfold zi5
      by_cases hlt : k < i
      · rw [if_pos hlt, if_pos (by omega)]
      · rw [if_neg hlt, if_neg (by omega)]
    rw [this]
    exact RowV.of_flat (zg zc)
theorem zs9 {K K2 : Kn} {H : AH} {nx n i : Nat} (h0 : H.get 0 0 = some (.row 1 ((mpsI 2 n i).set i [.mp 4 0]) 0)) (h1 : H.get 1 0 = some (.row 1 ((mpsI 3 n i).set i [.mp 5 0]) 0))
    (h2 : H.look 2 = some (famI n i)) (h3 : H.look 3 = some (famI n i)) (h4 : H.get 4 0 = some (.row 3 [[.int .i64 0, .undef, .undef]] 0)) (h5 : H.get 5 0 = some (.row 3 [[.int .i64 0, .undef, .undef]] 0))
    (hK : zqL H (bdI n (i + 1)) (fsig T4 (F4 i 4 5)) K2 K) : Ent 0 K H nx K2 (bdI n (i + 1)) 4 :=
  Ent.fold T4 (F4 i 4 5) rfl rfl ⟨rfl, ⟨_, h0, zok fun _ => f4_2⟩, rfl, ⟨_, h1, zok fun _ => f4_3⟩, rfl, fun k p hp => zqJ (fun _ => f4_2) h2 h4 k p hp, rfl, fun k p hp => zqJ (fun _ => f4_3) h3 h5 k p hp, trivial⟩ hK
theorem znK {H HH : AH} {σ : Nat → Nat → Option (Nat × Nat × Nat)} {D : Nat → Nat → Prop} {F n : Nat} : RowV H HH σ D (List.replicate n [.nilmp]) (mpsI F n 0) := by
  rw [← zug]
  refine ⟨rfl, fun i c2 hi => ⟨c2, hi, rfl, fun j x y h1 h2 => ?_⟩⟩
  obtain ⟨_, rfl⟩ := List.getElem?_eq_some_iff.1 hi
  rw [List.getElem_replicate] at h1 h2
  rw [h1] at h2
  cases h2
  cases j with
  | succ j => cases h1
  | zero => cases h1; exact .nilmp _
theorem zoJ {n : Nat} (i : Nat) (p : List (List AV) × Nat) (hp : (fi cm n (zi5 0) (fun _ => 0))[i]? = some p) : p = ([], 0) := by
  rw [zmU] at hp
  split at hp
  · cases hp; rfl
  · cases hp
theorem zl9 {K K2 : Kn} {H : AH} {nx n a b : Nat} (h0 : H.get a 0 = some (.row 1 (List.replicate n [.nilmp]) 0)) (h1 : H.get b 0 = some (.row 1 (List.replicate n [.nilmp]) 0))
    (hok : Tab.ok 4 [] [(0, a, 0), (1, b, 0)] = true) (hK : zj4 H (bdI n 0) [(0, a, 0), (1, b, 0)] [] K2 K) : Ent 0 K H nx K2 (bdI n 0) 4 :=
  Ent.tab [(0, a, 0), (1, b, 0)] [] hok ⟨rfl, ⟨_, h0, znK⟩, rfl, ⟨_, h1, znK⟩, rfl, zoJ, rfl, zoJ, trivial⟩ hK
theorem bd_l0 {Q : QT} (exit : List Int) (bl : List Bl) (ad : Int) (U : List Int) (hU : UnivB U exit bl)
    (hfin : ∀ S T, EndB U exit bl S T → wpX Tryz.prog 0 z7 Q [(1, za exit), (2, encP 2 [.int .u32 ad, encL 2 Bl.cells bl]), (6, .own 0 0 0 0 bl.length), (7, .own 1 0 0 0 bl.length), (39, .bool false)] (bdH bl.length S T) 4)
    {K : Kn} {H : AH} {nx : Nat} (hent : Ent 0 K H nx [(1, za exit), (2, encP 2 [.int .u32 ad, encL 2 Bl.cells bl]), (6, .own 0 0 0 0 bl.length), (7, .own 1 0 0 0 bl.length), (26, .int .i64 bl.length), (27, .int .i64 0)] (bdI bl.length 0) 4) :
    zhD Tryz.prog 0 zbb (za3 0 (seqQ Tryz.prog 0 zbd Q)) K H nx := by
  have hB := hBig
  have hlen := hU.len
  refine zm (fun i : Nat => ([(1, za exit), (2, encP 2 [.int .u32 ad, encL 2 Bl.cells bl]), (6, .own 0 0 0 0 bl.length), (7, .own 1 0 0 0 bl.length), (26, .int .i64 bl.length), (27, .int .i64 i)], bdI bl.length i)) 4
    (fun i => i ≤ bl.length) (fun i => bl.length - i) 0 (Nat.zero_le _) hent ?_
  rintro i hi wf
  unfold zbb
  by_cases hil : i < bl.length
  · (repeat first | simp (disch := try exact dis1) only [evD, Nat.reduceBEq, Nat.reduceAdd, Nat.reduceLeDiff, dT, bdI, zwV] | with_reducible intro _ | ((with_reducible apply And.intro); omega))
    exact ⟨i + 1, by omega, by omega, zs9 rfl rfl rfl rfl rfl rfl ⟨zJ rfl, zJ rfl, .own _ _ _ 0 _ _ _ _ _ rfl rfl, .own _ _ _ 0 _ _ _ _ _ rfl rfl, .int _ _ _, .int _ _ _, trivial⟩⟩
  · obtain rfl : i = bl.length := by omega
    rw [zwr]
    (repeat first | simp (disch := try exact dis1) only [evD, Nat.reduceBEq, Nat.reduceAdd, Nat.reduceLeDiff, dF] | with_reducible intro _ | ((with_reducible apply And.intro); omega))
    unfold zbd
    (repeat first | simp (disch := try exact dis1) only [evD, Nat.reduceBEq, Nat.reduceAdd, Nat.reduceLeDiff] | with_reducible intro _ | ((with_reducible apply And.intro); omega))
    refine bd_l7 exit bl ad U hU hfin ?_
    exact (Ent.tab [(0, 0, 0), (1, 1, 0), (2, 2, 0), (3, 3, 0)] [] rfl (by (try simp only [evWB, Nat.reduceBEq, Nat.reduceAdd, Nat.reduceSub, Nat.reduceLeDiff, Nat.reduceLT, implies_true, bdH, za, famS]) <;> (repeat' with_reducible apply And.intro) <;> first | (refine zb zc (by decide) ⟨rfl, rfl⟩ ?_; (try simp only [evWB, Nat.reduceBEq, Nat.reduceAdd, Nat.reduceSub, Nat.reduceLeDiff, Nat.reduceLT, implies_true, bdH, za, famS]) <;> (repeat' with_reducible apply And.intro) <;> first | (refine zb zc (by decide) ⟨rfl, rfl⟩ ?_; (try simp only [evWB, Nat.reduceBEq, Nat.reduceAdd, Nat.reduceSub, Nat.reduceLeDiff, Nat.reduceLT, implies_true, bdH, za, famS]) <;> exact fin6; done) | exact fin6; done) | exact fin6) (by (try simp only [evWB, Nat.reduceBEq, Nat.reduceAdd, Nat.reduceSub, Nat.reduceLeDiff, Nat.reduceLT, implies_true, bdH, za, famS]) <;> (repeat' with_reducible apply And.intro) <;> first | (refine zb zc (by decide) ⟨rfl, rfl⟩ ?_; (try simp only [evWB, Nat.reduceBEq, Nat.reduceAdd, Nat.reduceSub, Nat.reduceLeDiff, Nat.reduceLT, implies_true, bdH, za, famS]) <;> (repeat' with_reducible apply And.intro) <;> first | (refine zb zc (by decide) ⟨rfl, rfl⟩ ?_; (try simp only [evWB, Nat.reduceBEq, Nat.reduceAdd, Nat.reduceSub, Nat.reduceLeDiff, Nat.reduceLT, implies_true, bdH, za, famS]) <;> exact fin6; done) | exact fin6; done) | exact fin6))
theorem ziN (g : G) (exit : List Int) (U : List Int) (hU : UnivB U exit g.blocks) : zS Tryz.prog za2 [.agg g.cells, za exit] [] 0
    (fun v H nx => ∃ S T, v = .tup [.own 0 0 0 0 g.blocks.length, .own 1 0 0 0 g.blocks.length] ∧ H = bdH g.blocks.length S T ∧ nx = 4 ∧ EndB U exit g.blocks S T) := by
  refine zbD (fn_x zgz rfl ?_)
  unfold zc3
  have hB := hBig
  have hlen := hU.len
  obtain ⟨ad, bl⟩ := g
  simp only at hU hlen ⊢
  (repeat first | simp (disch := try exact dis1) only [evD, Nat.reduceBEq, Nat.reduceAdd, Nat.reduceLeDiff, fldP, G.cells, za] | with_reducible intro _ | ((with_reducible apply And.intro); omega))
  (repeat' with_reducible apply And.intro)
  all_goals try omega
  all_goals intro _ _
  all_goals refine bd_l0 exit bl ad U hU ?_ ?_
  all_goals first
    | (rintro S T hend; unfold z7; (repeat first | simp (disch := try exact dis1) only [evD, Nat.reduceBEq, Nat.reduceAdd, Nat.reduceLeDiff, zc6, bdH] | with_reducible intro _ | ((with_reducible apply And.intro); omega)); exact ⟨.tup [.own 0 0 0 0 bl.length, .own 1 0 0 0 bl.length], _, 4, (Ent.tab [(0, 0, 0), (1, 1, 0), (2, 2, 0), (3, 3, 0)] [] rfl (by (try simp only [evWB, Nat.reduceBEq, Nat.reduceAdd, Nat.reduceSub, Nat.reduceLeDiff, Nat.reduceLT, implies_true, bdH, za, famS]) <;> (repeat' with_reducible apply And.intro) <;> first | (refine zb zc (by decide) ⟨rfl, rfl⟩ ?_; (try simp only [evWB, Nat.reduceBEq, Nat.reduceAdd, Nat.reduceSub, Nat.reduceLeDiff, Nat.reduceLT, implies_true, bdH, za, famS]) <;> (repeat' with_reducible apply And.intro) <;> first | (refine zb zc (by decide) ⟨rfl, rfl⟩ ?_; (try simp only [evWB, Nat.reduceBEq, Nat.reduceAdd, Nat.reduceSub, Nat.reduceLeDiff, Nat.reduceLT, implies_true, bdH, za, famS]) <;> exact fin6; done) | exact fin6; done) | exact fin6) (by (try simp only [evWB, Nat.reduceBEq, Nat.reduceAdd, Nat.reduceSub, Nat.reduceLeDiff, Nat.reduceLT, implies_true, bdH, za, famS]) <;> (repeat' with_reducible apply And.intro) <;> first | (refine zb zc (by decide) ⟨rfl, rfl⟩ ?_; (try simp only [evWB, Nat.reduceBEq, Nat.reduceAdd, Nat.reduceSub, Nat.reduceLeDiff, Nat.reduceLT, implies_true, bdH, za, famS]) <;> (repeat' with_reducible apply And.intro) <;> first | (refine zb zc (by decide) ⟨rfl, rfl⟩ ?_; (try simp only [evWB, Nat.reduceBEq, Nat.reduceAdd, Nat.reduceSub, Nat.reduceLeDiff, Nat.reduceLT, implies_true, bdH, za, famS]) <;> exact fin6; done) | exact fin6; done) | exact fin6)), S, T, rfl, rfl, rfl, hend⟩)
    | exact zl9 (a := 2) (b := 3) rfl rfl rfl ⟨zJ rfl, zJ rfl, .own _ _ _ 0 _ _ _ _ _ rfl rfl, .own _ _ _ 0 _ _ _ _ _ rfl rfl, .int _ _ _, .int _ _ _, trivial⟩
    | exact zl9 (a := 3) (b := 2) rfl rfl rfl ⟨zJ rfl, zJ rfl, .own _ _ _ 0 _ _ _ _ _ rfl rfl, .own _ _ _ 0 _ _ _ _ _ rfl rfl, .int _ _ _, .int _ _ _, trivial⟩
def cLL (l : List Int) : List AV := [za l]
def zdk (A : List (List Int)) : AV := encL 1 cLL A
theorem zvP : ∀ l, zE (cLL l) = true := fun _ => rfl
theorem zkm {H H2 : AH} {σ : Nat → Nat → Option (Nat × Nat × Nat)} {D : Nat → Nat → Prop} {t : Bool} {r q g : Nat} {l : List (List Int)} (hD : D r q) (hg : H.get r q = some (.row 1 (l.map cLL) g)) (hb : l.length ≤ big) :
    Vw H H2 σ D t (.own r q g 0 l.length) (zdk l) :=
  zgL hD hg hb fun a _ j hj => by
    obtain rfl : j = 0 := by omega
    exact zJ rfl
def rowI (L : Nat → List Int) (n i : Nat) : List (List AV) := (List.range n).map fun j => if j < i then cLL (L j) else [.nilsl]
theorem zqT {L : Nat → List Int} {n i : Nat} : (rowI L n i).length = n := by simp [rowI]
theorem zw6 {L : Nat → List Int} {n i : Nat} : (rowI L n i).set i [za (L i)] = rowI L n (i + 1) := by
  unfold rowI
  rw [zd8]
  refine List.map_congr_left fun j hj => ?_
  unfold updF
  by_cases h : j = i
  · subst h; rw [if_pos rfl, if_pos (Nat.lt_succ_self j)]; rfl
  · rw [if_neg h]
    simp only
    by_cases h2 : j < i
    · rw [if_pos h2, if_pos (by omega)]
    · rw [if_neg h2, if_neg (by omega)]
theorem zdH {L : Nat → List Int} {n i : Nat} : (rowI L n i).set i [encL 1 (fun n => [.int .i64 n]) (L i)] = rowI L n (i + 1) := zw6
theorem zkM {L : Nat → List Int} {n : Nat} : rowI L n n = ((List.range n).map L).map cLL := by
  unfold rowI
  rw [List.map_map]
  refine List.map_congr_left fun j hj => ?_
  rw [if_pos (List.mem_range.1 hj)]
  rfl
theorem za4 {L : Nat → List Int} {n : Nat} : List.replicate n [AV.nilsl] = rowI L n 0 := by
  apply List.ext_getElem
  · simp [rowI]
  · intro k h1 h2; simp [rowI]
theorem zX {L : Nat → List Int} {n i : Nat} : zu (rowI L n i) := by
  intro c hc
  obtain ⟨j, _, rfl⟩ := List.mem_map.1 hc
  split <;> rfl
theorem renP {ρ : Nat → Nat} {F n g : Nat} : AObj.ren ρ (.row 1 (mps F n) g) = .row 1 (mps (ρ F) n) g := by
  simp only [AObj.ren, mps, List.map_map]
  congr 1
  refine List.map_congr_left fun i _ => ?_
  simp [AV.ren]
def zkc (exit : List Int) (bl : List Bl) : List (List Int) := (List.range bl.length).map (zaS exit bl)
theorem zsj {α : Type} {l : List α} {d : α} : (List.range l.length).map (fun i => l.getD i d) = l := by
  apply List.ext_getElem
  · simp
  · intro k h1 h2; simp [List.getD_eq_getElem?_getD, h2]
def zeR (n : Nat) (S T : Nat → MS) (LS LT : Nat → List Int) (i : Nat) : AH := [(0, .row 1 (mps 2 n) 0), (1, .row 1 (mps 3 n) 0), (2, famS n S), (3, famS n T), (4, .row 1 (rowI LS n i) 0), (5, .row 1 (rowI LT n i) 0)]
theorem lv_l0 (n : Nat) (S T : Nat → MS) (LS LT : Nat → List Int) (A B : List (List Int)) (hn : n ≤ 1000000) (hS : ∀ i, i < n → (S i).ok ∧ zaj (S i) = LS i) (hT : ∀ i, i < n → (T i).ok ∧ zaj (T i) = LT i)
    (hA : (List.range n).map LS = A) (hC : (List.range n).map LT = B)
    {K : Kn} {H : AH} {nx : Nat} (hent : Ent 0 K H nx [(6, .own 0 0 0 0 n), (7, .own 1 0 0 0 n), (8, .own 4 0 0 0 n), (9, .own 5 0 0 0 n), (24, .int .i64 n), (25, .int .i64 0)] (zeR n S T LS LT 0) 6) :
    zhD Tryz.prog 0 zcs (za3 0 (seqQ Tryz.prog 0 zct (retK zdQ fun v H' _ => ∃ a, Frz H' v a ∧ a = .tup [zdk A, zdk B]))) K H nx := by
  have hB := hBig
  refine zm (fun i : Nat => ([(6, .own 0 0 0 0 n), (7, .own 1 0 0 0 n), (8, .own 4 0 0 0 n), (9, .own 5 0 0 0 n), (24, .int .i64 n), (25, .int .i64 i)], zeR n S T LS LT i)) 6
    (fun i => i ≤ n) (fun i => n - i) 0 (Nat.zero_le _) hent ?_
  rintro i hi wf
  unfold zcs
  by_cases hil : i < n
  · obtain ⟨s1, s2⟩ := hS i hil
    obtain ⟨t1, t2⟩ := hT i hil
    have s3 : zbS ((S i).2.map (·.1)) = LS i := s2
    have t3 : zbS ((T i).2.map (·.1)) = LT i := t2
    (repeat first | simp (disch := try exact dis1) only [evD, Nat.reduceBEq, Nat.reduceAdd, Nat.reduceLeDiff, dT, zeR, zfp, zdV hil] | with_reducible intro _ | ((with_reducible apply And.intro); omega))
    (repeat' with_reducible apply And.intro)
    all_goals try omega
    all_goals first
      | (refine zL [(0, 2, 0)] 1 _ (zbN n i hil S s1) rfl rfl (by (try simp only [evWB, Nat.reduceBEq, Nat.reduceAdd, Nat.reduceSub, Nat.reduceLeDiff, Nat.reduceLT, implies_true, famS]) <;> (repeat' with_reducible apply And.intro) <;> first | (refine zb zc (by decide) ⟨rfl, rfl⟩ ?_; (try simp only [evWB, Nat.reduceBEq, Nat.reduceAdd, Nat.reduceSub, Nat.reduceLeDiff, Nat.reduceLT, implies_true, famS]) <;> (repeat' with_reducible apply And.intro) <;> first | (refine zb zc (by decide) ⟨rfl, rfl⟩ ?_; (try simp only [evWB, Nat.reduceBEq, Nat.reduceAdd, Nat.reduceSub, Nat.reduceLeDiff, Nat.reduceLT, implies_true, famS]) <;> exact fin6; done) | exact fin6; done) | exact fin6) (by (try simp only [evWB, Nat.reduceBEq, Nat.reduceAdd, Nat.reduceSub, Nat.reduceLeDiff, Nat.reduceLT, implies_true, famS]) <;> (repeat' with_reducible apply And.intro) <;> first | (refine zb zc (by decide) ⟨rfl, rfl⟩ ?_; (try simp only [evWB, Nat.reduceBEq, Nat.reduceAdd, Nat.reduceSub, Nat.reduceLeDiff, Nat.reduceLT, implies_true, famS]) <;> (repeat' with_reducible apply And.intro) <;> first | (refine zb zc (by decide) ⟨rfl, rfl⟩ ?_; (try simp only [evWB, Nat.reduceBEq, Nat.reduceAdd, Nat.reduceSub, Nat.reduceLeDiff, Nat.reduceLT, implies_true, famS]) <;> exact fin6; done) | exact fin6; done) | exact fin6) ?_)
      | (refine zL [(0, 3, 0)] 1 _ (zbN n i hil T t1) rfl rfl (by (try simp only [evWB, Nat.reduceBEq, Nat.reduceAdd, Nat.reduceSub, Nat.reduceLeDiff, Nat.reduceLT, implies_true, famS]) <;> (repeat' with_reducible apply And.intro) <;> first | (refine zb zc (by decide) ⟨rfl, rfl⟩ ?_; (try simp only [evWB, Nat.reduceBEq, Nat.reduceAdd, Nat.reduceSub, Nat.reduceLeDiff, Nat.reduceLT, implies_true, famS]) <;> (repeat' with_reducible apply And.intro) <;> first | (refine zb zc (by decide) ⟨rfl, rfl⟩ ?_; (try simp only [evWB, Nat.reduceBEq, Nat.reduceAdd, Nat.reduceSub, Nat.reduceLeDiff, Nat.reduceLT, implies_true, famS]) <;> exact fin6; done) | exact fin6; done) | exact fin6) (by (try simp only [evWB, Nat.reduceBEq, Nat.reduceAdd, Nat.reduceSub, Nat.reduceLeDiff, Nat.reduceLT, implies_true, famS]) <;> (repeat' with_reducible apply And.intro) <;> first | (refine zb zc (by decide) ⟨rfl, rfl⟩ ?_; (try simp only [evWB, Nat.reduceBEq, Nat.reduceAdd, Nat.reduceSub, Nat.reduceLeDiff, Nat.reduceLT, implies_true, famS]) <;> (repeat' with_reducible apply And.intro) <;> first | (refine zb zc (by decide) ⟨rfl, rfl⟩ ?_; (try simp only [evWB, Nat.reduceBEq, Nat.reduceAdd, Nat.reduceSub, Nat.reduceLeDiff, Nat.reduceLT, implies_true, famS]) <;> exact fin6; done) | exact fin6; done) | exact fin6) ?_)
    all_goals (rintro _ _ _ ⟨rfl, rfl, rfl⟩; (repeat first | simp (disch := try exact dis1) only [evD, Nat.reduceBEq, Nat.reduceAdd, Nat.reduceLeDiff, renE, renF, s3, t3, zfp, zdV hil] | with_reducible intro _ | ((with_reducible apply And.intro); omega)))
    all_goals (repeat' with_reducible apply And.intro)
    all_goals try omega
    all_goals first
      | (refine zL [(0, 3, 0)] 1 _ (zbN n i hil T t1) rfl rfl (by (try simp only [evWB, Nat.reduceBEq, Nat.reduceAdd, Nat.reduceSub, Nat.reduceLeDiff, Nat.reduceLT, implies_true, famS]) <;> (repeat' with_reducible apply And.intro) <;> first | (refine zb zc (by decide) ⟨rfl, rfl⟩ ?_; (try simp only [evWB, Nat.reduceBEq, Nat.reduceAdd, Nat.reduceSub, Nat.reduceLeDiff, Nat.reduceLT, implies_true, famS]) <;> (repeat' with_reducible apply And.intro) <;> first | (refine zb zc (by decide) ⟨rfl, rfl⟩ ?_; (try simp only [evWB, Nat.reduceBEq, Nat.reduceAdd, Nat.reduceSub, Nat.reduceLeDiff, Nat.reduceLT, implies_true, famS]) <;> exact fin6; done) | exact fin6; done) | exact fin6) (by (try simp only [evWB, Nat.reduceBEq, Nat.reduceAdd, Nat.reduceSub, Nat.reduceLeDiff, Nat.reduceLT, implies_true, famS]) <;> (repeat' with_reducible apply And.intro) <;> first | (refine zb zc (by decide) ⟨rfl, rfl⟩ ?_; (try simp only [evWB, Nat.reduceBEq, Nat.reduceAdd, Nat.reduceSub, Nat.reduceLeDiff, Nat.reduceLT, implies_true, famS]) <;> (repeat' with_reducible apply And.intro) <;> first | (refine zb zc (by decide) ⟨rfl, rfl⟩ ?_; (try simp only [evWB, Nat.reduceBEq, Nat.reduceAdd, Nat.reduceSub, Nat.reduceLeDiff, Nat.reduceLT, implies_true, famS]) <;> exact fin6; done) | exact fin6; done) | exact fin6) ?_)
      | (refine zL [(0, 2, 0)] 1 _ (zbN n i hil S s1) rfl rfl (by (try simp only [evWB, Nat.reduceBEq, Nat.reduceAdd, Nat.reduceSub, Nat.reduceLeDiff, Nat.reduceLT, implies_true, famS]) <;> (repeat' with_reducible apply And.intro) <;> first | (refine zb zc (by decide) ⟨rfl, rfl⟩ ?_; (try simp only [evWB, Nat.reduceBEq, Nat.reduceAdd, Nat.reduceSub, Nat.reduceLeDiff, Nat.reduceLT, implies_true, famS]) <;> (repeat' with_reducible apply And.intro) <;> first | (refine zb zc (by decide) ⟨rfl, rfl⟩ ?_; (try simp only [evWB, Nat.reduceBEq, Nat.reduceAdd, Nat.reduceSub, Nat.reduceLeDiff, Nat.reduceLT, implies_true, famS]) <;> exact fin6; done) | exact fin6; done) | exact fin6) (by (try simp only [evWB, Nat.reduceBEq, Nat.reduceAdd, Nat.reduceSub, Nat.reduceLeDiff, Nat.reduceLT, implies_true, famS]) <;> (repeat' with_reducible apply And.intro) <;> first | (refine zb zc (by decide) ⟨rfl, rfl⟩ ?_; (try simp only [evWB, Nat.reduceBEq, Nat.reduceAdd, Nat.reduceSub, Nat.reduceLeDiff, Nat.reduceLT, implies_true, famS]) <;> (repeat' with_reducible apply And.intro) <;> first | (refine zb zc (by decide) ⟨rfl, rfl⟩ ?_; (try simp only [evWB, Nat.reduceBEq, Nat.reduceAdd, Nat.reduceSub, Nat.reduceLeDiff, Nat.reduceLT, implies_true, famS]) <;> exact fin6; done) | exact fin6; done) | exact fin6) ?_)
    all_goals (rintro _ _ _ ⟨rfl, rfl, rfl⟩; (repeat first | simp (disch := try exact dis1) only [evD, Nat.reduceBEq, Nat.reduceAdd, Nat.reduceLeDiff, renE, renF, s3, t3, zfp, zdV hil, zqT] | with_reducible intro _ | ((with_reducible apply And.intro); omega)))
    all_goals refine ⟨⟨hil, rfl, rfl⟩, ⟨by omega, by omega⟩, ⟨hil, rfl, rfl⟩, i + 1, by omega, by omega, ?_⟩
    all_goals exact (Ent.tab [(0, 0, 0), (1, 1, 0), (2, 2, 0), (3, 3, 0), (4, 4, 0), (5, 5, 0)] [] rfl (by (try simp only [evWB, Nat.reduceBEq, Nat.reduceAdd, Nat.reduceSub, Nat.reduceLeDiff, Nat.reduceLT, implies_true, zeR, famS, zdH]) <;> (repeat' with_reducible apply And.intro) <;> first | (refine zb zc (by decide) ⟨rfl, rfl⟩ ?_; (try simp only [evWB, Nat.reduceBEq, Nat.reduceAdd, Nat.reduceSub, Nat.reduceLeDiff, Nat.reduceLT, implies_true, zeR, famS, zdH]) <;> (repeat' with_reducible apply And.intro) <;> first | (refine zb zc (by decide) ⟨rfl, rfl⟩ ?_; (try simp only [evWB, Nat.reduceBEq, Nat.reduceAdd, Nat.reduceSub, Nat.reduceLeDiff, Nat.reduceLT, implies_true, zeR, famS, zdH]) <;> exact fin6; done) | exact fin6; done) | exact fin6) (by (try simp only [evWB, Nat.reduceBEq, Nat.reduceAdd, Nat.reduceSub, Nat.reduceLeDiff, Nat.reduceLT, implies_true, zeR, famS, zdH]) <;> (repeat' with_reducible apply And.intro) <;> first | (refine zb zc (by decide) ⟨rfl, rfl⟩ ?_; (try simp only [evWB, Nat.reduceBEq, Nat.reduceAdd, Nat.reduceSub, Nat.reduceLeDiff, Nat.reduceLT, implies_true, zeR, famS, zdH]) <;> (repeat' with_reducible apply And.intro) <;> first | (refine zb zc (by decide) ⟨rfl, rfl⟩ ?_; (try simp only [evWB, Nat.reduceBEq, Nat.reduceAdd, Nat.reduceSub, Nat.reduceLeDiff, Nat.reduceLT, implies_true, zeR, famS, zdH]) <;> exact fin6; done) | exact fin6; done) | exact fin6))
  · obtain rfl : i = n := by omega
    (repeat first | simp (disch := try exact dis1) only [evD, Nat.reduceBEq, Nat.reduceAdd, Nat.reduceLeDiff, dF] | with_reducible intro _ | ((with_reducible apply And.intro); omega))
    unfold zct
    (repeat first | simp (disch := try exact dis1) only [evD, Nat.reduceBEq, Nat.reduceAdd, Nat.reduceLeDiff, zdQ, zeR] | with_reducible intro _ | ((with_reducible apply And.intro); omega))
    rw [zkM, zkM, hA, hC]
    have la : A.length = i := by rw [← hA]; simp
    have lb : B.length = i := by rw [← hC]; simp
    refine ⟨.tup [zdk A, zdk B], .tup _ _ _ rfl ?_, rfl⟩
    intro k x y h1 h2
    rcases k with _ | _ | k
    · cases h1; cases h2
      have := @zkm [(0, .row 1 (mps 2 i) 0), (1, .row 1 (mps 3 i) 0), (2, famS i S), (3, famS i T), (4, .row 1 (A.map cLL) 0), (5, .row 1 (B.map cLL) 0)] [] nos allR false 4 0 0 A trivial rfl (by omega)
      rw [la] at this
      exact this
    · cases h1; cases h2
      have := @zkm [(0, .row 1 (mps 2 i) 0), (1, .row 1 (mps 3 i) 0), (2, famS i S), (3, famS i T), (4, .row 1 (A.map cLL) 0), (5, .row 1 (B.map cLL) 0)] [] nos allR false 5 0 0 B trivial rfl (by omega)
      rw [lb] at this
      exact this
    · cases h1
theorem zgg (g : G) (exit U : List Int) (hU : UnivB U exit g.blocks) : zD Tryz.prog zcV [.agg g.cells, za exit] (· = .tup [zdk (zbB exit g.blocks), zdk (zkc exit g.blocks)]) := by
  refine fn_x zka rfl ?_
  unfold zgi
  have hB := hBig
  have hlen := hU.len
  have hbd := ziN g exit U hU
  obtain ⟨ad, bl⟩ := g
  simp only at hU hlen hbd ⊢
  simp only [G.cells] at hbd
  (repeat first | simp (disch := try exact dis1) only [evD, Nat.reduceBEq, Nat.reduceAdd, Nat.reduceLeDiff, fldP, G.cells, za] | with_reducible intro _ | ((with_reducible apply And.intro); omega))
  refine zL [] 0 _ (hbd) rfl rfl (by (try simp only [evWB, Nat.reduceBEq, Nat.reduceAdd, Nat.reduceSub, Nat.reduceLeDiff, Nat.reduceLT, implies_true]) <;> (repeat' with_reducible apply And.intro) <;> first | (refine zb zc (by decide) ⟨rfl, rfl⟩ ?_; (try simp only [evWB, Nat.reduceBEq, Nat.reduceAdd, Nat.reduceSub, Nat.reduceLeDiff, Nat.reduceLT, implies_true]) <;> (repeat' with_reducible apply And.intro) <;> first | (refine zb zc (by decide) ⟨rfl, rfl⟩ ?_; (try simp only [evWB, Nat.reduceBEq, Nat.reduceAdd, Nat.reduceSub, Nat.reduceLeDiff, Nat.reduceLT, implies_true]) <;> exact fin6; done) | exact fin6; done) | exact fin6) (by (try simp only [evWB, Nat.reduceBEq, Nat.reduceAdd, Nat.reduceSub, Nat.reduceLeDiff, Nat.reduceLT, implies_true]) <;> (repeat' with_reducible apply And.intro) <;> first | (refine zb zc (by decide) ⟨rfl, rfl⟩ ?_; (try simp only [evWB, Nat.reduceBEq, Nat.reduceAdd, Nat.reduceSub, Nat.reduceLeDiff, Nat.reduceLT, implies_true]) <;> (repeat' with_reducible apply And.intro) <;> first | (refine zb zc (by decide) ⟨rfl, rfl⟩ ?_; (try simp only [evWB, Nat.reduceBEq, Nat.reduceAdd, Nat.reduceSub, Nat.reduceLeDiff, Nat.reduceLT, implies_true]) <;> exact fin6; done) | exact fin6; done) | exact fin6) ?_
  rintro _ _ _ ⟨S, T, rfl, rfl, rfl, hend⟩
  (repeat first | simp (disch := try exact dis1) only [evD, Nat.reduceBEq, Nat.reduceAdd, Nat.reduceLeDiff, bdH, renP, renF] | with_reducible intro _ | ((with_reducible apply And.intro); omega))
  (repeat' with_reducible apply And.intro)
  all_goals try omega
  all_goals try intro _
  all_goals refine lv_l0 bl.length S T (fun i => (zbB exit bl).getD i []) (zaS exit bl) _ _ hlen (fun i hi => ⟨(hend.s i).ok, hend.keyS hi⟩) (fun i hi => ⟨(hend.t i).ok, hend.keyT hi⟩) (by have := @zsj _ (zbB exit bl) []; rw [(zmg exit bl).1.len] at this; exact this) rfl ?_
  · exact (Ent.tab [(0, 2, 0), (1, 3, 0), (2, 4, 0), (3, 5, 0), (4, 6, 0), (5, 7, 0)] [] rfl (by (try simp only [evWB, Nat.reduceBEq, Nat.reduceAdd, Nat.reduceSub, Nat.reduceLeDiff, Nat.reduceLT, implies_true, zeR, famS, ← za4]) <;> (repeat' with_reducible apply And.intro) <;> first | (refine zb zc (by decide) ⟨rfl, rfl⟩ ?_; (try simp only [evWB, Nat.reduceBEq, Nat.reduceAdd, Nat.reduceSub, Nat.reduceLeDiff, Nat.reduceLT, implies_true, zeR, famS, ← za4]) <;> (repeat' with_reducible apply And.intro) <;> first | (refine zb zc (by decide) ⟨rfl, rfl⟩ ?_; (try simp only [evWB, Nat.reduceBEq, Nat.reduceAdd, Nat.reduceSub, Nat.reduceLeDiff, Nat.reduceLT, implies_true, zeR, famS, ← za4]) <;> exact fin6; done) | exact fin6; done) | exact fin6) (by (try simp only [evWB, Nat.reduceBEq, Nat.reduceAdd, Nat.reduceSub, Nat.reduceLeDiff, Nat.reduceLT, implies_true, zeR, famS, ← za4]) <;> (repeat' with_reducible apply And.intro) <;> first | (refine zb zc (by decide) ⟨rfl, rfl⟩ ?_; (try simp only [evWB, Nat.reduceBEq, Nat.reduceAdd, Nat.reduceSub, Nat.reduceLeDiff, Nat.reduceLT, implies_true, zeR, famS, ← za4]) <;> (repeat' with_reducible apply And.intro) <;> first | (refine zb zc (by decide) ⟨rfl, rfl⟩ ?_; (try simp only [evWB, Nat.reduceBEq, Nat.reduceAdd, Nat.reduceSub, Nat.reduceLeDiff, Nat.reduceLT, implies_true, zeR, famS, ← za4]) <;> exact fin6; done) | exact fin6; done) | exact fin6))
  · exact (Ent.tab [(0, 2, 0), (1, 3, 0), (2, 4, 0), (3, 5, 0), (4, 7, 0), (5, 6, 0)] [] rfl (by (try simp only [evWB, Nat.reduceBEq, Nat.reduceAdd, Nat.reduceSub, Nat.reduceLeDiff, Nat.reduceLT, implies_true, zeR, famS, ← za4]) <;> (repeat' with_reducible apply And.intro) <;> first | (refine zb zc (by decide) ⟨rfl, rfl⟩ ?_; (try simp only [evWB, Nat.reduceBEq, Nat.reduceAdd, Nat.reduceSub, Nat.reduceLeDiff, Nat.reduceLT, implies_true, zeR, famS, ← za4]) <;> (repeat' with_reducible apply And.intro) <;> first | (refine zb zc (by decide) ⟨rfl, rfl⟩ ?_; (try simp only [evWB, Nat.reduceBEq, Nat.reduceAdd, Nat.reduceSub, Nat.reduceLeDiff, Nat.reduceLT, implies_true, zeR, famS, ← za4]) <;> exact fin6; done) | exact fin6; done) | exact fin6) (by (try simp only [evWB, Nat.reduceBEq, Nat.reduceAdd, Nat.reduceSub, Nat.reduceLeDiff, Nat.reduceLT, implies_true, zeR, famS, ← za4]) <;> (repeat' with_reducible apply And.intro) <;> first | (refine zb zc (by decide) ⟨rfl, rfl⟩ ?_; (try simp only [evWB, Nat.reduceBEq, Nat.reduceAdd, Nat.reduceSub, Nat.reduceLeDiff, Nat.reduceLT, implies_true, zeR, famS, ← za4]) <;> (repeat' with_reducible apply And.intro) <;> first | (refine zb zc (by decide) ⟨rfl, rfl⟩ ?_; (try simp only [evWB, Nat.reduceBEq, Nat.reduceAdd, Nat.reduceSub, Nat.reduceLeDiff, Nat.reduceLT, implies_true, zeR, famS, ← za4]) <;> exact fin6; done) | exact fin6; done) | exact fin6))
theorem zrZ (l : List Int) (n : Int) : zD Tryz.prog zlp [za l, .int .i64 n] (· = .bool (decide (n ∈ l))) := by
  refine fn_x zsp rfl ?_
  unfold zmH
  have hB := hBig
  (repeat first | simp (disch := try exact dis1) only [evD, Nat.reduceBEq, Nat.reduceAdd, Nat.reduceLeDiff, za] | with_reducible intro _ | ((with_reducible apply And.intro); omega))
  refine zm (fun i : Nat => ([(0, za l), (1, .int .i64 n), (5, .int .i64 i)], [])) 0 (fun i => i ≤ l.length ∧ n ∉ l.take i) (fun i => l.length - i) 0 ⟨Nat.zero_le _, by simp⟩ (Ent.tab [] [] rfl (by (try simp only [evWB, Nat.reduceBEq, Nat.reduceAdd, Nat.reduceSub, Nat.reduceLeDiff, Nat.reduceLT, implies_true, za]) <;> exact fin2) (by (try simp only [evWB, Nat.reduceBEq, Nat.reduceAdd, Nat.reduceSub, Nat.reduceLeDiff, Nat.reduceLT, implies_true, za]) <;> exact fin2)) ?_
  rintro i ⟨hi, hn⟩ wf
  unfold ziu
  by_cases hil : i < l.length
  · have hgl := zt (f := cI) (d := []) hil
    by_cases he : l[i] = n
    · have hm : n ∈ l := by rw [← he]; exact List.getElem_mem hil
      rw [decide_eq_true hm]
      (repeat first | simp (disch := try exact dis1) only [evD, Nat.reduceBEq, Nat.reduceAdd, Nat.reduceLeDiff, dT, za, hgl, zjE] | with_reducible intro _ | ((with_reducible apply And.intro); omega))
      exact ⟨_, .bool _ _, rfl⟩
    · (repeat first | simp (disch := try exact dis1) only [evD, Nat.reduceBEq, Nat.reduceAdd, Nat.reduceLeDiff, dT, dF, za, hgl] | with_reducible intro _ | ((with_reducible apply And.intro); omega))
      refine ⟨i + 1, ⟨by omega, ?_⟩, by omega, Ent.keep rfl fin5⟩
      rw [List.take_add_one, List.getElem?_eq_getElem hil]
      simp only [Option.toList_some, List.mem_append, List.mem_singleton, not_or]
      exact ⟨hn, fun e => he e.symm⟩
  · rw [List.take_of_length_le (by omega)] at hn
    rw [decide_eq_false hn]
    (repeat first | simp (disch := try exact dis1) only [evD, Nat.reduceBEq, Nat.reduceAdd, Nat.reduceLeDiff, dF, za] | with_reducible intro _ | ((with_reducible apply And.intro); omega))
    unfold ziE
    (repeat first | simp (disch := try exact dis1) only [evD, Nat.reduceBEq, Nat.reduceAdd, Nat.reduceLeDiff, zjE] | with_reducible intro _ | ((with_reducible apply And.intro); omega))
    exact ⟨_, .bool _ _, rfl⟩
theorem zqw {a b : List Int} {i : Nat} (h : i < a.length) : zcJ (a.take (i + 1)) b = if a[i] ∈ b then zcJ (a.take i) b else zcJ (a.take i) b ++ [a[i]] := by
  unfold zcJ
  rw [List.take_add_one, List.getElem?_eq_getElem h, List.filter_append]
  by_cases hm : a[i] ∈ b
  · rw [if_pos hm]; simp [hm]
  · rw [if_neg hm]; simp [hm]
theorem zji {a b : List Int} : (zcJ a b).length ≤ a.length := List.length_filter_le _ _
theorem zlU (a b : List Int) (ha : a.length ≤ 1000000) : zD Tryz.prog zf3 [za a, za b] (· = za (zcJ a b)) := by
  refine fn_x zl1 rfl ?_
  unfold zhH
  have hB := hBig
  (repeat first | simp (disch := try exact dis1) only [evD, Nat.reduceBEq, Nat.reduceAdd, Nat.reduceLeDiff, za] | with_reducible intro _ | ((with_reducible apply And.intro); omega))
  refine zm (fun i : Nat => ([(0, za a), (1, za b), (5, .own 0 0 0 0 (zcJ (a.take i) b).length), (6, .int .i64 i)], [(0, .row 1 ((zcJ (a.take i) b).map cI) 0)])) 1 (fun i => i ≤ a.length) (fun i => a.length - i) 0 (Nat.zero_le _) (Ent.tab [(0, 1, 0)] [] rfl (by (try simp only [evWB, Nat.reduceBEq, Nat.reduceAdd, Nat.reduceSub, Nat.reduceLeDiff, Nat.reduceLT, implies_true, za, List.take_zero]) <;> exact fin2) (by (try simp only [evWB, Nat.reduceBEq, Nat.reduceAdd, Nat.reduceSub, Nat.reduceLeDiff, Nat.reduceLT, implies_true, za, List.take_zero]) <;> exact fin2)) ?_
  rintro i hi wf
  unfold zfK
  by_cases hil : i < a.length
  · have hgl := zt (f := cI) (d := []) hil
    have htk := zqw (b := b) hil
    have hml := zji (a := a.take i) (b := b)
    rw [List.length_take] at hml
    generalize zcJ (a.take i) b = m at htk hml ⊢
    (repeat first | simp (disch := try exact dis1) only [evD, Nat.reduceBEq, Nat.reduceAdd, Nat.reduceLeDiff, dT, za, hgl] | with_reducible intro _ | ((with_reducible apply And.intro); omega))
    refine zn (zo (zrZ b a[i]) rfl) ?_
    by_cases hm : a[i] ∈ b
    · rw [if_pos hm] at htk
      rw [decide_eq_true hm]
      (repeat first | simp (disch := try exact dis1) only [evD, Nat.reduceBEq, Nat.reduceAdd, Nat.reduceLeDiff] | with_reducible intro _ | ((with_reducible apply And.intro); omega))
      exact ⟨i + 1, by omega, by omega, (Ent.tab [(0, 0, 0)] [] rfl (by (try simp only [evWB, Nat.reduceBEq, Nat.reduceAdd, Nat.reduceSub, Nat.reduceLeDiff, Nat.reduceLT, implies_true, za, htk]) <;> exact fin2) (by (try simp only [evWB, Nat.reduceBEq, Nat.reduceAdd, Nat.reduceSub, Nat.reduceLeDiff, Nat.reduceLT, implies_true, za, htk]) <;> exact fin2))⟩
    · rw [if_neg hm] at htk
      rw [decide_eq_false hm]
      (repeat first | simp (disch := try exact dis1) only [evD, Nat.reduceBEq, Nat.reduceAdd, Nat.reduceLeDiff, dT, za, hgl] | with_reducible intro _ | ((with_reducible apply And.intro); omega))
      exact ⟨i + 1, by omega, by omega, (Ent.tab [(0, 0, 1)] [] rfl (by (try simp only [evWB, Nat.reduceBEq, Nat.reduceAdd, Nat.reduceSub, Nat.reduceLeDiff, Nat.reduceLT, implies_true, za, htk, List.length_append, List.length_singleton, List.map_append, List.map_cons, List.map_nil]) <;> exact fin2) (by (try simp only [evWB, Nat.reduceBEq, Nat.reduceAdd, Nat.reduceSub, Nat.reduceLeDiff, Nat.reduceLT, implies_true, za, htk, List.length_append, List.length_singleton, List.map_append, List.map_cons, List.map_nil]) <;> exact fin2))⟩
  · rw [List.take_of_length_le (by omega)]
    (repeat first | simp (disch := try exact dis1) only [evD, Nat.reduceBEq, Nat.reduceAdd, Nat.reduceLeDiff, dF, za] | with_reducible intro _ | ((with_reducible apply And.intro); omega))
    unfold zfH
    (repeat first | simp (disch := try exact dis1) only [evD, Nat.reduceBEq, Nat.reduceAdd, Nat.reduceLeDiff, zhY] | with_reducible intro _ | ((with_reducible apply And.intro); omega))
    have := zji (a := a) (b := b)
    exact ⟨_, zV trivial rfl (by omega), rfl⟩
theorem znw (s : St) (a exit : List Int) (hs : zw s.e ≤ 100000) (ha : a.length + exit.length ≤ 800000) : zD Tryz.prog zhg [.agg s.cells, za a, za exit] (· = za (zcu exit s a)) := by
  refine fn_x zmX rfl ?_
  unfold ziX
  have hB := hBig
  have hd := zk0 s
  have hu := zls s hs
  have hul := ziz s
  have hlv : zf6 s = decide (s.op = 9 ∨ s.op = 10 ∨ s.op = 5) := rfl
  unfold zcu
  generalize hR : (if zf6 s = true then zaD (zaD (zcJ a (zfu s)) (zb6 s)) exit else zaD (zcJ a (zfu s)) (zb6 s)) = R
  generalize zfu s = ds at hd hR
  generalize zb6 s = us at hu hul hR
  have hml := zji (a := a) (b := ds)
  have hun := zdg (a := zcJ a ds) (b := us)
  have hw := zlU a ds (by omega)
  have hU := zfb (zcJ a ds) us (by omega)
  have hV := zfb (zaD (zcJ a ds) us) exit (by omega)
  rw [hlv] at hR
  obtain ⟨op, var, width, next, els, tgt, l, cs⟩ := s
  simp only [St.cells] at hd hu hR
  (repeat first | simp (disch := try exact dis1) only [evD, Nat.reduceBEq, Nat.reduceAdd, Nat.reduceLeDiff, fldP, St.cells, za] | with_reducible intro _ | ((with_reducible apply And.intro); omega))
  refine zaZ (zo hd rfl) ?_
  (repeat first | simp (disch := try exact dis1) only [evD, Nat.reduceBEq, Nat.reduceAdd, Nat.reduceLeDiff] | with_reducible intro _ | ((with_reducible apply And.intro); omega))
  refine zaZ (zo hw rfl) ?_
  (repeat first | simp (disch := try exact dis1) only [evD, Nat.reduceBEq, Nat.reduceAdd, Nat.reduceLeDiff, za] | with_reducible intro _ | ((with_reducible apply And.intro); omega))
  refine zaZ (zo hu rfl) ?_
  (repeat first | simp (disch := try exact dis1) only [evD, Nat.reduceBEq, Nat.reduceAdd, Nat.reduceLeDiff] | with_reducible intro _ | ((with_reducible apply And.intro); omega))
  refine zaZ (zo hU rfl) ?_
  generalize zaD (zcJ a ds) us = z at hV hR ⊢
  by_cases h9 : op = 9
  · rw [decide_eq_true (Or.inl h9), if_pos rfl] at hR
    subst hR
    (repeat first | simp (disch := try exact dis1) only [evD, Nat.reduceBEq, Nat.reduceAdd, Nat.reduceLeDiff, dT, fldP] | with_reducible intro _ | ((with_reducible apply And.intro); omega))
    refine zn (zo hV rfl) ?_
    (repeat first | simp (disch := try exact dis1) only [evD, Nat.reduceBEq, Nat.reduceAdd, Nat.reduceLeDiff, zcK] | with_reducible intro _ | ((with_reducible apply And.intro); omega))
    exact ⟨_, zJ rfl, rfl⟩
  by_cases h10 : op = 10
  · rw [decide_eq_true (Or.inr (Or.inl h10)), if_pos rfl] at hR
    subst hR
    (repeat first | simp (disch := try exact dis1) only [evD, Nat.reduceBEq, Nat.reduceAdd, Nat.reduceLeDiff, dT, dF, fldP] | with_reducible intro _ | ((with_reducible apply And.intro); omega))
    refine zn (zo hV rfl) ?_
    (repeat first | simp (disch := try exact dis1) only [evD, Nat.reduceBEq, Nat.reduceAdd, Nat.reduceLeDiff, zcK] | with_reducible intro _ | ((with_reducible apply And.intro); omega))
    exact ⟨_, zJ rfl, rfl⟩
  by_cases h5 : op = 5
  · rw [decide_eq_true (Or.inr (Or.inr h5)), if_pos rfl] at hR
    subst hR
    (repeat first | simp (disch := try exact dis1) only [evD, Nat.reduceBEq, Nat.reduceAdd, Nat.reduceLeDiff, dT, dF, fldP] | with_reducible intro _ | ((with_reducible apply And.intro); omega))
    refine zn (zo hV rfl) ?_
    (repeat first | simp (disch := try exact dis1) only [evD, Nat.reduceBEq, Nat.reduceAdd, Nat.reduceLeDiff, zcK] | with_reducible intro _ | ((with_reducible apply And.intro); omega))
    exact ⟨_, zJ rfl, rfl⟩
  rw [decide_eq_false (by omega), if_neg (by simp)] at hR
  subst hR
  (repeat first | simp (disch := try exact dis1) only [evD, Nat.reduceBEq, Nat.reduceAdd, Nat.reduceLeDiff, dF, fldP, zcK] | with_reducible intro _ | ((with_reducible apply And.intro); omega))
  exact ⟨_, zJ rfl, rfl⟩
theorem zeC (A B : List Int) : zD Tryz.prog zbw [za A, za B] (· = .bool (decide (A = B))) := by
  refine fn_x zlb rfl ?_
  unfold zgI
  have hB := hBig
  by_cases hl : A.length = B.length
  · (repeat first | simp (disch := try exact dis1) only [evD, Nat.reduceBEq, Nat.reduceAdd, Nat.reduceLeDiff, dF, za] | with_reducible intro _ | ((with_reducible apply And.intro); omega))
    refine zm (fun i : Nat => ([(0, za A), (1, za B), (5, .int .i64 i)], [])) 0 (fun i => i ≤ A.length ∧ A.take i = B.take i) (fun i => A.length - i) 0 ⟨Nat.zero_le _, by simp⟩ (Ent.tab [] [] rfl (by (try simp only [evWB, Nat.reduceBEq, Nat.reduceAdd, Nat.reduceSub, Nat.reduceLeDiff, Nat.reduceLT, implies_true, za]) <;> exact fin2) (by (try simp only [evWB, Nat.reduceBEq, Nat.reduceAdd, Nat.reduceSub, Nat.reduceLeDiff, Nat.reduceLT, implies_true, za]) <;> exact fin2)) ?_
    rintro i ⟨hi, htk⟩ wf
    unfold zeS
    by_cases hil : i < A.length
    · have hib : i < B.length := by omega
      have ga := zt (f := cI) (d := []) hil
      have gb := zt (f := cI) (d := []) hib
      by_cases he : A[i] = B[i]
      · (repeat first | simp (disch := try exact dis1) only [evD, Nat.reduceBEq, Nat.reduceAdd, Nat.reduceLeDiff, dT, dF, za, ga, gb] | with_reducible intro _ | ((with_reducible apply And.intro); omega))
        exact ⟨i + 1, ⟨by omega, zjN htk hil hib he⟩, by omega, Ent.keep rfl fin5⟩
      · have hne : A ≠ B := fun e => he (by subst e; rfl)
        rw [decide_eq_false hne]
        (repeat first | simp (disch := try exact dis1) only [evD, Nat.reduceBEq, Nat.reduceAdd, Nat.reduceLeDiff, dT, za, ga, gb, zcP] | with_reducible intro _ | ((with_reducible apply And.intro); omega))
        exact ⟨_, .bool _ _, rfl⟩
    · rw [List.take_of_length_le (by omega), List.take_of_length_le (by omega)] at htk
      rw [decide_eq_true htk]
      (repeat first | simp (disch := try exact dis1) only [evD, Nat.reduceBEq, Nat.reduceAdd, Nat.reduceLeDiff, dF, za] | with_reducible intro _ | ((with_reducible apply And.intro); omega))
      unfold zfa
      (repeat first | simp (disch := try exact dis1) only [evD, Nat.reduceBEq, Nat.reduceAdd, Nat.reduceLeDiff, zcP] | with_reducible intro _ | ((with_reducible apply And.intro); omega))
      exact ⟨_, .bool _ _, rfl⟩
  · have hne : A ≠ B := fun e => hl (by rw [e])
    rw [decide_eq_false hne]
    (repeat first | simp (disch := try exact dis1) only [evD, Nat.reduceBEq, Nat.reduceAdd, Nat.reduceLeDiff, dT, za, zcP] | with_reducible intro _ | ((with_reducible apply And.intro); omega))
    exact ⟨_, .bool _ _, rfl⟩
theorem zgh (A B : List (List Int)) : zD Tryz.prog zbT [zdk A, zdk B] (· = .bool (decide (A = B))) := by
  refine fn_x zkf rfl ?_
  unfold zgu
  have hB := hBig
  by_cases hl : A.length = B.length
  · (repeat first | simp (disch := try exact dis1) only [evD, Nat.reduceBEq, Nat.reduceAdd, Nat.reduceLeDiff, dF, zdk] | with_reducible intro _ | ((with_reducible apply And.intro); omega))
    refine zm (fun i : Nat => ([(0, zdk A), (1, zdk B), (5, .int .i64 i)], [])) 0 (fun i => i ≤ A.length ∧ A.take i = B.take i) (fun i => A.length - i) 0 ⟨Nat.zero_le _, by simp⟩ (Ent.tab [] [] rfl (by (try simp only [evWB, Nat.reduceBEq, Nat.reduceAdd, Nat.reduceSub, Nat.reduceLeDiff, Nat.reduceLT, implies_true, zdk]) <;> exact fin2) (by (try simp only [evWB, Nat.reduceBEq, Nat.reduceAdd, Nat.reduceSub, Nat.reduceLeDiff, Nat.reduceLT, implies_true, zdk]) <;> exact fin2)) ?_
    rintro i ⟨hi, htk⟩ wf
    unfold zew
    by_cases hil : i < A.length
    · have hib : i < B.length := by omega
      have ga : (A.map cLL).getD i [] = [za A[i]] := zt (f := cLL) (d := []) hil
      have gb : (B.map cLL).getD i [] = [za B[i]] := zt (f := cLL) (d := []) hib
      (repeat first | simp (disch := try exact dis1) only [evD, Nat.reduceBEq, Nat.reduceAdd, Nat.reduceLeDiff, dT, dF, zdk, ga, gb] | with_reducible intro _ | ((with_reducible apply And.intro); omega))
      refine zaZ (zo (zeC A[i] B[i]) rfl) ?_
      by_cases he : A[i] = B[i]
      · rw [decide_eq_true he]
        (repeat first | simp (disch := try exact dis1) only [evD, Nat.reduceBEq, Nat.reduceAdd, Nat.reduceLeDiff] | with_reducible intro _ | ((with_reducible apply And.intro); omega))
        exact ⟨i + 1, ⟨by omega, zjN htk hil hib he⟩, by omega, Ent.keep rfl fin5⟩
      · have hne : A ≠ B := fun e => he (by subst e; rfl)
        rw [decide_eq_false he, decide_eq_false hne]
        (repeat first | simp (disch := try exact dis1) only [evD, Nat.reduceBEq, Nat.reduceAdd, Nat.reduceLeDiff, zcn] | with_reducible intro _ | ((with_reducible apply And.intro); omega))
        exact ⟨_, .bool _ _, rfl⟩
    · rw [List.take_of_length_le (by omega), List.take_of_length_le (by omega)] at htk
      rw [decide_eq_true htk]
      (repeat first | simp (disch := try exact dis1) only [evD, Nat.reduceBEq, Nat.reduceAdd, Nat.reduceLeDiff, dF, zdk] | with_reducible intro _ | ((with_reducible apply And.intro); omega))
      unfold zeN
      (repeat first | simp (disch := try exact dis1) only [evD, Nat.reduceBEq, Nat.reduceAdd, Nat.reduceLeDiff, zcn] | with_reducible intro _ | ((with_reducible apply And.intro); omega))
      exact ⟨_, .bool _ _, rfl⟩
  · have hne : A ≠ B := fun e => hl (by rw [e])
    rw [decide_eq_false hne]
    (repeat first | simp (disch := try exact dis1) only [evD, Nat.reduceBEq, Nat.reduceAdd, Nat.reduceLeDiff, dT, zdk, zcn] | with_reducible intro _ | ((with_reducible apply And.intro); omega))
    exact ⟨_, .bool _ _, rfl⟩
theorem zjA (b : Bl) : zD Tryz.prog zdM [.agg b.cells] (· = za (zz b.stmts)) := by
  refine fn_x zjh rfl ?_
  unfold zfy
  have hB := hBig
  obtain ⟨ad, l⟩ := b
  simp only [Bl.cells]
  by_cases h0 : l.length = 0
  · obtain rfl : l = [] := List.eq_nil_of_length_eq_zero h0
    (repeat first | simp (disch := try exact dis1) only [evD, Nat.reduceBEq, Nat.reduceAdd, Nat.reduceLeDiff, fldP, dT, List.length_nil, zdm] | with_reducible intro _ | ((with_reducible apply And.intro); omega))
    exact ⟨_, zV (l := []) trivial rfl (by simp only [List.length_nil]; omega), rfl⟩
  have hlast : l.length - 1 < l.length := by omega
  have hidx : (((l.length : Nat) : Int) - 1).toNat = l.length - 1 := by omega
  have hg := zt (f := St.cells) (d := []) hlast
  have ht := zlY l[l.length - 1]
  rw [zgN hlast]
  generalize l[l.length - 1] = s at hg ht ⊢
  (repeat first | simp (disch := try exact dis1) only [evD, Nat.reduceBEq, Nat.reduceAdd, Nat.reduceLeDiff, fldP, dT, dF, hidx, hg, St.len, St.eight] | with_reducible intro _ | ((with_reducible apply And.intro); omega))
  refine zn (zo ht rfl) ?_
  (repeat first | simp (disch := try exact dis1) only [evD, Nat.reduceBEq, Nat.reduceAdd, Nat.reduceLeDiff, zdm] | with_reducible intro _ | ((with_reducible apply And.intro); omega))
  exact ⟨_, zJ rfl, rfl⟩
def zff : ACode := (.seq (.region [ (oN 39 (.mov (.t 9))), (oN 40 (.len (.t 39))), (oN 41 (.mov (.t 6))), (oN 42 (.mov (.t 8))), (oN 43 (.idx 1 (.t 41) (.t 42))), (oN 44 (.load false 1 (.t 43))), (oN 45 (.len (.t 44))), (oN 46 (.bin .neq (.t 40) (.t 45)))] [39, 40, 41, 42, 43, 44, 45]) (.cond (.t 46) (.seq (.region [ (oN 47 (.mov (.t 6))), (oN 48 (.mov (.t 8))), (oN 49 (.mov (.t 9))), (oN 50 (.idx 1 (.t 47) (.t 48))), ⟨none, .store 1 (.t 50) (.t 49), none⟩] [7, 9, 46, 47, 48, 49, 50]) (.region [ (oN 7 (.mov (.c (.bool true))))] [])) (.skip)))
def zdu : ACode := (.region [ (oN 23 (.mov (.t 8))), (oN 24 (.bin .sub (.t 23) (.c (.int .i64 1)))), (oN 8 (.mov (.t 24)))] [9, 23, 24, 46])
def zfk : ACode := .seq (.seq (.region [ (oN 21 (.mov (.t 8))), (oN 22 (.bin .geq (.t 21) (.c (.int .i64 0))))] [21]) (.cond (.t 22) (.skip) (.exit 2))) (.seq (.block 3 (.seq (.draw ( .step (oN 25 (.fldaddr 1 1 (.t 2))) ( .step (oN 27 (.mov (.t 8))) ( .step (oN 30 (.fldaddr 1 1 (.t 2))) ( .step (oN 32 (.mov (.t 8))) ( .step (oN 35 (.mov (.t 6))) ( .step (oN 37 (.mov (.t 1))) ( .alt (oN 26 (.load false 1 (.t 25))) ( .alt (oN 28 (.idx 2 (.t 26) (.t 27))) ( .alt (oN 29 (.load true 2 (.t 28))) ( .alt (oN 31 (.load false 1 (.t 30))) ( .alt (oN 33 (.idx 2 (.t 31) (.t 32))) ( .step (oN 34 (.load true 2 (.t 33))) ( .alt (oN 36 (.call zN [(.t 34), (.t 35)])) ( .step (oN 38 (.callq zG [(.t 29), (.t 36), (.t 37)])) ( .step (oN 9 (.mov (.t 38))) ( .done))) ( .stop))) ( .stop)) ( .stop)) ( .alt (oN 31 (.load false 1 (.t 30))) ( .alt (oN 29 (.load true 2 (.t 28))) ( .alt (oN 33 (.idx 2 (.t 31) (.t 32))) ( .step (oN 34 (.load true 2 (.t 33))) ( .alt (oN 36 (.call zN [(.t 34), (.t 35)])) ( .step (oN 38 (.callq zG [(.t 29), (.t 36), (.t 37)])) ( .step (oN 9 (.mov (.t 38))) ( .done))) ( .stop))) ( .stop)) ( .alt (oN 33 (.idx 2 (.t 31) (.t 32))) ( .step (oN 34 (.load true 2 (.t 33))) ( .alt (oN 29 (.load true 2 (.t 28))) ( .alt (oN 36 (.call zN [(.t 34), (.t 35)])) ( .step (oN 38 (.callq zG [(.t 29), (.t 36), (.t 37)])) ( .step (oN 9 (.mov (.t 38))) ( .done))) ( .stop)) ( .alt (oN 36 (.call zN [(.t 34), (.t 35)])) ( .step (oN 29 (.load true 2 (.t 28))) ( .step (oN 38 (.callq zG [(.t 29), (.t 36), (.t 37)])) ( .step (oN 9 (.mov (.t 38))) ( .done)))) ( .stop)))) ( .stop))) ( .stop))) ( .alt (oN 31 (.load false 1 (.t 30))) ( .alt (oN 28 (.idx 2 (.t 26) (.t 27))) ( .alt (oN 29 (.load true 2 (.t 28))) ( .alt (oN 33 (.idx 2 (.t 31) (.t 32))) ( .step (oN 34 (.load true 2 (.t 33))) ( .alt (oN 36 (.call zN [(.t 34), (.t 35)])) ( .step (oN 38 (.callq zG [(.t 29), (.t 36), (.t 37)])) ( .step (oN 9 (.mov (.t 38))) ( .done))) ( .stop))) ( .stop)) ( .alt (oN 33 (.idx 2 (.t 31) (.t 32))) ( .step (oN 34 (.load true 2 (.t 33))) ( .alt (oN 29 (.load true 2 (.t 28))) ( .alt (oN 36 (.call zN [(.t 34), (.t 35)])) ( .step (oN 38 (.callq zG [(.t 29), (.t 36), (.t 37)])) ( .step (oN 9 (.mov (.t 38))) ( .done))) ( .stop)) ( .alt (oN 36 (.call zN [(.t 34), (.t 35)])) ( .step (oN 29 (.load true 2 (.t 28))) ( .step (oN 38 (.callq zG [(.t 29), (.t 36), (.t 37)])) ( .step (oN 9 (.mov (.t 38))) ( .done)))) ( .stop)))) ( .stop))) ( .alt (oN 33 (.idx 2 (.t 31) (.t 32))) ( .step (oN 34 (.load true 2 (.t 33))) ( .alt (oN 28 (.idx 2 (.t 26) (.t 27))) ( .alt (oN 29 (.load true 2 (.t 28))) ( .alt (oN 36 (.call zN [(.t 34), (.t 35)])) ( .step (oN 38 (.callq zG [(.t 29), (.t 36), (.t 37)])) ( .step (oN 9 (.mov (.t 38))) ( .done))) ( .stop)) ( .alt (oN 36 (.call zN [(.t 34), (.t 35)])) ( .step (oN 29 (.load true 2 (.t 28))) ( .step (oN 38 (.callq zG [(.t 29), (.t 36), (.t 37)])) ( .step (oN 9 (.mov (.t 38))) ( .done)))) ( .stop))) ( .alt (oN 36 (.call zN [(.t 34), (.t 35)])) ( .step (oN 28 (.idx 2 (.t 26) (.t 27))) ( .step (oN 29 (.load true 2 (.t 28))) ( .step (oN 38 (.callq zG [(.t 29), (.t 36), (.t 37)])) ( .step (oN 9 (.mov (.t 38))) ( .done))))) ( .stop)))) ( .stop))) ( .stop))) ( .alt (oN 31 (.load false 1 (.t 30))) ( .alt (oN 26 (.load false 1 (.t 25))) ( .alt (oN 28 (.idx 2 (.t 26) (.t 27))) ( .alt (oN 29 (.load true 2 (.t 28))) ( .alt (oN 33 (.idx 2 (.t 31) (.t 32))) ( .step (oN 34 (.load true 2 (.t 33))) ( .alt (oN 36 (.call zN [(.t 34), (.t 35)])) ( .step (oN 38 (.callq zG [(.t 29), (.t 36), (.t 37)])) ( .step (oN 9 (.mov (.t 38))) ( .done))) ( .stop))) ( .stop)) ( .alt (oN 33 (.idx 2 (.t 31) (.t 32))) ( .step (oN 34 (.load true 2 (.t 33))) ( .alt (oN 29 (.load true 2 (.t 28))) ( .alt (oN 36 (.call zN [(.t 34), (.t 35)])) ( .step (oN 38 (.callq zG [(.t 29), (.t 36), (.t 37)])) ( .step (oN 9 (.mov (.t 38))) ( .done))) ( .stop)) ( .alt (oN 36 (.call zN [(.t 34), (.t 35)])) ( .step (oN 29 (.load true 2 (.t 28))) ( .step (oN 38 (.callq zG [(.t 29), (.t 36), (.t 37)])) ( .step (oN 9 (.mov (.t 38))) ( .done)))) ( .stop)))) ( .stop))) ( .alt (oN 33 (.idx 2 (.t 31) (.t 32))) ( .step (oN 34 (.load true 2 (.t 33))) ( .alt (oN 28 (.idx 2 (.t 26) (.t 27))) ( .alt (oN 29 (.load true 2 (.t 28))) ( .alt (oN 36 (.call zN [(.t 34), (.t 35)])) ( .step (oN 38 (.callq zG [(.t 29), (.t 36), (.t 37)])) ( .step (oN 9 (.mov (.t 38))) ( .done))) ( .stop)) ( .alt (oN 36 (.call zN [(.t 34), (.t 35)])) ( .step (oN 29 (.load true 2 (.t 28))) ( .step (oN 38 (.callq zG [(.t 29), (.t 36), (.t 37)])) ( .step (oN 9 (.mov (.t 38))) ( .done)))) ( .stop))) ( .alt (oN 36 (.call zN [(.t 34), (.t 35)])) ( .step (oN 28 (.idx 2 (.t 26) (.t 27))) ( .step (oN 29 (.load true 2 (.t 28))) ( .step (oN 38 (.callq zG [(.t 29), (.t 36), (.t 37)])) ( .step (oN 9 (.mov (.t 38))) ( .done))))) ( .stop)))) ( .stop))) ( .alt (oN 33 (.idx 2 (.t 31) (.t 32))) ( .step (oN 34 (.load true 2 (.t 33))) ( .alt (oN 26 (.load false 1 (.t 25))) ( .alt (oN 28 (.idx 2 (.t 26) (.t 27))) ( .alt (oN 29 (.load true 2 (.t 28))) ( .alt (oN 36 (.call zN [(.t 34), (.t 35)])) ( .step (oN 38 (.callq zG [(.t 29), (.t 36), (.t 37)])) ( .step (oN 9 (.mov (.t 38))) ( .done))) ( .stop)) ( .alt (oN 36 (.call zN [(.t 34), (.t 35)])) ( .step (oN 29 (.load true 2 (.t 28))) ( .step (oN 38 (.callq zG [(.t 29), (.t 36), (.t 37)])) ( .step (oN 9 (.mov (.t 38))) ( .done)))) ( .stop))) ( .alt (oN 36 (.call zN [(.t 34), (.t 35)])) ( .step (oN 28 (.idx 2 (.t 26) (.t 27))) ( .step (oN 29 (.load true 2 (.t 28))) ( .step (oN 38 (.callq zG [(.t 29), (.t 36), (.t 37)])) ( .step (oN 9 (.mov (.t 38))) ( .done))))) ( .stop))) ( .alt (oN 36 (.call zN [(.t 34), (.t 35)])) ( .step (oN 26 (.load false 1 (.t 25))) ( .step (oN 28 (.idx 2 (.t 26) (.t 27))) ( .step (oN 29 (.load true 2 (.t 28))) ( .step (oN 38 (.callq zG [(.t 29), (.t 36), (.t 37)])) ( .step (oN 9 (.mov (.t 38))) ( .done)))))) ( .stop)))) ( .stop))) ( .stop))))))))) [22, 25, 26, 27, 28, 29, 30, 31, 32, 33, 34, 35, 36, 37, 38]) (zff))) (zdu))
def zhO : ACode := .seq (.seq (.region [ (oN 16 (.mov (.t 7)))] [7]) (.cond (.t 16) (.skip) (.exit 0))) (.block 1 (.seq (.region [ (oN 7 (.mov (.c (.bool false))))] [16]) (.seq (.region [ (oN 17 (.fldaddr 1 1 (.t 2))), (oN 18 (.load false 1 (.t 17))), (oN 19 (.len (.t 18))), (oN 20 (.bin .sub (.t 19) (.c (.int .i64 1)))), (oN 8 (.mov (.t 20)))] [17, 18, 19, 20]) (.block 2 (.loop zfk)))))
def zhM : ACode := .seq (.seq (.region [ (oN 55 (.mov (.t 11))), (oN 56 (.fldaddr 1 1 (.t 2))), (oN 57 (.load false 1 (.t 56))), (oN 58 (.len (.t 57))), (oN 59 (.bin .lss (.t 55) (.t 58)))] [55, 56, 57, 58]) (.cond (.t 59) (.skip) (.exit 4))) (.seq (.block 5 (.region [ (oN 62 (.mov (.t 10))), (oN 63 (.mov (.t 11))), (oN 64 (.fldaddr 1 1 (.t 2))), (oN 65 (.load false 1 (.t 64))), (oN 66 (.mov (.t 11))), (oN 67 (.idx 2 (.t 65) (.t 66))), (oN 68 (.load true 2 (.t 67))), (oN 69 (.mov (.t 6))), (oN 70 (.call zN [(.t 68), (.t 69)])), (oN 71 (.idx 1 (.t 62) (.t 63))), ⟨none, .store 1 (.t 71) (.t 70), none⟩] [59, 62, 63, 64, 65, 66, 67, 68, 69, 70, 71])) (.region [ (oN 60 (.mov (.t 11))), (oN 61 (.bin .add (.t 60) (.c (.int .i64 1)))), (oN 11 (.mov (.t 61)))] [60, 61]))
def zhW : ACode := .seq (.region [ (oN 72 (.mov (.t 6))), (oN 73 (.mov (.t 10))), (oN 4 (.mov (.t 72))), (oN 5 (.mov (.t 73)))] [2, 6, 10, 11, 72, 73]) (.ret)
def zhP : ACode := .seq (.region [ (oN 51 (.fldaddr 1 1 (.t 2))), (oN 52 (.load false 1 (.t 51))), (oN 53 (.len (.t 52))), (oN 54 (.mksl 1 24 [.nilsl] (.t 53) (.t 53))), (oN 10 (.mov (.t 54)))] [1, 7, 8, 51, 52, 53, 54]) (.seq (.seq (.region [ (oN 11 (.mov (.c (.int .i64 0))))] []) (.block 4 (.loop zhM))) (zhW))
def zkA : ACode := .seq (.region [ (oN 2 (.rbox (.t 0))), (oN 4 (.mknil 1)), (oN 5 (.mknil 1))] [0, 4, 5]) (.seq (.region [ (oN 12 (.fldaddr 1 1 (.t 2))), (oN 13 (.load false 1 (.t 12))), (oN 14 (.len (.t 13))), (oN 15 (.mksl 1 24 [.nilsl] (.t 14) (.t 14))), (oN 6 (.mov (.t 15)))] [12, 13, 14, 15]) (.seq (.seq (.region [ (oN 7 (.mov (.c (.bool true))))] []) (.block 0 (.loop zhO))) (zhP)))
def zk4 : List ARet := [.tmp 4, .tmp 5]
theorem zpl : zad Tryz.prog zju (qRoL [2] [(8, [0, 1, 2, 3, 4, 5, 6, 7, 8, 9, 10, 12, 13, 14, 15, 16, 17, 18, 19, 20, 21, 22, 23, 24, 25, 26, 27, 28, 29, 30, 31, 32, 33, 34, 35, 36, 37, 38, 39, 40, 41, 42, 43, 44, 45, 46, 47, 48, 49, 50, 51, 52, 53, 54, 55, 56, 57, 58, 59, 60, 61, 62, 63, 64, 65, 66, 67, 68, 69, 70, 71, 72, 73, 74, 75, 76, 77, 78, 79, 80, 81, 82, 83, 84, 85, 86, 87, 88, 89, 90, 91, 92, 93, 94, 95, 96, 97, 98, 99, 100, 101, 102, 103, 104, 105, 106, 107, 108, 109, 110, 111, 112, 113, 114, 115, 116, 117, 118, 119, 120, 121, 122, 123, 124, 125, 126, 127, 128, 129, 130, 131, 132, 133, 134, 135, 136, 137, 138, 139, 140, 141, 142, 143, 144, 145, 146, 147, 148, 149])]) = some (zkA.strip, zk4, 74) := by kernel_rfl
theorem znZ (b : Bl) (a exit : List Int) (hsz : ∀ s ∈ b.stmts, zw s.e ≤ 100000) (hl : b.stmts.length ≤ 1000000) (hroom : ∀ i, i ≤ b.stmts.length → (zcZ exit (b.stmts.drop i) a).length + exit.length ≤ 800000) :
    zD Tryz.prog zG [.agg b.cells, za a, za exit] (· = za (zer exit b.stmts a)) := by
  refine fn_x zn3 rfl ?_
  unfold zjP
  have hB := hBig
  obtain ⟨ad, l⟩ := b
  simp only at hsz hl hroom
  unfold zer
  simp only [Bl.cells]
  by_cases h0 : l.length = 0
  · rw [if_pos h0]
    (repeat first | simp (disch := try exact dis1) only [evD, Nat.reduceBEq, Nat.reduceAdd, Nat.reduceLeDiff, fldP, dT, zgK] | with_reducible intro _ | ((with_reducible apply And.intro); omega))
    exact ⟨_, zV (l := []) trivial rfl (by simp only [List.length_nil]; omega), rfl⟩
  rw [if_neg h0]
  (repeat first | simp (disch := try exact dis1) only [evD, Nat.reduceBEq, Nat.reduceAdd, Nat.reduceLeDiff, fldP, dF, za] | with_reducible intro _ | ((with_reducible apply And.intro); omega))
  have hz : zcZ exit (l.drop l.length) a = a := by rw [List.drop_length]; rfl
  refine zm (fun i : Nat => ([(1, za (zcZ exit (l.drop i) a)), (2, za exit), (3, encP 2 [.int .u32 ad, encL 8 St.cells l]), (7, .int .i64 ((i : Int) - 1))], [])) 0 (fun i => i ≤ l.length) (fun i => i) l.length (Nat.le_refl _) (by rw [hz]; exact (Ent.tab [] [] rfl (by (try simp only [evWB, Nat.reduceBEq, Nat.reduceAdd, Nat.reduceSub, Nat.reduceLeDiff, Nat.reduceLT, implies_true, za]) <;> exact fin2) (by (try simp only [evWB, Nat.reduceBEq, Nat.reduceAdd, Nat.reduceSub, Nat.reduceLeDiff, Nat.reduceLT, implies_true, za]) <;> exact fin2))) ?_
  rintro i hi wf
  unfold zhd
  rcases Nat.eq_zero_or_pos i with rfl | hp
  · rw [List.drop_zero]
    (repeat first | simp (disch := try exact dis1) only [evD, Nat.reduceBEq, Nat.reduceAdd, Nat.reduceLeDiff, dF, Int.natCast_zero] | with_reducible intro _ | ((with_reducible apply And.intro); omega))
    unfold zgS
    (repeat first | simp (disch := try exact dis1) only [evD, Nat.reduceBEq, Nat.reduceAdd, Nat.reduceLeDiff, zgK] | with_reducible intro _ | ((with_reducible apply And.intro); omega))
    exact ⟨_, zJ rfl, rfl⟩
  · obtain ⟨i, rfl⟩ : ∃ k, i = k + 1 := ⟨i - 1, by omega⟩
    have hil : i < l.length := by omega
    have hgl := zt (f := St.cells) (d := []) hil
    have ei : ((i + 1 : Nat) : Int) - 1 = i := by omega
    have hr := hroom (i + 1) (by omega)
    have hst : zcZ exit (l.drop i) a = zcu exit l[i] (zcZ exit (l.drop (i + 1)) a) := by rw [List.drop_eq_getElem_cons hil]; rfl
    have hb := znw l[i] (zcZ exit (l.drop (i + 1)) a) exit (hsz _ (List.getElem_mem hil)) hr
    rw [← hst] at hb
    generalize zcZ exit (l.drop (i + 1)) a = c at hb ⊢
    (repeat first | simp (disch := try exact dis1) only [evD, Nat.reduceBEq, Nat.reduceAdd, Nat.reduceLeDiff, ei, dT, hgl, fldP, St.len, St.eight] | with_reducible intro _ | ((with_reducible apply And.intro); omega))
    refine zn (zo hb rfl) ?_
    (repeat first | simp (disch := try exact dis1) only [evD, Nat.reduceBEq, Nat.reduceAdd, Nat.reduceLeDiff] | with_reducible intro _ | ((with_reducible apply And.intro); omega))
    exact ⟨i, by omega, by omega, (Ent.tab [] [] rfl (by (try simp only [evWB, Nat.reduceBEq, Nat.reduceAdd, Nat.reduceSub, Nat.reduceLeDiff, Nat.reduceLT, implies_true, za]) <;> exact fin2) (by (try simp only [evWB, Nat.reduceBEq, Nat.reduceAdd, Nat.reduceSub, Nat.reduceLeDiff, Nat.reduceLT, implies_true, za]) <;> exact fin2))⟩
theorem zry (b : Bl) (ins : List (List Int)) (hn : ins.length ≤ 1000000) (ht : (zz b.stmts).length ≤ 1000000)
    (hroom : ∀ i j, i ≤ (zz b.stmts).length → (((zz b.stmts).take i).foldl (endT ins) []).length + (ins.getD j []).length ≤ 1000000) :
    zS Tryz.prog zN [.agg b.cells, .own 0 0 0 0 ins.length] [(0, .row 1 (ins.map cLL) 0)] 1
      (fun v H nx => v = za (endB ins b.stmts) ∧ H = [(0, .row 1 (ins.map cLL) 0)] ∧ nx = 1) := by
  refine zbD (fn_x zrx rfl ?_)
  unfold zmO
  have hB := hBig
  have hsc := zjA b
  unfold endB
  generalize zz b.stmts = ts at ht hroom hsc ⊢
  obtain ⟨ad, l⟩ := b
  simp only [Bl.cells] at hsc ⊢
  (repeat first | simp (disch := try exact dis1) only [evD, Nat.reduceBEq, Nat.reduceAdd, Nat.reduceLeDiff, fldP] | with_reducible intro _ | ((with_reducible apply And.intro); omega))
  refine zn (zo hsc rfl) ?_
  (repeat first | simp (disch := try exact dis1) only [evD, Nat.reduceBEq, Nat.reduceAdd, Nat.reduceLeDiff] | with_reducible intro _ | ((with_reducible apply And.intro); omega))
  have hml : (ins.map cLL).length = ins.length := List.length_map _
  have hv1 : ∀ {H HH : AH} {σ : Nat → Nat → Option (Nat × Nat × Nat)}, H.get 2 0 = some (.row 1 [] 0) → Vw H HH σ (inD [2]) true (.own 2 0 0 0 0) (za ((ts.take 0).foldl (endT ins) [])) := fun h => zV (l := []) rfl h (by simp [big])
  refine zm (fun i : Nat => ([(1, .own 0 0 0 0 ins.length), (5, za ((ts.take i).foldl (endT ins) [])), (6, za ts), (7, .int .i64 i)], [(0, .row 1 (ins.map cLL) 0)])) 1 (fun i => i ≤ ts.length) (fun i => ts.length - i) 0 (Nat.zero_le _) (Ent.tabB [(0, 0, 0)] [2] rfl rfl rfl ⟨rfl, ⟨_, rfl, RowV.of_flat (zg (fun _ => rfl))⟩, trivial⟩ ⟨.own _ _ _ 0 _ _ _ _ _ rfl rfl, hv1 rfl, zJ rfl, .int _ _ _, trivial⟩) ?_
  rintro i hi wf
  unfold ziR
  by_cases hil : i < ts.length
  · have hgl := zt (f := cI) (d := []) hil
    have hst : (ts.take (i + 1)).foldl (endT ins) [] = endT ins ((ts.take i).foldl (endT ins) []) ts[i] := zg2 hil
    have hr := fun j => hroom i j hi
    generalize (ts.take i).foldl (endT ins) [] = a at hst hr ⊢
    generalize ts[i] = t at hgl hst
    by_cases hin : 0 ≤ t ∧ t < ins.length
    · obtain ⟨t', rfl⟩ := Int.eq_ofNat_of_zero_le hin.1
      have htl : t' < ins.length := by omega
      have e1 : endT ins a (t' : Int) = zaD a ins[t'] := by unfold endT; rw [if_pos hin, List.getD_eq_getElem?_getD, Int.toNat_natCast, List.getElem?_eq_getElem htl]; rfl
      rw [e1] at hst
      have hrt := hr t'
      rw [List.getD_eq_getElem?_getD, List.getElem?_eq_getElem htl] at hrt
      have hgc : (ins.map cLL).getD t' [] = [za ins[t']] := zt (f := cLL) (d := []) htl
      (repeat first | simp (disch := try exact dis1) only [evD, Nat.reduceBEq, Nat.reduceAdd, Nat.reduceLeDiff, dT, za, hgl, hgc, hml] | with_reducible intro _ | ((with_reducible apply And.intro); omega))
      refine zn (zo (zfb a ins[t'] hrt) rfl) ?_
      (repeat first | simp (disch := try exact dis1) only [evD, Nat.reduceBEq, Nat.reduceAdd, Nat.reduceLeDiff] | with_reducible intro _ | ((with_reducible apply And.intro); omega))
      exact ⟨i + 1, by omega, by omega, (Ent.tabB [(0, 0, 0)] [] rfl rfl rfl (by (try simp only [evWB, Nat.reduceBEq, Nat.reduceAdd, Nat.reduceSub, Nat.reduceLeDiff, Nat.reduceLT, implies_true, za, hst]) <;> exact fin2) (by (try simp only [evWB, Nat.reduceBEq, Nat.reduceAdd, Nat.reduceSub, Nat.reduceLeDiff, Nat.reduceLT, implies_true, za, hst]) <;> exact fin2))⟩
    · have e1 : endT ins a t = a := if_neg hin
      rw [e1] at hst
      by_cases h0 : 0 ≤ t
      · have h1 : ¬ t < ins.length := by omega
        (repeat first | simp (disch := try exact dis1) only [evD, Nat.reduceBEq, Nat.reduceAdd, Nat.reduceLeDiff, dT, dF, za, hgl, hml] | with_reducible intro _ | ((with_reducible apply And.intro); omega))
        exact ⟨i + 1, by omega, by omega, (Ent.tabB [(0, 0, 0)] [] rfl rfl rfl (by (try simp only [evWB, Nat.reduceBEq, Nat.reduceAdd, Nat.reduceSub, Nat.reduceLeDiff, Nat.reduceLT, implies_true, za, hst]) <;> exact fin2) (by (try simp only [evWB, Nat.reduceBEq, Nat.reduceAdd, Nat.reduceSub, Nat.reduceLeDiff, Nat.reduceLT, implies_true, za, hst]) <;> exact fin2))⟩
      · (repeat first | simp (disch := try exact dis1) only [evD, Nat.reduceBEq, Nat.reduceAdd, Nat.reduceLeDiff, dT, dF, za, hgl, hml] | with_reducible intro _ | ((with_reducible apply And.intro); omega))
        exact ⟨i + 1, by omega, by omega, (Ent.tabB [(0, 0, 0)] [] rfl rfl rfl (by (try simp only [evWB, Nat.reduceBEq, Nat.reduceAdd, Nat.reduceSub, Nat.reduceLeDiff, Nat.reduceLT, implies_true, za, hst]) <;> exact fin2) (by (try simp only [evWB, Nat.reduceBEq, Nat.reduceAdd, Nat.reduceSub, Nat.reduceLeDiff, Nat.reduceLT, implies_true, za, hst]) <;> exact fin2))⟩
  · rw [List.take_of_length_le (by omega)]
    (repeat first | simp (disch := try exact dis1) only [evD, Nat.reduceBEq, Nat.reduceAdd, Nat.reduceLeDiff, dF, za] | with_reducible intro _ | ((with_reducible apply And.intro); omega))
    unfold ziO
    (repeat first | simp (disch := try exact dis1) only [evD, Nat.reduceBEq, Nat.reduceAdd, Nat.reduceLeDiff, zmn] | with_reducible intro _ | ((with_reducible apply And.intro); omega))
    exact ⟨za (ts.foldl (endT ins) []), [(0, .row 1 (ins.map cLL) 0)], 1, (Ent.tabB [(0, 0, 0)] [] rfl rfl rfl (by (try simp only [evWB, Nat.reduceBEq, Nat.reduceAdd, Nat.reduceSub, Nat.reduceLeDiff, Nat.reduceLT, implies_true, za]) <;> exact fin2) (by (try simp only [evWB, Nat.reduceBEq, Nat.reduceAdd, Nat.reduceSub, Nat.reduceLeDiff, Nat.reduceLT, implies_true, za]) <;> exact fin2)), rfl, rfl, rfl⟩
theorem zps {U l : List Int} (hl : Asc l) (h : ∀ x ∈ l, x ∈ U) : l.length ≤ U.length := List.Nodup.length_le_of_subset (ziL hl) h
structure FewV (exit : List Int) (bl : List Bl) : Prop where
  sz : ∀ b ∈ bl, ∀ s ∈ b.stmts, zw s.e ≤ 100000
  len : bl.length ≤ 1000000
  stmts : ∀ b ∈ bl, b.stmts.length ≤ 1000000
  ts : ∀ b ∈ bl, (zz b.stmts).length ≤ 1000000
  uni : (univ exit bl).length + exit.length ≤ 400000
theorem FewV.end {exit : List Int} {bl : List Bl} (h : FewV exit bl) {ins : List (List Int)} (hi : LInvU exit bl ins) {b : Bl} (hb : b ∈ bl) :
    zS Tryz.prog zN [.agg b.cells, .own 0 0 0 0 ins.length] [(0, .row 1 (ins.map cLL) 0)] 1
      (fun v H nx => v = za (endB ins b.stmts) ∧ H = [(0, .row 1 (ins.map cLL) 0)] ∧ nx = 1) := by
  have hu := h.uni
  refine zry b ins (by rw [hi.len]; exact h.len) (h.ts b hb) fun i j _ => ?_
  have h1 := zps (U := univ exit bl) (zk3 (ins := ins) (ts := (zz b.stmts).take i) (a := []) (by simp [Asc])) fun x hx => by
    rcases zlq.1 hx with h2 | ⟨t, _, _, h3⟩
    · cases h2
    · exact hi.uni _ x h3
  have h2 := zps (hi.asc j) (hi.uni j)
  omega
theorem zoP {exit : List Int} {bl : List Bl} {b : Bl} (hb : b ∈ bl) {s : St} (hs : s ∈ b.stmts) : ∀ x ∈ zb6 s, x ∈ univ exit bl := fun x hx =>
  List.mem_append_right _ (List.mem_flatMap.2 ⟨b, hb, List.mem_flatMap.2 ⟨s, hs, hx⟩⟩)
theorem zlz {exit : List Int} {bl : List Bl} {a : List Int} (ha : ∀ x ∈ a, x ∈ univ exit bl) : ∀ {l : List St}, (∀ s ∈ l, ∀ x ∈ zb6 s, x ∈ univ exit bl) → ∀ x ∈ zcZ exit l a, x ∈ univ exit bl
  | [], _, x, hx => ha x hx
  | s :: l, h, x, hx => by
    have hx : x ∈ zcu exit s (zcZ exit l a) := hx
    rcases zeH.1 hx with ⟨h1, _⟩ | h1 | ⟨_, h1⟩
    · exact zlz ha (fun s hs => h s (List.mem_cons_of_mem _ hs)) x h1
    · exact h s (by simp) x h1
    · exact List.mem_append_left _ h1
theorem FewV.begin {exit : List Int} {bl : List Bl} (h : FewV exit bl) {a : List Int} (ha : Asc a) (hu : ∀ x ∈ a, x ∈ univ exit bl) {b : Bl} (hb : b ∈ bl) :
    zD Tryz.prog zG [.agg b.cells, za a, za exit] (· = za (zer exit b.stmts a)) := by
  have h0 := h.uni
  refine znZ b a exit (h.sz b hb) (h.stmts b hb) fun i _ => ?_
  have := zps (U := univ exit bl) (zjD (exit := exit) (l := b.stmts.drop i) ha) (zlz hu fun s hs => zoP hb (List.mem_of_mem_drop hs))
  omega
theorem zul {exit : List Int} {bl : List Bl} {ins : List (List Int)} (hi : LInvU exit bl ins) {l : List St} : ∀ x ∈ endB ins l, x ∈ univ exit bl := fun x hx => by
  obtain ⟨t, _, _, h3⟩ := zea.1 hx
  exact hi.uni _ x h3
theorem renL {ρ : Nat → Nat} {l : List (List Int)} {g : Nat} : AObj.ren ρ (.row 1 (l.map cLL) g) = .row 1 (l.map cLL) g := by
  simp only [AObj.ren]
  rw [zfU (zg zvP)]
theorem zt5 {ins : List (List Int)} {k : Nat} {nw : List Int} : (ins.map cLL).set k [encL 1 (fun n => [.int .i64 n]) nw] = (ins.set k nw).map cLL := by
  rw [List.map_set]
  rfl
theorem rl_m0 {Q : QT} (exit : List Int) (bl : List Bl) (ad : Int) (ins : List (List Int)) (nw : List Int) (k : Nat) (hki : k < ins.length) (hil : ins.length = bl.length) (hlen : bl.length ≤ 1000000) (c : Bool)
    (hfin : ∀ K H nx, Ent 0 K H nx [(1, za exit), (2, encP 2 [.int .u32 ad, encL 2 Bl.cells bl]), (6, .own 0 0 0 0 bl.length), (7, .bool (if nw.length = ins[k].length then c else true)), (8, .int .i64 ((k : Int) - 1))] [(0, .row 1 ((if nw.length = ins[k].length then ins else ins.set k nw).map cLL) 0)] 1 → Q .normal K H nx) :
    wpX Tryz.prog 0 zff (za3 3 (seqQ Tryz.prog 0 zdu Q)) [(1, za exit), (2, encP 2 [.int .u32 ad, encL 2 Bl.cells bl]), (6, .own 0 0 0 0 bl.length), (7, .bool c), (8, .int .i64 k), (9, za nw)] [(0, .row 1 (ins.map cLL) 0)] 2 := by
  have hB := hBig
  have hml : (ins.map cLL).length = bl.length := by rw [List.length_map]; exact hil
  have hgi : (ins.map cLL).getD k [] = [za ins[k]] := zt (f := cLL) (d := []) hki
  unfold zff
  by_cases hq : nw.length = ins[k].length
  · simp only [if_pos hq] at hfin
    (repeat first | simp (disch := try exact dis1) only [evD, Nat.reduceBEq, Nat.reduceAdd, Nat.reduceLeDiff, za, hgi, hml, dF] | with_reducible intro _ | ((with_reducible apply And.intro); omega))
    unfold zdu
    (repeat first | simp (disch := try exact dis1) only [evD, Nat.reduceBEq, Nat.reduceAdd, Nat.reduceLeDiff] | with_reducible intro _ | ((with_reducible apply And.intro); omega))
    refine hfin _ _ _ ?_
    exact (Ent.tab [(0, 0, 0)] [] rfl (by (try simp only [evWB, Nat.reduceBEq, Nat.reduceAdd, Nat.reduceSub, Nat.reduceLeDiff, Nat.reduceLT, implies_true, za]) <;> exact fin2) (by (try simp only [evWB, Nat.reduceBEq, Nat.reduceAdd, Nat.reduceSub, Nat.reduceLeDiff, Nat.reduceLT, implies_true, za]) <;> exact fin2))
  · simp only [if_neg hq] at hfin
    (repeat first | simp (disch := try exact dis1) only [evD, Nat.reduceBEq, Nat.reduceAdd, Nat.reduceLeDiff, za, hgi, hml, dT] | with_reducible intro _ | ((with_reducible apply And.intro); omega))
    unfold zdu
    (repeat first | simp (disch := try exact dis1) only [evD, Nat.reduceBEq, Nat.reduceAdd, Nat.reduceLeDiff] | with_reducible intro _ | ((with_reducible apply And.intro); omega))
    refine hfin _ _ _ ?_
    exact (Ent.tab [(0, 0, 0)] [] rfl (by (try simp only [evWB, Nat.reduceBEq, Nat.reduceAdd, Nat.reduceSub, Nat.reduceLeDiff, Nat.reduceLT, implies_true, za, zt5]) <;> exact fin2) (by (try simp only [evWB, Nat.reduceBEq, Nat.reduceAdd, Nat.reduceSub, Nat.reduceLeDiff, Nat.reduceLT, implies_true, za, zt5]) <;> exact fin2))
theorem rl_l1 {Q : QT} (exit : List Int) (bl : List Bl) (ad : Int) (hf : FewV exit bl) (R ins0 : List (List Int)) (h0 : LInvU exit bl ins0) (hR : zdJ exit bl bl.length ins0 = R)
    (hfin : ∀ K H nx, Ent 0 K H nx [(1, za exit), (2, encP 2 [.int .u32 ad, encL 2 Bl.cells bl]), (6, .own 0 0 0 0 bl.length), (7, .bool (decide (zaB ins0 < zaB R)))] [(0, .row 1 (R.map cLL) 0)] 1 → Q .normal K H nx)
    {K : Kn} {H : AH} {nx : Nat} (hent : Ent 0 K H nx [(1, za exit), (2, encP 2 [.int .u32 ad, encL 2 Bl.cells bl]), (6, .own 0 0 0 0 bl.length), (7, .bool false), (8, .int .i64 ((bl.length : Int) - 1))] [(0, .row 1 (ins0.map cLL) 0)] 1) :
    zhD Tryz.prog 0 zfk (za3 2 Q) K H nx := by
  have hB := hBig
  have hlen := hf.len
  refine zm (fun a : Nat × List (List Int) => ([(1, za exit), (2, encP 2 [.int .u32 ad, encL 2 Bl.cells bl]), (6, .own 0 0 0 0 bl.length), (7, .bool (decide (zaB ins0 < zaB a.2))), (8, .int .i64 ((a.1 : Int) - 1))], [(0, .row 1 (a.2.map cLL) 0)])) 1
    (fun a => a.1 ≤ bl.length ∧ zdJ exit bl a.1 a.2 = R ∧ LInvU exit bl a.2 ∧ zaB ins0 ≤ zaB a.2) (fun a => a.1) (bl.length, ins0) ⟨Nat.le_refl _, hR, h0, Nat.le_refl _⟩ (by rw [dF (Nat.lt_irrefl _)]; exact hent) ?_
  rintro ⟨k, ins⟩ ⟨hk, hgo, hinv, htot⟩ wf
  simp only at hk hgo hinv htot
  have hil := hinv.len
  have hml : (ins.map cLL).length = bl.length := by rw [List.length_map]; exact hil
  unfold zfk
  rcases Nat.eq_zero_or_pos k with rfl | hp
  · have hgo : ins = R := hgo
    subst hgo
    (repeat first | simp (disch := try exact dis1) only [evD, Nat.reduceBEq, Nat.reduceAdd, Nat.reduceLeDiff, dF, Int.natCast_zero] | with_reducible intro _ | ((with_reducible apply And.intro); omega))
    refine hfin _ _ _ ?_
    exact (Ent.tab [(0, 0, 0)] [] rfl (by (try simp only [evWB, Nat.reduceBEq, Nat.reduceAdd, Nat.reduceSub, Nat.reduceLeDiff, Nat.reduceLT, implies_true, za]) <;> exact fin2) (by (try simp only [evWB, Nat.reduceBEq, Nat.reduceAdd, Nat.reduceSub, Nat.reduceLeDiff, Nat.reduceLT, implies_true, za]) <;> exact fin2))
  · obtain ⟨k, rfl⟩ : ∃ j, k = j + 1 := ⟨k - 1, by omega⟩
    have hkl : k < bl.length := by omega
    have hki : k < ins.length := by omega
    have hgl := zt (f := Bl.cells) (d := []) hkl
    have hgi : (ins.map cLL).getD k [] = [za ins[k]] := zt (f := cLL) (d := []) hki
    have ei : ((k + 1 : Nat) : Int) - 1 = k := by omega
    have hbk : (bl.map (·.stmts)).getD k [] = bl[k].stmts := zt hkl
    have hgk : ins.getD k [] = ins[k] := by rw [List.getD_eq_getElem?_getD, List.getElem?_eq_getElem hki]; rfl
    have hgo : zdJ exit bl k (zdC exit bl ins k) = R := hgo
    have hst := hinv.step hkl
    obtain ⟨ts1, ts2⟩ := hinv.total_step hkl
    have hset := ziP ins k (newB exit bl ins k) hki
    have hend := hf.end hinv (List.getElem_mem hkl)
    have hbeg := hf.begin (a := endB ins bl[k].stmts) znb (zul hinv) (List.getElem_mem hkl)
    have hnew : newB exit bl ins k = zer exit bl[k].stmts (endB ins bl[k].stmts) := by unfold newB; rw [hbk]
    rw [← hnew] at hbeg
    have hcell : bl[k].cells.length = 2 := rfl
    have htwo := Bl.two bl[k]
    have hsub := zie (hinv.asc k) (zht (exit := exit) (g := bl) (ins := ins) (i := k)) (hinv.sub k)
    rw [hgk] at hset hsub
    rw [hil] at hend
    generalize endB ins bl[k].stmts = e at hend hbeg
    unfold zdC at hgo hst ts1 ts2
    rw [hgk] at hgo hst ts1 ts2
    generalize newB exit bl ins k = nw at hbeg hgo hst ts1 ts2 hset hsub
    (repeat first | simp (disch := try exact dis1) only [evD, Nat.reduceBEq, Nat.reduceAdd, Nat.reduceLeDiff, ei, dT, hgl, fldP, hcell, htwo] | with_reducible intro _ | ((with_reducible apply And.intro); omega))
    (repeat' with_reducible apply And.intro)
    all_goals try omega
    all_goals (refine zL [(0, 0, 0)] 1 _ (hend) rfl rfl (by (try simp only [evWB, Nat.reduceBEq, Nat.reduceAdd, Nat.reduceSub, Nat.reduceLeDiff, Nat.reduceLT, implies_true]) <;> exact fin6) (by (try simp only [evWB, Nat.reduceBEq, Nat.reduceAdd, Nat.reduceSub, Nat.reduceLeDiff, Nat.reduceLT, implies_true]) <;> exact fin6) ?_; rintro _ _ _ ⟨rfl, rfl, rfl⟩; (repeat first | simp (disch := try exact dis1) only [evD, Nat.reduceBEq, Nat.reduceAdd, Nat.reduceLeDiff, renE, renL, hgl, htwo] | with_reducible intro _ | ((with_reducible apply And.intro); omega)))
    all_goals (refine zaZ (zo hbeg rfl) ?_; (repeat first | simp (disch := try exact dis1) only [evD, Nat.reduceBEq, Nat.reduceAdd, Nat.reduceLeDiff] | with_reducible intro _ | ((with_reducible apply And.intro); omega)))
    all_goals refine rl_m0 exit bl ad ins nw k hki hil hlen _ ?_
    all_goals (intro K2 H2 nx2 he)
    all_goals (by_cases hq : nw.length = ins[k].length)
    all_goals first
      | (rw [if_pos hq] at hgo; simp only [if_pos hq] at he; exact ⟨(k, ins), ⟨by simp only; omega, hgo, hinv, htot⟩, by simp only; omega, he⟩)
      | (rw [if_neg hq] at hgo hst; simp only [if_neg hq] at he; rw [← dT (show zaB ins0 < zaB (ins.set k nw) by omega)] at he; exact ⟨(k, ins.set k nw), ⟨by simp only; omega, hgo, hst, by simp only; omega⟩, by simp only; omega, he⟩)
structure RunL (exit : List Int) (bl : List Bl) (ins : List (List Int)) (k : Nat) (c : Bool) : Prop where
  inv : LInvU exit bl ins
  fuel : zeV exit bl ≤ k + zaB ins
  go : fixL exit bl k ins = zbB exit bl
  done : c = false → ins = zbB exit bl
theorem RunL.next {exit : List Int} {bl : List Bl} {ins : List (List Int)} {k : Nat} (h : RunL exit bl ins k true) :
    ∃ k', RunL exit bl (zdJ exit bl bl.length ins) k' (decide (zaB ins < zaB (zdJ exit bl bl.length ins))) ∧
      2 * (zeV exit bl - zaB (zdJ exit bl bl.length ins)) + (bif decide (zaB ins < zaB (zdJ exit bl bl.length ins)) then 1 else 0) < 2 * (zeV exit bl - zaB ins) + (bif true then 1 else 0) := by
  obtain ⟨i1, i2, i3⟩ := h.inv.pass (n := bl.length) (Nat.le_refl _)
  have hb := h.inv.bound
  have hb2 := i1.bound
  have hbd : zeV exit bl = bl.length * (univ exit bl).length + 1 := rfl
  have hfu := h.fuel
  have hgo := h.go
  cases k with
  | zero => omega
  | succ k =>
  rw [fixL] at hgo
  by_cases he : zaB (zdJ exit bl bl.length ins) = zaB ins
  · rw [if_pos he] at hgo
    obtain ⟨e1, e2⟩ := i3 he.symm
    rw [e1, dF (Nat.lt_irrefl _)]
    refine ⟨k + 1, ⟨h.inv, hfu, ?_, fun _ => hgo⟩, ?_⟩
    · rw [fixL, if_pos he]; exact hgo
    · simp only [cond_true, cond_false]; omega
  · rw [if_neg he] at hgo
    rw [dT (show zaB ins < zaB (zdJ exit bl bl.length ins) by omega)]
    refine ⟨k, ⟨i1, by omega, hgo, fun hx => by cases hx⟩, ?_⟩
    simp only [cond_true]
    omega
theorem rowNil {bl : List Bl} {H HH : AH} {σ : Nat → Nat → Option (Nat × Nat × Nat)} {D : Nat → Nat → Prop} : RowV H HH σ D (List.replicate bl.length [.nilsl]) ((bl.map fun _ => ([] : List Int)).map cLL) := by
  refine ⟨by simp, fun i c2 hi => ?_⟩
  simp only [List.getElem?_map, Option.map_eq_some_iff] at hi
  obtain ⟨a, ⟨b, hb, rfl⟩, rfl⟩ := hi
  obtain ⟨hl, _⟩ := List.getElem?_eq_some_iff.1 hb
  refine ⟨[.nilsl], by simp [hl], rfl, fun j x y h1 h2 => ?_⟩
  cases j with
  | succ j => cases h1
  | zero => cases h1; cases h2; exact .nil0 _ _ _
theorem zqG (g : G) (exit : List Int) (hf : FewV exit g.blocks) : zD Tryz.prog zju [.agg g.cells, za exit] (· = .tup [zdk (zbB exit g.blocks), zdk (zkc exit g.blocks)]) := by
  refine fn_x zpl rfl ?_
  unfold zkA
  have hB := hBig
  have hlen := hf.len
  obtain ⟨ad, bl⟩ := g
  simp only at hf hlen ⊢
  (repeat first | simp (disch := try exact dis1) only [evD, Nat.reduceBEq, Nat.reduceAdd, Nat.reduceLeDiff, fldP, G.cells, za] | with_reducible intro _ | ((with_reducible apply And.intro); omega))
  have hcl : ∀ {α : Type} {f : α → List Int}, True := trivial
  refine zm (fun a : List (List Int) × Nat × Bool => ([(1, za exit), (2, encP 2 [.int .u32 ad, encL 2 Bl.cells bl]), (6, .own 0 0 0 0 bl.length), (7, .bool a.2.2)], [(0, .row 1 (a.1.map cLL) 0)])) 1
    (fun a => RunL exit bl a.1 a.2.1 a.2.2) (fun a => 2 * (zeV exit bl - zaB a.1) + (bif a.2.2 then 1 else 0)) (bl.map fun _ => [], zeV exit bl, true) ⟨zkV exit bl, by simp only; omega, rfl, fun h => by cases h⟩
    (Ent.tab [(0, 2, 0)] [] rfl ⟨rfl, ⟨_, rfl, rowNil⟩, trivial⟩ ⟨zJ rfl, zJ rfl, .own _ _ _ 0 _ _ _ _ _ rfl rfl, .bool _ _, trivial⟩) ?_
  rintro ⟨ins, k, c⟩ hrun wf
  simp only at hrun
  unfold zhO
  cases c with
  | true =>
    obtain ⟨k', h1, h2⟩ := hrun.next
    (repeat first | simp (disch := try exact dis1) only [evD, Nat.reduceBEq, Nat.reduceAdd, Nat.reduceLeDiff, fldP] | with_reducible intro _ | ((with_reducible apply And.intro); omega))
    refine rl_l1 exit bl ad hf _ ins hrun.inv rfl ?_ ?_
    · intro K2 H2 nx2 he
      exact ⟨(_, k', _), h1, h2, he⟩
    · exact (Ent.tab [(0, 0, 0)] [] rfl (by (try simp only [evWB, Nat.reduceBEq, Nat.reduceAdd, Nat.reduceSub, Nat.reduceLeDiff, Nat.reduceLT, implies_true, za]) <;> exact fin2) (by (try simp only [evWB, Nat.reduceBEq, Nat.reduceAdd, Nat.reduceSub, Nat.reduceLeDiff, Nat.reduceLT, implies_true, za]) <;> exact fin2))
  | false =>
    have hd := hrun.done rfl
    have hinv := hrun.inv
    subst hd
    have hil := hinv.len
    (repeat first | simp (disch := try exact dis1) only [evD, Nat.reduceBEq, Nat.reduceAdd, Nat.reduceLeDiff] | with_reducible intro _ | ((with_reducible apply And.intro); omega))
    unfold zhP
    (repeat first | simp (disch := try exact dis1) only [evD, Nat.reduceBEq, Nat.reduceAdd, Nat.reduceLeDiff, fldP] | with_reducible intro _ | ((with_reducible apply And.intro); omega))
    refine zm (fun i : Nat => ([(2, encP 2 [.int .u32 ad, encL 2 Bl.cells bl]), (6, .own 0 0 0 0 bl.length), (10, .own 1 0 0 0 bl.length), (11, .int .i64 i)], [(0, .row 1 ((zbB exit bl).map cLL) 0), (1, .row 1 (rowI (zaS exit bl) bl.length i) 0)])) 2
      (fun i => i ≤ bl.length) (fun i => bl.length - i) 0 (Nat.zero_le _) (Ent.tab [(0, 0, 0), (1, 1, 0)] [] rfl (by (try simp only [evWB, Nat.reduceBEq, Nat.reduceAdd, Nat.reduceSub, Nat.reduceLeDiff, Nat.reduceLT, implies_true, ← za4]) <;> exact fin6) (by (try simp only [evWB, Nat.reduceBEq, Nat.reduceAdd, Nat.reduceSub, Nat.reduceLeDiff, Nat.reduceLT, implies_true, ← za4]) <;> exact fin6)) ?_
    rintro i hi wf2
    unfold zhM
    by_cases hl : i < bl.length
    · have hgl := zt (f := Bl.cells) (d := []) hl
      have hcell : bl[i].cells.length = 2 := rfl
      have htwo := Bl.two bl[i]
      have hbk : (bl.map (·.stmts)).getD i [] = bl[i].stmts := zt hl
      have hend := hf.end hinv (List.getElem_mem hl)
      have ho : endB (zbB exit bl) bl[i].stmts = zaS exit bl i := by unfold zaS; rw [hbk]
      rw [ho, hil] at hend
      (repeat first | simp (disch := try exact dis1) only [evD, Nat.reduceBEq, Nat.reduceAdd, Nat.reduceLeDiff, dT, hgl, fldP, hcell, htwo] | with_reducible intro _ | ((with_reducible apply And.intro); omega))
      refine zL [(0, 0, 0)] 1 _ (hend) rfl rfl (by (try simp only [evWB, Nat.reduceBEq, Nat.reduceAdd, Nat.reduceSub, Nat.reduceLeDiff, Nat.reduceLT, implies_true]) <;> exact fin6) (by (try simp only [evWB, Nat.reduceBEq, Nat.reduceAdd, Nat.reduceSub, Nat.reduceLeDiff, Nat.reduceLT, implies_true]) <;> exact fin6) ?_
      rintro _ _ _ ⟨rfl, rfl, rfl⟩
      (repeat first | simp (disch := try exact dis1) only [evD, Nat.reduceBEq, Nat.reduceAdd, Nat.reduceLeDiff, renE, renL, zqT] | with_reducible intro _ | ((with_reducible apply And.intro); omega))
      refine ⟨⟨hl, rfl, rfl⟩, i + 1, by omega, by omega, ?_⟩
      exact (Ent.tab [(0, 0, 0), (1, 1, 0)] [] rfl (by (try simp only [evWB, Nat.reduceBEq, Nat.reduceAdd, Nat.reduceSub, Nat.reduceLeDiff, Nat.reduceLT, implies_true, zdH]) <;> exact fin6) (by (try simp only [evWB, Nat.reduceBEq, Nat.reduceAdd, Nat.reduceSub, Nat.reduceLeDiff, Nat.reduceLT, implies_true, zdH]) <;> exact fin6))
    · obtain rfl : i = bl.length := by omega
      (repeat first | simp (disch := try exact dis1) only [evD, Nat.reduceBEq, Nat.reduceAdd, Nat.reduceLeDiff, dF, fldP] | with_reducible intro _ | ((with_reducible apply And.intro); omega))
      unfold zhW
      (repeat first | simp (disch := try exact dis1) only [evD, Nat.reduceBEq, Nat.reduceAdd, Nat.reduceLeDiff, zk4] | with_reducible intro _ | ((with_reducible apply And.intro); omega))
      rw [zkM]
      refine ⟨.tup [zdk (zbB exit bl), zdk (zkc exit bl)], .tup _ _ _ rfl ?_, rfl⟩
      intro k x y h1 h2
      rcases k with _ | _ | k
      · cases h1; cases h2
        have := @zkm [(0, .row 1 ((zbB exit bl).map cLL) 0), (1, .row 1 ((zkc exit bl).map cLL) 0)] [] nos allR false 0 0 0 (zbB exit bl) trivial rfl (by omega)
        rw [hil] at this
        exact this
      · cases h1; cases h2
        have hol : (zkc exit bl).length = bl.length := by simp [zkc]
        have := @zkm [(0, .row 1 ((zbB exit bl).map cLL) 0), (1, .row 1 ((zkc exit bl).map cLL) 0)] [] nos allR false 1 0 0 (zkc exit bl) trivial rfl (by omega)
        rw [hol] at this
        exact this
      · cases h1
theorem zjW : ∀ (l : List St) (h : l.length - 1 < l.length), zlk l = (zlV (l[l.length - 1]'h) && !((l.take (l.length - 1)).any zlV))
  | [], h => by simp at h
  | [x], h => by
    rw [zlk, zlk]
    simp
  | x :: y :: l, h => by
    have ih := zjW (y :: l) (by simp)
    rw [zlk, ih]
    simp only [List.length_cons, Nat.add_sub_cancel, List.isEmpty_cons, List.take_succ_cons, List.any_cons]
    have e : (x :: y :: l)[l.length + 1] = (y :: l)[l.length] := rfl
    rw [e]
    cases zlV x <;> cases zlV (y :: l)[l.length] <;> simp
theorem zwS {α : Type} {f : α → List AV} {H H2 : AH} {σ : Nat → Nat → Option (Nat × Nat × Nat)} {D : Nat → Nat → Prop} {t : Bool} {l : List α} {sz i n z : Nat} (hi : i ≤ l.length) (hn : n = i) (hz : z = 0) (hf : ∀ a, zE (f a) = true) :
    Vw H H2 σ D t (.sl sz n (fun a j => ((l.map f).getD (z + a) []).getD j .undef)) (encL sz f (l.take i)) := by
  subst hn hz
  have e : (l.take n).length = n := by rw [List.length_take]; omega
  unfold encL
  rw [e]
  refine .slf _ _ _ _ _ (fun a j ha hj => ?_)
  have e2 : (List.map f (List.take n l)).getD a [] = (l.map f).getD (0 + a) [] := by
    rw [Nat.zero_add, List.map_take, List.getD_eq_getElem?_getD, List.getElem?_take_of_lt ha, List.getD_eq_getElem?_getD]
  rw [e2, zt (show 0 + a < l.length by omega), List.getD_eq_getElem?_getD]
  cases hx : (f l[0 + a])[j]? with
  | none => exact .undef _ _
  | some x => exact zb2 (zaF (hf _) hx)
theorem zmI (l : List St) : PredT (.fn (.func zbX) []) l zlV := ⟨_, _, rfl, by kernel_rfl, rfl, fun s _ => zge s⟩
theorem zlW (t ad : Int) (l : List Bl) : zD Tryz.prog zed [.int .i64 t, encP 2 [.int .u32 ad, encL 2 Bl.cells l]] (· = .bool (!inN l.length t)) := by
  refine fn_x zl3 rfl ?_
  unfold zh2 inN
  have hB := hBig
  by_cases h0 : 0 ≤ t
  · by_cases h1 : t < l.length
    · rw [decide_eq_true ⟨h0, h1⟩]
      (repeat first | simp (disch := try exact dis1) only [evD, Nat.reduceBEq, Nat.reduceAdd, Nat.reduceLeDiff, fldP, dT, dF, zdt] | with_reducible intro _ | ((with_reducible apply And.intro); omega))
      exact ⟨_, .bool _ _, rfl⟩
    · rw [decide_eq_false (fun h => h1 h.2)]
      (repeat first | simp (disch := try exact dis1) only [evD, Nat.reduceBEq, Nat.reduceAdd, Nat.reduceLeDiff, fldP, dT, dF, zdt] | with_reducible intro _ | ((with_reducible apply And.intro); omega))
      exact ⟨_, .bool _ _, rfl⟩
  · rw [decide_eq_false (fun h => h0 h.1)]
    (repeat first | simp (disch := try exact dis1) only [evD, Nat.reduceBEq, Nat.reduceAdd, Nat.reduceLeDiff, fldP, dT, dF, zdt] | with_reducible intro _ | ((with_reducible apply And.intro); omega))
    exact ⟨_, .bool _ _, rfl⟩
theorem zjU (ad : Int) (l : List Bl) (m : List Int) : PredI (.fn (.func zed) [encP 2 [.int .u32 ad, encL 2 Bl.cells l]]) m (fun t => !inN l.length t) := ⟨_, _, rfl, by kernel_rfl, rfl, fun s _ => zlW s ad l⟩
theorem zop (g : G) (hf : fewB g) (hc : ∀ b ∈ g.blocks, ∀ s ∈ b.stmts, s.cases.length ≤ 100000000) : zD Tryz.prog zin [.agg g.cells] (· = .bool (!g.blocks.isEmpty && g.blocks.all fun b => zid b.stmts g.blocks.length)) := by
  refine fn_x zon rfl ?_
  unfold zjK
  have hB := hBig
  obtain ⟨hb, hs⟩ := hf
  obtain ⟨ad, l⟩ := g
  simp only at hb hs hc
  simp only [G.cells]
  by_cases h0 : l.length = 0
  · obtain rfl : l = [] := List.eq_nil_of_length_eq_zero h0
    (repeat first | simp (disch := try exact dis1) only [evD, Nat.reduceBEq, Nat.reduceAdd, Nat.reduceLeDiff, fldP, dT, List.length_nil, zbK] | with_reducible intro _ | ((with_reducible apply And.intro); omega))
    exact ⟨_, .bool _ _, rfl⟩
  have he : l.isEmpty = false := by cases l with | nil => simp at h0 | cons a l => rfl
  rw [he]
  generalize hR : (l.all fun b => zid b.stmts l.length) = R
  (repeat first | simp (disch := try exact dis1) only [evD, Nat.reduceBEq, Nat.reduceAdd, Nat.reduceLeDiff, fldP, dF] | with_reducible intro _ | ((with_reducible apply And.intro); omega))
  refine zm (fun i : Nat => ([(1, encP 2 [.int .u32 ad, encL 2 Bl.cells l]), (11, encL 2 Bl.cells l), (12, .int .i64 l.length), (13, .int .i64 i)], [])) 0 (fun i => i ≤ l.length ∧ ((l.drop i).all fun b => zid b.stmts l.length) = R) (fun i => l.length - i) 0 ⟨Nat.zero_le _, hR⟩ (Ent.keep rfl fin5) ?_
  rintro i ⟨hi, hgo⟩ wf
  unfold zgD
  by_cases hl : i < l.length
  · have hg : (l.map Bl.cells).getD i [] = [.int .u32 l[i].addr, encL 8 St.cells l[i].stmts] := zt hl
    have hss := zgm l[i] (hc _ (List.getElem_mem hl))
    rw [List.drop_eq_getElem_cons hl, List.all_cons] at hgo
    simp only [Bl.cells] at hss
    generalize l[i].stmts = m at hg hgo hss
    generalize l[i].addr = ad' at hg hss
    by_cases hm0 : m.length = 0
    · obtain rfl : m = [] := List.eq_nil_of_length_eq_zero hm0
      replace hgo : R = false := by rw [← hgo]; rfl
      subst hgo
      (repeat first | simp (disch := try exact dis1) only [evD, Nat.reduceBEq, Nat.reduceAdd, Nat.reduceLeDiff, fldP, dT, hg, List.length_nil, zbK] | with_reducible intro _ | ((with_reducible apply And.intro); omega))
      exact ⟨_, .bool _ _, rfl⟩
    have hlast : m.length - 1 < m.length := by omega
    have hidx : (((m.length : Nat) : Int) - 1).toNat = m.length - 1 := by omega
    have hme : m.isEmpty = false := by cases m with | nil => simp at hm0 | cons a l => rfl
    unfold zid at hgo
    rw [hme, zjW m hlast] at hgo
    (repeat first | simp (disch := try exact dis1) only [evD, Nat.reduceBEq, Nat.reduceAdd, Nat.reduceLeDiff, fldP, dT, dF, hg, hidx, zt hlast, St.len, St.eight] | with_reducible intro _ | ((with_reducible apply And.intro); omega))
    refine zn (zo (zge m[m.length - 1]) rfl) ?_
    generalize zlV m[m.length - 1] = q at hgo
    cases q with
    | false =>
      replace hgo : R = false := by rw [← hgo]; rfl
      subst hgo
      (repeat first | simp (disch := try exact dis1) only [evD, Nat.reduceBEq, Nat.reduceAdd, Nat.reduceLeDiff, zbK] | with_reducible intro _ | ((with_reducible apply And.intro); omega))
      exact ⟨_, .bool _ _, rfl⟩
    | true =>
      (repeat first | simp (disch := try exact dis1) only [evD, Nat.reduceBEq, Nat.reduceAdd, Nat.reduceLeDiff, fldP, zld, hidx] | with_reducible intro _ | ((with_reducible apply And.intro); omega))
      refine zn (zaE (D := noR) (zfQ (m.take (m.length - 1)) _ _ (zmI _)) (.cons (zwS (by omega) (by omega) rfl (fun _ => rfl)) (.cons (zre (zmI (m.take (m.length - 1)))) .nil)) (.inl rfl)) ?_
      generalize (m.take (m.length - 1)).any zlV = q at hgo
      cases q with
      | true =>
        replace hgo : R = false := by rw [← hgo]; rfl
        subst hgo
        (repeat first | simp (disch := try exact dis1) only [evD, Nat.reduceBEq, Nat.reduceAdd, Nat.reduceLeDiff, zbK] | with_reducible intro _ | ((with_reducible apply And.intro); omega))
        exact ⟨_, .bool _ _, rfl⟩
      | false =>
        (repeat first | simp (disch := try exact dis1) only [evD, Nat.reduceBEq, Nat.reduceAdd, Nat.reduceLeDiff, fldP] | with_reducible intro _ | ((with_reducible apply And.intro); omega))
        refine zn (zo hss rfl) ?_
        (repeat first | simp (disch := try exact dis1) only [evD, Nat.reduceBEq, Nat.reduceAdd, Nat.reduceLeDiff, fldP] | with_reducible intro _ | ((with_reducible apply And.intro); omega))
        refine zn (zaE (D := noR) (zfV (zz m) _ _ (zjU ad l _)) (.cons (zJ rfl) (.cons (zqZ (zjU ad l (zz m))) .nil)) (.inl rfl)) ?_
        rw [List.all_eq_not_any_not] at hgo
        generalize ((zz m).any fun t => !inN l.length t) = q at hgo
        cases q with
        | true =>
          replace hgo : R = false := by rw [← hgo]; rfl
          subst hgo
          (repeat first | simp (disch := try exact dis1) only [evD, Nat.reduceBEq, Nat.reduceAdd, Nat.reduceLeDiff, zbK] | with_reducible intro _ | ((with_reducible apply And.intro); omega))
          exact ⟨_, .bool _ _, rfl⟩
        | false =>
          replace hgo : ((l.drop (i + 1)).all fun b => zid b.stmts l.length) = R := by rw [← hgo]; rfl
          (repeat first | simp (disch := try exact dis1) only [evD, Nat.reduceBEq, Nat.reduceAdd, Nat.reduceLeDiff] | with_reducible intro _ | ((with_reducible apply And.intro); omega))
          exact ⟨i + 1, ⟨by omega, hgo⟩, by omega, (Ent.tab [] [] rfl (by (try simp only [evWB, Nat.reduceBEq, Nat.reduceAdd, Nat.reduceSub, Nat.reduceLeDiff, Nat.reduceLT, implies_true]) <;> exact fin2) (by (try simp only [evWB, Nat.reduceBEq, Nat.reduceAdd, Nat.reduceSub, Nat.reduceLeDiff, Nat.reduceLT, implies_true]) <;> exact fin2))⟩
  · rw [List.drop_of_length_le (by omega)] at hgo
    replace hgo : R = true := by rw [← hgo]; rfl
    subst hgo
    (repeat first | simp (disch := try exact dis1) only [evD, Nat.reduceBEq, Nat.reduceAdd, Nat.reduceLeDiff, fldP, dF] | with_reducible intro _ | ((with_reducible apply And.intro); omega))
    unfold zhe
    (repeat first | simp (disch := try exact dis1) only [evD, Nat.reduceBEq, Nat.reduceAdd, Nat.reduceLeDiff, zbK] | with_reducible intro _ | ((with_reducible apply And.intro); omega))
    exact ⟨_, .bool _ _, rfl⟩
theorem zj9 (g : G) (hf : fewB g) (hc : ∀ b ∈ g.blocks, ∀ s ∈ b.stmts, s.cases.length ≤ 100000000) : zD Tryz.prog zeO [.agg g.cells] (· = .int .i64 (zmo g)) := by
  refine fn_x zke rfl ?_
  unfold zgp
  have hB := hBig
  have hsh := zop g hf hc
  obtain ⟨hb, hs⟩ := hf
  obtain ⟨ad, l⟩ := g
  simp only at hb hs hsh
  simp only [G.cells, zmo, zxo] at hsh ⊢
  (repeat first | simp (disch := try exact dis1) only [evD, Nat.reduceBEq, Nat.reduceAdd, Nat.reduceLeDiff, fldP] | with_reducible intro _ | ((with_reducible apply And.intro); omega))
  refine zm (fun s : Nat × Nat => ([(1, encP 2 [.int .u32 ad, encL 2 Bl.cells l]), (3, .int .i64 s.2), (12, encL 2 Bl.cells l), (13, .int .i64 l.length), (14, .int .i64 s.1)], [])) 0 (fun s => s.1 ≤ l.length ∧ s.2 = zA (l.take s.1) ∧ s.2 ≤ 1100 * s.1) (fun s => l.length - s.1) (0, 0) ⟨Nat.zero_le _, rfl, Nat.le_refl _⟩ (Ent.keep rfl fin5) ?_
  rintro ⟨i, n⟩ ⟨hi, hct, hn⟩ wf
  simp only at hi hn hct
  unfold zem
  by_cases hl : i < l.length
  · have hg : (l.map Bl.cells).getD i [] = [.int .u32 l[i].addr, encL 8 St.cells l[i].stmts] := zt hl
    have hsl := hs l[i] (List.getElem_mem hl)
    (repeat first | simp (disch := try exact dis1) only [evD, Nat.reduceBEq, Nat.reduceAdd, Nat.reduceLeDiff, fldP, dT, hg] | with_reducible intro _ | ((with_reducible apply And.intro); omega))
    exact ⟨(i + 1, n + l[i].stmts.length), ⟨by simp only; omega, by simp only; rw [zp1 hl, hct], by simp only; omega⟩, by simp only; omega, (Ent.tab [] [] rfl (by (try simp only [evWB, Nat.reduceBEq, Nat.reduceAdd, Nat.reduceSub, Nat.reduceLeDiff, Nat.reduceLT, implies_true]) <;> exact fin2) (by (try simp only [evWB, Nat.reduceBEq, Nat.reduceAdd, Nat.reduceSub, Nat.reduceLeDiff, Nat.reduceLT, implies_true]) <;> exact fin2))⟩
  rw [List.take_of_length_le (by omega)] at hct
  (repeat first | simp (disch := try exact dis1) only [evD, Nat.reduceBEq, Nat.reduceAdd, Nat.reduceLeDiff, fldP, dF] | with_reducible intro _ | ((with_reducible apply And.intro); omega))
  unfold zel
  by_cases h256 : 256 < l.length
  · rw [if_pos (.inl h256)]
    (repeat first | simp (disch := try exact dis1) only [evD, Nat.reduceBEq, Nat.reduceAdd, Nat.reduceLeDiff, fldP, dT, zaY] | with_reducible intro _ | ((with_reducible apply And.intro); omega))
    exact ⟨_, .int _ _ _, rfl⟩
  by_cases h1024 : 1024 < n
  · rw [if_pos (.inr (by omega))]
    (repeat first | simp (disch := try exact dis1) only [evD, Nat.reduceBEq, Nat.reduceAdd, Nat.reduceLeDiff, fldP, dT, dF, zaY] | with_reducible intro _ | ((with_reducible apply And.intro); omega))
    exact ⟨_, .int _ _ _, rfl⟩
  rw [if_neg (by omega)]
  (repeat first | simp (disch := try exact dis1) only [evD, Nat.reduceBEq, Nat.reduceAdd, Nat.reduceLeDiff, fldP, dF, znc, tab, List.getD_cons_zero, List.getD_cons_succ] | with_reducible intro _ | ((with_reducible apply And.intro); omega))
  refine zn (zo hsh rfl) ?_
  generalize (!l.isEmpty && l.all fun b => zid b.stmts l.length) = q
  cases q with
  | false =>
    (repeat first | simp (disch := try exact dis1) only [evD, Nat.reduceBEq, Nat.reduceAdd, Nat.reduceLeDiff, zaY] | with_reducible intro _ | ((with_reducible apply And.intro); omega))
    exact ⟨_, .int _ _ _, rfl⟩
  | true =>
  rw [if_pos rfl]
  (repeat first | simp (disch := try exact dis1) only [evD, Nat.reduceBEq, Nat.reduceAdd, Nat.reduceLeDiff, fldP] | with_reducible intro _ | ((with_reducible apply And.intro); omega))
  refine zm (fun i : Nat => ([(36, encL 2 Bl.cells l), (37, .int .i64 l.length), (38, .int .i64 i)], [])) 0 (fun i => i ≤ l.length ∧ zj1 (l.drop i) = zj1 l) (fun i => l.length - i) 0 ⟨Nat.zero_le _, rfl⟩ (Ent.keep rfl fin5) ?_
  rintro i ⟨hi, hgo⟩ wf
  unfold zeK
  by_cases hl : i < l.length
  · have hg : (l.map Bl.cells).getD i [] = [.int .u32 l[i].addr, encL 8 St.cells l[i].stmts] := zt hl
    have hsl := hs l[i] (List.getElem_mem hl)
    rw [zqn hl] at hgo
    (repeat first | simp (disch := try exact dis1) only [evD, Nat.reduceBEq, Nat.reduceAdd, Nat.reduceLeDiff, fldP, dT, hg] | with_reducible intro _ | ((with_reducible apply And.intro); omega))
    generalize l[i].stmts = m at hg hgo hsl
    generalize l[i].addr = ad' at hg
    refine zm (fun j : Nat => ([(36, encL 2 Bl.cells l), (37, .int .i64 l.length), (38, .int .i64 i), (43, encL 8 St.cells m), (44, .int .i64 m.length), (45, .int .i64 j)], [])) 0 (fun j => j ≤ m.length ∧ zhf (m.drop j) = zhf m) (fun j => m.length - j) 0 ⟨Nat.zero_le _, rfl⟩ (Ent.tab [] [] rfl (by (try simp only [evWB, Nat.reduceBEq, Nat.reduceAdd, Nat.reduceSub, Nat.reduceLeDiff, Nat.reduceLT, implies_true]) <;> exact fin2) (by (try simp only [evWB, Nat.reduceBEq, Nat.reduceAdd, Nat.reduceSub, Nat.reduceLeDiff, Nat.reduceLT, implies_true]) <;> exact fin2)) ?_
    rintro j ⟨hj, hgo2⟩ wf2
    unfold zeG
    by_cases hm : j < m.length
    · rw [zpS hm] at hgo2
      (repeat first | simp (disch := try exact dis1) only [evD, Nat.reduceBEq, Nat.reduceAdd, Nat.reduceLeDiff, fldP, dT, zt hm, St.len, St.eight, St.flat] | with_reducible intro _ | ((with_reducible apply And.intro); omega))
      refine zn (zo (zkY m[j]) rfl) ?_
      by_cases hx : m[j].check = 0
      · rw [if_neg (by omega)] at hgo2
        (repeat first | simp (disch := try exact dis1) only [evD, Nat.reduceBEq, Nat.reduceAdd, Nat.reduceLeDiff, dF] | with_reducible intro _ | ((with_reducible apply And.intro); omega))
        exact ⟨j + 1, ⟨by omega, hgo2⟩, by omega, (Ent.tab [] [] rfl (by (try simp only [evWB, Nat.reduceBEq, Nat.reduceAdd, Nat.reduceSub, Nat.reduceLeDiff, Nat.reduceLT, implies_true]) <;> exact fin2) (by (try simp only [evWB, Nat.reduceBEq, Nat.reduceAdd, Nat.reduceSub, Nat.reduceLeDiff, Nat.reduceLT, implies_true]) <;> exact fin2))⟩
      · rw [if_pos hx] at hgo2
        rw [← hgo2, if_pos hx] at hgo
        rw [← hgo]
        (repeat first | simp (disch := try exact dis1) only [evD, Nat.reduceBEq, Nat.reduceAdd, Nat.reduceLeDiff, dT, zaY] | with_reducible intro _ | ((with_reducible apply And.intro); omega))
        exact ⟨_, .int _ _ _, rfl⟩
    · rw [List.drop_of_length_le (by omega), zhf] at hgo2
      rw [← hgo2, if_neg (by omega)] at hgo
      (repeat first | simp (disch := try exact dis1) only [evD, Nat.reduceBEq, Nat.reduceAdd, Nat.reduceLeDiff, fldP, dF] | with_reducible intro _ | ((with_reducible apply And.intro); omega))
      unfold zeu
      (repeat first | simp (disch := try exact dis1) only [evD, Nat.reduceBEq, Nat.reduceAdd, Nat.reduceLeDiff] | with_reducible intro _ | ((with_reducible apply And.intro); omega))
      exact ⟨i + 1, ⟨by omega, hgo⟩, by omega, Ent.keep rfl fin5⟩
  rw [List.drop_of_length_le (by omega), zj1] at hgo
  rw [← hgo]
  (repeat first | simp (disch := try exact dis1) only [evD, Nat.reduceBEq, Nat.reduceAdd, Nat.reduceLeDiff, fldP, dF] | with_reducible intro _ | ((with_reducible apply And.intro); omega))
  unfold zes
  (repeat first | simp (disch := try exact dis1) only [evD, Nat.reduceBEq, Nat.reduceAdd, Nat.reduceLeDiff, zaY] | with_reducible intro _ | ((with_reducible apply And.intro); omega))
  exact ⟨_, .int _ _ _, rfl⟩
mutual
def zjI : Ex → Bool
  | .mk op _ _ _ l => decide (op = 18) || zkF l
def zkF : List Ex → Bool
  | [] => false
  | x :: l => zjI x || zkF l
end
theorem zkz : ∀ l : List Ex, zkF l = l.any zjI
  | [] => by rw [zkF]; rfl
  | x :: l => by rw [zkF, zkz l]; rfl
theorem zja : ∀ (k : Nat) (e : Ex), zbq e ≤ k → zD Tryz.prog za0 [.agg (encX e)] (· = .bool (zjI e)) := by
  intro k
  induction k with
  | zero => intro e h; obtain ⟨_, _, _, _, l⟩ := e; rw [zbq] at h; omega
  | succ k ih =>
  intro e hk
  obtain ⟨op, nn, v, w, l⟩ := e
  refine fn_x zjw rfl ?_
  unfold zfr
  have hB := hBig
  rw [zbq] at hk
  rw [zcf, zjI, zkz]
  by_cases h1 : op = 18
  · rw [decide_eq_true h1, Bool.true_or]
    (repeat first | simp (disch := try exact dis1) only [evD, Nat.reduceBEq, Nat.reduceAdd, Nat.reduceLeDiff, fldP, dT, encP, zdn] | with_reducible intro _ | ((with_reducible apply And.intro); omega))
    exact ⟨_, .bool _ _, rfl⟩
  · rw [decide_eq_false h1, Bool.false_or]
    have hp : PredE (.fn (.func za0) []) l zjI := ⟨_, _, rfl, by kernel_rfl, rfl, fun s hs => ih s (by have := zcR hs; omega)⟩
    (repeat first | simp (disch := try exact dis1) only [evD, Nat.reduceBEq, Nat.reduceAdd, Nat.reduceLeDiff, fldP, dF] | with_reducible intro _ | ((with_reducible apply And.intro); omega))
    refine zn (zaE (D := noR) (zC l _ _ hp) (.cons (zJ rfl) (.cons (zco hp) .nil)) (.inl rfl)) ?_
    (repeat first | simp (disch := try exact dis1) only [evD, Nat.reduceBEq, Nat.reduceAdd, Nat.reduceLeDiff, zdn] | with_reducible intro _ | ((with_reducible apply And.intro); omega))
    exact ⟨_, .bool _ _, rfl⟩
theorem zlv (l : List Ex) : PredE (.fn (.func za0) []) l zjI := ⟨_, _, rfl, by kernel_rfl, rfl, fun s _ => zja _ s (Nat.le_refl _)⟩
def remS (s : St) (a : List Int) : Bool := decide (s.op = 1) && (!decide (s.var ∈ a) && !s.e.any zjI)
theorem zg0 (s : St) (a : MS) : zS Tryz.prog zb7 [.agg s.cells, .mp 0 0] [(0, .row 3 ((setM a.1 a.2).map cm) 0)] 1
    (fun v H nx => v = .bool (remS s a.keys) ∧ H = [(0, .row 3 ((setM a.1 a.2).map cm) 0)] ∧ nx = 1) := by
  refine zbD (fn_x zgF rfl ?_)
  unfold zdy
  have hB := hBig
  obtain ⟨c, ps⟩ := a
  obtain ⟨op, var, width, next, els, tgt, l, cs⟩ := s
  unfold remS MS.keys
  simp only
  by_cases h1 : op = 1
  · rw [decide_eq_true h1, Bool.true_and]
    by_cases hm : var ∈ ps.map (·.1)
    · obtain ⟨j, hj, hje, hf⟩ := zix hm
      rw [decide_eq_true hm]
      (repeat first | simp (disch := try exact dis1) only [evD, Nat.reduceBEq, Nat.reduceAdd, Nat.reduceLeDiff, fldP, St.cells, za, dT, zh, hf, za6, Bool.not_true, Bool.false_and] | with_reducible intro _ | ((with_reducible apply And.intro); omega))
      exact ⟨.bool false, _, _, (Ent.tabB [(0, 0, 0)] [] rfl rfl rfl (by (try simp only [evWB, Nat.reduceBEq, Nat.reduceAdd, Nat.reduceSub, Nat.reduceLeDiff, Nat.reduceLT, implies_true, zh]) <;> exact fin6) (by (try simp only [evWB, Nat.reduceBEq, Nat.reduceAdd, Nat.reduceSub, Nat.reduceLeDiff, Nat.reduceLT, implies_true, zh]) <;> exact fin6)), rfl, rfl, rfl⟩
    · have hf := zhv hm
      rw [decide_eq_false hm]
      (repeat first | simp (disch := try exact dis1) only [evD, Nat.reduceBEq, Nat.reduceAdd, Nat.reduceLeDiff, fldP, St.cells, za, dT, zh, hf] | with_reducible intro _ | ((with_reducible apply And.intro); omega))
      refine zn (zaE (D := noR) (zC l _ _ (zlv l)) (.cons (zJ rfl) (.cons (zco (zlv l)) .nil)) (.inl rfl)) ?_
      (repeat first | simp (disch := try exact dis1) only [evD, Nat.reduceBEq, Nat.reduceAdd, Nat.reduceLeDiff, za6, Bool.not_false, Bool.true_and] | with_reducible intro _ | ((with_reducible apply And.intro); omega))
      exact ⟨.bool (!l.any zjI), _, _, (Ent.tabB [(0, 0, 0)] [] rfl rfl rfl (by (try simp only [evWB, Nat.reduceBEq, Nat.reduceAdd, Nat.reduceSub, Nat.reduceLeDiff, Nat.reduceLT, implies_true, zh]) <;> exact fin6) (by (try simp only [evWB, Nat.reduceBEq, Nat.reduceAdd, Nat.reduceSub, Nat.reduceLeDiff, Nat.reduceLT, implies_true, zh]) <;> exact fin6)), rfl, rfl, rfl⟩
  · rw [decide_eq_false h1, Bool.false_and]
    (repeat first | simp (disch := try exact dis1) only [evD, Nat.reduceBEq, Nat.reduceAdd, Nat.reduceLeDiff, fldP, St.cells, za, dF, zh, za6] | with_reducible intro _ | ((with_reducible apply And.intro); omega))
    exact ⟨.bool false, _, _, (Ent.tabB [(0, 0, 0)] [] rfl rfl rfl (by (try simp only [evWB, Nat.reduceBEq, Nat.reduceAdd, Nat.reduceSub, Nat.reduceLeDiff, Nat.reduceLT, implies_true, zh]) <;> exact fin6) (by (try simp only [evWB, Nat.reduceBEq, Nat.reduceAdd, Nat.reduceSub, Nat.reduceLeDiff, Nat.reduceLT, implies_true, zh]) <;> exact fin6)), rfl, rfl, rfl⟩
theorem zjr : ∀ (k : Nat) (e : Ex), zbq e ≤ k → k ≤ 1000000 → zD Tryz.prog zcl [.agg (encX e)] (· = .agg (encX e)) := by
  intro k
  induction k with
  | zero => intro e h; obtain ⟨_, _, _, _, l⟩ := e; rw [zbq] at h; omega
  | succ k ih =>
  intro e hk hk2
  obtain ⟨op, nn, v, w, l⟩ := e
  refine fn_x zjv rfl ?_
  unfold zft
  have hB := hBig
  rw [zbq] at hk
  have hll : l.length ≤ zw l := zhw l
  rw [zcf]
  (repeat first | simp (disch := try exact dis1) only [evD, Nat.reduceBEq, Nat.reduceAdd, Nat.reduceLeDiff, fldP] | with_reducible intro _ | ((with_reducible apply And.intro); omega))
  refine zm (fun i : Nat => ([(1, .ptr 0 0 0 0 0), (2, .ptr 1 0 0 0 0), (3, .own 2 0 0 0 i), (7, encL 5 encX l), (8, .int .i64 l.length), (9, .int .i64 i)], [(0, .row 5 [[.int .i64 op, .int .u32 nn, .int .i64 v, .int .i64 w, encL 5 encX l]] 0), (1, .row 5 [[.int .i64 0, .int .u32 0, .int .i64 0, .int .i64 0, .nilsl]] 0), (2, .row 5 ((l.take i).map encX) 0)])) 3
    (fun i => i ≤ l.length) (fun i => l.length - i) 0 (Nat.zero_le _) (Ent.tab [(0, 0, 0), (1, 1, 0), (2, 2, 0)] [] rfl (by (try simp only [evWB, Nat.reduceBEq, Nat.reduceAdd, Nat.reduceSub, Nat.reduceLeDiff, Nat.reduceLT, implies_true, List.take_zero]) <;> exact fin2) (by (try simp only [evWB, Nat.reduceBEq, Nat.reduceAdd, Nat.reduceSub, Nat.reduceLeDiff, Nat.reduceLT, implies_true, List.take_zero]) <;> exact fin2)) ?_
  rintro i hi wf
  unfold zd5
  by_cases hil : i < l.length
  · have hm := zcR (List.getElem_mem hil)
    have htk : (l.take (i + 1)).map encX = (l.take i).map encX ++ [encX l[i]] := by rw [List.take_add_one, List.getElem?_eq_getElem hil, List.map_append]; rfl
    have htl : ((l.take i).map encX).length = i := by rw [List.length_map, List.length_take]; omega
    generalize l.take i = T at htk htl ⊢
    have htT : (T.map encX).take i = T.map encX := List.take_of_length_le (by omega)
    (repeat first | simp (disch := try exact dis1) only [evD, Nat.reduceBEq, Nat.reduceAdd, Nat.reduceLeDiff, fldP, dT, zt hil, zbp, zaQ, zd] | with_reducible intro _ | ((with_reducible apply And.intro); omega))
    refine zn (zo (ih l[i] (by omega) (by omega)) (flX rfl)) ?_
    (repeat first | simp (disch := try exact dis1) only [evD, Nat.reduceBEq, Nat.reduceAdd, Nat.reduceLeDiff, zbp, zaQ, zd, htl, htT] | with_reducible intro _ | ((with_reducible apply And.intro); omega))
    refine ⟨i + 1, by omega, by omega, ?_⟩
    exact (Ent.tab [(0, 0, 0), (1, 1, 0), (2, 2, 1)] [] rfl (by (try simp only [evWB, Nat.reduceBEq, Nat.reduceAdd, Nat.reduceSub, Nat.reduceLeDiff, Nat.reduceLT, implies_true, htk]) <;> exact fin7) (by (try simp only [evWB, Nat.reduceBEq, Nat.reduceAdd, Nat.reduceSub, Nat.reduceLeDiff, Nat.reduceLT, implies_true, htk]) <;> exact fin7))
  · obtain rfl : i = l.length := by omega
    rw [List.take_length]
    (repeat first | simp (disch := try exact dis1) only [evD, Nat.reduceBEq, Nat.reduceAdd, Nat.reduceLeDiff, fldP, dF] | with_reducible intro _ | ((with_reducible apply And.intro); omega))
    unfold zd3
    (repeat first | simp (disch := try exact dis1) only [evD, Nat.reduceBEq, Nat.reduceAdd, Nat.reduceLeDiff, fldP] | with_reducible intro _ | ((with_reducible apply And.intro); omega))
    (repeat first | simp (disch := try exact dis1) only [evD, Nat.reduceBEq, Nat.reduceAdd, Nat.reduceLeDiff, zfE] | with_reducible intro _ | ((with_reducible apply And.intro); omega))
    refine ⟨.agg [.int .i64 op, .int .u32 nn, .int .i64 v, .int .i64 w, encL 5 encX l], .agg _ _ _ rfl (fun j a c h1 h2 => ?_), rfl⟩
    match j with
    | 0 => cases h1; cases h2; exact .int _ _ _
    | 1 => cases h1; cases h2; exact .int _ _ _
    | 2 => cases h1; cases h2; exact .int _ _ _
    | 3 => cases h1; cases h2; exact .int _ _ _
    | 4 => cases h1; cases h2; exact zqX trivial rfl (by omega)
    | j + 5 => cases h1
theorem zxh {H H2 : AH} {σ : Nat → Nat → Option (Nat × Nat × Nat)} {D : Nat → Nat → Prop} {t : Bool} {r q g : Nat} {l : List St} (hD : D r q) (hg : H.get r q = some (.row 8 (l.map St.cells) g)) (hb : l.length ≤ big) : Vw H H2 σ D t (.own r q g 0 l.length) (encL 8 St.cells l) :=
  zgL hD hg hb fun a _ j _ => by
    rw [List.getD_eq_getElem?_getD]
    cases hx : a.cells[j]? with
    | none => exact .undef _ _
    | some x => exact zb2 (zaF a.flat hx)
theorem ztV {H H2 : AH} {σ : Nat → Nat → Option (Nat × Nat × Nat)} {D : Nat → Nat → Prop} {t : Bool} {r q g : Nat} {l : List Bl} (hD : D r q) (hg : H.get r q = some (.row 2 (l.map Bl.cells) g)) (hb : l.length ≤ big) : Vw H H2 σ D t (.own r q g 0 l.length) (encL 2 Bl.cells l) :=
  zgL hD hg hb fun a _ j _ => by
    rw [List.getD_eq_getElem?_getD]
    cases hx : a.cells[j]? with
    | none => exact .undef _ _
    | some x => exact zb2 (zaF (show zE a.cells = true from rfl) hx)
theorem zvl {Q : QT} (ad ad2 : Int) (bl : List Bl) (done : List Bl) (i : Nat) (sts : List St) (j : Nat) (op var width next els tgt : Int) (l : List Ex) (cs : List Int) (hsz : zw l ≤ 100000)
    (hcs : cs.length ≤ 1000000) (hj : j < sts.length) (hjl : sts.length ≤ 1000000) (hst : sts[j] = ⟨op, var, width, next, els, tgt, l, cs⟩)
    (hfin : ∀ K H nx, Ent 0 K H nx [(2, .ptr 0 0 0 0 0), (3, .ptr 1 0 0 0 0), (6, .ptr 3 0 0 0 0), (16, encL 2 Bl.cells bl), (17, .int .i64 bl.length), (18, .int .i64 i), (26, encL 8 St.cells sts), (27, .int .i64 sts.length), (28, .int .i64 ((j + 1 : Nat) : Int))]
      [(0, .row 2 [[.int .u32 0, .nilsl]] 0), (1, .row 2 [[.int .u32 ad, .own 2 0 0 0 done.length]] 0), (2, .row 2 (done.map Bl.cells) 0), (3, .row 2 [[.int .u32 ad2, .own 4 0 0 0 (j + 1)]] 0), (4, .row 8 ((sts.take (j + 1)).map St.cells) 0)] 5 → Q .normal K H nx)
    {K : Kn} {H : AH} {nx : Nat} (hent : Ent 0 K H nx [(2, .ptr 0 0 0 0 0), (3, .ptr 1 0 0 0 0), (6, .ptr 3 0 0 0 0), (8, .ptr 5 0 0 0 0), (9, .own 6 0 0 0 0), (16, encL 2 Bl.cells bl), (17, .int .i64 bl.length), (18, .int .i64 i), (26, encL 8 St.cells sts), (27, .int .i64 sts.length), (28, .int .i64 j), (33, encL 5 encX l), (34, .int .i64 l.length), (35, .int .i64 0)]
      [(0, .row 2 [[.int .u32 0, .nilsl]] 0), (1, .row 2 [[.int .u32 ad, .own 2 0 0 0 done.length]] 0), (2, .row 2 (done.map Bl.cells) 0), (3, .row 2 [[.int .u32 ad2, .own 4 0 0 0 j]] 0), (4, .row 8 ((sts.take j).map St.cells) 0), (5, .row 8 [[.int .i64 op, .int .i64 var, .int .i64 width, .int .i64 next, .int .i64 els, .int .u32 tgt, encL 5 encX l, za cs]] 0), (6, .row 5 [] 0)] 7) :
    zhD Tryz.prog 0 zbY (za3 4 (seqQ Tryz.prog 0 zbO (za3 3 (seqQ Tryz.prog 0 zbP Q)))) K H nx := by
  have hB := hBig
  have hll : l.length ≤ zw l := zhw l
  refine zm (fun m : Nat => ([(2, .ptr 0 0 0 0 0), (3, .ptr 1 0 0 0 0), (6, .ptr 3 0 0 0 0), (8, .ptr 5 0 0 0 0), (9, .own 6 0 0 0 m), (16, encL 2 Bl.cells bl), (17, .int .i64 bl.length), (18, .int .i64 i), (26, encL 8 St.cells sts), (27, .int .i64 sts.length), (28, .int .i64 j), (33, encL 5 encX l), (34, .int .i64 l.length), (35, .int .i64 m)],
      [(0, .row 2 [[.int .u32 0, .nilsl]] 0), (1, .row 2 [[.int .u32 ad, .own 2 0 0 0 done.length]] 0), (2, .row 2 (done.map Bl.cells) 0), (3, .row 2 [[.int .u32 ad2, .own 4 0 0 0 j]] 0), (4, .row 8 ((sts.take j).map St.cells) 0), (5, .row 8 [[.int .i64 op, .int .i64 var, .int .i64 width, .int .i64 next, .int .i64 els, .int .u32 tgt, encL 5 encX l, za cs]] 0), (6, .row 5 ((l.take m).map encX) 0)])) 7
    (fun m => m ≤ l.length) (fun m => l.length - m) 0 (Nat.zero_le _) hent ?_
  rintro m hm wf
  unfold zbY
  by_cases hil : m < l.length
  · have hmm := zcR (List.getElem_mem hil)
    have htk : (l.take (m + 1)).map encX = (l.take m).map encX ++ [encX l[m]] := by rw [List.take_add_one, List.getElem?_eq_getElem hil, List.map_append]; rfl
    have htl : ((l.take m).map encX).length = m := by rw [List.length_map, List.length_take]; omega
    generalize l.take m = T at htk htl ⊢
    generalize sts.take j = S at *
    have htT : (T.map encX).take m = T.map encX := List.take_of_length_le (by omega)
    (repeat first | simp (disch := try exact dis1) only [evD, Nat.reduceBEq, Nat.reduceAdd, Nat.reduceLeDiff, fldP, dT, zt hil, zbp, zaQ, zd] | with_reducible intro _ | ((with_reducible apply And.intro); omega))
    refine zn (zo (zjr (zbq l[m]) l[m] (Nat.le_refl _) (by omega)) (flX rfl)) ?_
    (repeat first | simp (disch := try exact dis1) only [evD, Nat.reduceBEq, Nat.reduceAdd, Nat.reduceLeDiff, zbp, zaQ, zd, htl, htT] | with_reducible intro _ | ((with_reducible apply And.intro); omega))
    refine ⟨m + 1, by omega, by omega, ?_⟩
    exact (Ent.tab [(0, 0, 0), (1, 1, 0), (2, 2, 0), (3, 3, 0), (4, 4, 0), (5, 5, 0), (6, 6, 1)] [] rfl (by (try simp only [evWB, Nat.reduceBEq, Nat.reduceAdd, Nat.reduceSub, Nat.reduceLeDiff, Nat.reduceLT, implies_true, htk]) <;> exact fin7) (by (try simp only [evWB, Nat.reduceBEq, Nat.reduceAdd, Nat.reduceSub, Nat.reduceLeDiff, Nat.reduceLT, implies_true, htk]) <;> exact fin7))
  · obtain rfl : m = l.length := by omega
    rw [List.take_length]
    (repeat first | simp (disch := try exact dis1) only [evD, Nat.reduceBEq, Nat.reduceAdd, Nat.reduceLeDiff, dF] | with_reducible intro _ | ((with_reducible apply And.intro); omega))
    unfold zbO
    (repeat first | simp (disch := try exact dis1) only [evD, Nat.reduceBEq, Nat.reduceAdd, Nat.reduceLeDiff] | with_reducible intro _ | ((with_reducible apply And.intro); omega))
    refine zL [] 0 _ (zob cs (by omega)) rfl rfl (by (try simp only [evWB, Nat.reduceBEq, Nat.reduceAdd, Nat.reduceSub, Nat.reduceLeDiff, Nat.reduceLT, implies_true]) <;> exact fin1) (by (try simp only [evWB, Nat.reduceBEq, Nat.reduceAdd, Nat.reduceSub, Nat.reduceLeDiff, Nat.reduceLT, implies_true]) <;> exact fin1) ?_
    rintro _ _ _ ⟨rfl, rfl, rfl⟩
    have hl8 : ((sts.take j).map St.cells).length = j := by rw [List.length_map, List.length_take]; omega
    have hsj : sts.take (j + 1) = sts.take j ++ [⟨op, var, width, next, els, tgt, l, cs⟩] := by rw [List.take_add_one, List.getElem?_eq_getElem hj, hst]; rfl
    rw [hsj] at hfin
    generalize sts.take j = S at *
    have hS8 : (S.map St.cells).take j = S.map St.cells := List.take_of_length_le (by omega)
    (repeat first | simp (disch := try exact dis1) only [evD, Nat.reduceBEq, Nat.reduceAdd, Nat.reduceLeDiff, renI, hl8, hS8] | with_reducible intro _ | ((with_reducible apply And.intro); omega))
    unfold zbP
    (repeat first | simp (disch := try exact dis1) only [evD, Nat.reduceBEq, Nat.reduceAdd, Nat.reduceLeDiff] | with_reducible intro _ | ((with_reducible apply And.intro); omega))
    refine hfin _ _ _ ?_
    exact (Ent.tab [(0, 0, 0), (1, 1, 0), (2, 2, 0), (3, 3, 0), (4, 4, 1)] [6, 7] rfl (by (try simp only [evWB, Nat.reduceBEq, Nat.reduceAdd, Nat.reduceSub, Nat.reduceLeDiff, Nat.reduceLT, implies_true, List.map_append, List.map_cons, List.map_nil, St.cells]) <;> exact fin7) (by (try simp only [evWB, Nat.reduceBEq, Nat.reduceAdd, Nat.reduceSub, Nat.reduceLeDiff, Nat.reduceLT, implies_true, List.map_append, List.map_cons, List.map_nil, St.cells]) <;> exact fin7))
theorem zu5 {Q : QT} (ad ad2 : Int) (bl : List Bl) (i : Nat) (hi : i < bl.length) (hbl : bl.length ≤ 1000000) (sts : List St) (hb : bl[i] = ⟨ad2, sts⟩) (hjl : sts.length ≤ 1000000)
    (hsz : ∀ s ∈ sts, zw s.e ≤ 100000 ∧ s.cases.length ≤ 1000000)
    (hfin : ∀ K H nx, Ent 0 K H nx [(2, .ptr 0 0 0 0 0), (3, .ptr 1 0 0 0 0), (16, encL 2 Bl.cells bl), (17, .int .i64 bl.length), (18, .int .i64 ((i + 1 : Nat) : Int))]
      [(0, .row 2 [[.int .u32 0, .nilsl]] 0), (1, .row 2 [[.int .u32 ad, .own 2 0 0 0 (i + 1)]] 0), (2, .row 2 ((bl.take (i + 1)).map Bl.cells) 0)] 3 → Q .normal K H nx)
    {K : Kn} {H : AH} {nx : Nat} (hent : Ent 0 K H nx [(2, .ptr 0 0 0 0 0), (3, .ptr 1 0 0 0 0), (6, .ptr 3 0 0 0 0), (16, encL 2 Bl.cells bl), (17, .int .i64 bl.length), (18, .int .i64 i), (26, encL 8 St.cells sts), (27, .int .i64 sts.length), (28, .int .i64 0)]
      [(0, .row 2 [[.int .u32 0, .nilsl]] 0), (1, .row 2 [[.int .u32 ad, .own 2 0 0 0 i]] 0), (2, .row 2 ((bl.take i).map Bl.cells) 0), (3, .row 2 [[.int .u32 ad2, .own 4 0 0 0 0]] 0), (4, .row 8 [] 0)] 5) :
    zhD Tryz.prog 0 zbW (za3 2 (seqQ Tryz.prog 0 zbR (za3 1 (seqQ Tryz.prog 0 zbQ Q)))) K H nx := by
  have hB := hBig
  refine zm (fun j : Nat => ([(2, .ptr 0 0 0 0 0), (3, .ptr 1 0 0 0 0), (6, .ptr 3 0 0 0 0), (16, encL 2 Bl.cells bl), (17, .int .i64 bl.length), (18, .int .i64 i), (26, encL 8 St.cells sts), (27, .int .i64 sts.length), (28, .int .i64 j)],
      [(0, .row 2 [[.int .u32 0, .nilsl]] 0), (1, .row 2 [[.int .u32 ad, .own 2 0 0 0 i]] 0), (2, .row 2 ((bl.take i).map Bl.cells) 0), (3, .row 2 [[.int .u32 ad2, .own 4 0 0 0 j]] 0), (4, .row 8 ((sts.take j).map St.cells) 0)])) 5
    (fun j => j ≤ sts.length) (fun j => sts.length - j) 0 (Nat.zero_le _) hent ?_
  rintro j hj wf
  unfold zbW
  have hdl : (bl.take i).length = i := by rw [List.length_take]; omega
  by_cases hil : j < sts.length
  · obtain ⟨z1, z2⟩ := hsz _ (List.getElem_mem hil)
    have hgs := zt (f := St.cells) (d := []) hil
    have hst : sts[j] = ⟨sts[j].op, sts[j].var, sts[j].width, sts[j].next, sts[j].els, sts[j].tgt, sts[j].e, sts[j].cases⟩ := rfl
    have hl0 := fun (Q : QT) => zvl (Q := Q) ad ad2 bl (bl.take i) i sts j sts[j].op sts[j].var sts[j].width sts[j].next sts[j].els sts[j].tgt sts[j].e sts[j].cases z1 z2 hil hjl hst
    rw [hdl] at hl0
    simp only [St.cells] at hgs
    (repeat first | simp (disch := try exact dis1) only [evD, Nat.reduceBEq, Nat.reduceAdd, Nat.reduceLeDiff, fldP, dT, hgs] | with_reducible intro _ | ((with_reducible apply And.intro); omega))
    refine hl0 _ ?_ ?_
    · intro K2 H2 nx2 he
      exact ⟨j + 1, by omega, by show sts.length - (j + 1) < sts.length - j; omega, he⟩
    · exact (Ent.tab [(0, 0, 0), (1, 1, 0), (2, 2, 0), (3, 3, 0), (4, 4, 0), (5, 5, 0), (6, 6, 0)] [] rfl (by (try simp only [evWB, Nat.reduceBEq, Nat.reduceAdd, Nat.reduceSub, Nat.reduceLeDiff, Nat.reduceLT, implies_true]) <;> exact fin7) (by (try simp only [evWB, Nat.reduceBEq, Nat.reduceAdd, Nat.reduceSub, Nat.reduceLeDiff, Nat.reduceLT, implies_true]) <;> exact fin7))
  · obtain rfl : j = sts.length := by omega
    rw [List.take_length]
    have hbk : bl.take (i + 1) = bl.take i ++ [⟨ad2, sts⟩] := by rw [List.take_add_one, List.getElem?_eq_getElem hi, hb]; rfl
    rw [hbk] at hfin
    generalize bl.take i = D at *
    have hD : (D.map Bl.cells).take i = D.map Bl.cells := List.take_of_length_le (by rw [List.length_map]; omega)
    have hDl : (D.map Bl.cells).length = i := by rw [List.length_map]; omega
    (repeat first | simp (disch := try exact dis1) only [evD, Nat.reduceBEq, Nat.reduceAdd, Nat.reduceLeDiff, dF] | with_reducible intro _ | ((with_reducible apply And.intro); omega))
    unfold zbR
    (repeat first | simp (disch := try exact dis1) only [evD, Nat.reduceBEq, Nat.reduceAdd, Nat.reduceLeDiff, hD, hDl] | with_reducible intro _ | ((with_reducible apply And.intro); omega))
    unfold zbQ
    (repeat first | simp (disch := try exact dis1) only [evD, Nat.reduceBEq, Nat.reduceAdd, Nat.reduceLeDiff] | with_reducible intro _ | ((with_reducible apply And.intro); omega))
    refine hfin _ _ _ ?_
    exact (Ent.tab [(0, 0, 0), (1, 1, 0), (2, 2, 1)] [4] rfl (by (try simp only [evWB, Nat.reduceBEq, Nat.reduceAdd, Nat.reduceSub, Nat.reduceLeDiff, Nat.reduceLT, implies_true, List.map_append, List.map_cons, List.map_nil, Bl.cells]) <;> exact fin7) (by (try simp only [evWB, Nat.reduceBEq, Nat.reduceAdd, Nat.reduceSub, Nat.reduceLeDiff, Nat.reduceLT, implies_true, List.map_append, List.map_cons, List.map_nil, Bl.cells]) <;> exact fin7))
theorem zuC (g : G) (hbl : g.blocks.length ≤ 1000000) (hst : ∀ b ∈ g.blocks, b.stmts.length ≤ 1000000) (hsz : ∀ b ∈ g.blocks, ∀ s ∈ b.stmts, zw s.e ≤ 100000 ∧ s.cases.length ≤ 1000000) :
    zS Tryz.prog zdj [.agg g.cells] [] 0 (fun v H nx => v = .agg [.int .u32 g.addr, .own 0 0 0 0 g.blocks.length] ∧ H = [(0, .row 2 (g.blocks.map Bl.cells) 0)] ∧ nx = 1) := by
  refine zbD (fn_x ziH rfl ?_)
  unfold ze7
  have hB := hBig
  obtain ⟨ad, bl⟩ := g
  simp only at hbl hst hsz ⊢
  (repeat first | simp (disch := try exact dis1) only [evD, Nat.reduceBEq, Nat.reduceAdd, Nat.reduceLeDiff, fldP, G.cells] | with_reducible intro _ | ((with_reducible apply And.intro); omega))
  refine zm (fun i : Nat => ([(2, .ptr 0 0 0 0 0), (3, .ptr 1 0 0 0 0), (16, encL 2 Bl.cells bl), (17, .int .i64 bl.length), (18, .int .i64 i)],
      [(0, .row 2 [[.int .u32 0, .nilsl]] 0), (1, .row 2 [[.int .u32 ad, .own 2 0 0 0 i]] 0), (2, .row 2 ((bl.take i).map Bl.cells) 0)])) 3
    (fun i => i ≤ bl.length) (fun i => bl.length - i) 0 (Nat.zero_le _) (Ent.tab [(0, 0, 0), (1, 1, 0)] [] rfl (by (try simp only [evWB, Nat.reduceBEq, Nat.reduceAdd, Nat.reduceSub, Nat.reduceLeDiff, Nat.reduceLT, implies_true, List.take_zero, List.map_nil]) <;> exact fin2) (by (try simp only [evWB, Nat.reduceBEq, Nat.reduceAdd, Nat.reduceSub, Nat.reduceLeDiff, Nat.reduceLT, implies_true, List.take_zero, List.map_nil]) <;> exact fin2)) ?_
  rintro i hi wf
  unfold zdA
  by_cases hil : i < bl.length
  · have hm := List.getElem_mem hil
    have hgl := zt (f := Bl.cells) (d := []) hil
    have hl3 := fun (Q : QT) => zu5 (Q := Q) ad bl[i].addr bl i hil hbl bl[i].stmts rfl (hst _ hm) (hsz _ hm)
    simp only [Bl.cells] at hgl
    (repeat first | simp (disch := try exact dis1) only [evD, Nat.reduceBEq, Nat.reduceAdd, Nat.reduceLeDiff, fldP, dT, hgl] | with_reducible intro _ | ((with_reducible apply And.intro); omega))
    refine hl3 _ ?_ ?_
    · intro K2 H2 nx2 he
      exact ⟨i + 1, by omega, by show bl.length - (i + 1) < bl.length - i; omega, he⟩
    · exact (Ent.tab [(0, 0, 0), (1, 1, 0), (2, 2, 0), (3, 4, 0)] [] rfl (by (try simp only [evWB, Nat.reduceBEq, Nat.reduceAdd, Nat.reduceSub, Nat.reduceLeDiff, Nat.reduceLT, implies_true]) <;> exact fin7) (by (try simp only [evWB, Nat.reduceBEq, Nat.reduceAdd, Nat.reduceSub, Nat.reduceLeDiff, Nat.reduceLT, implies_true]) <;> exact fin7))
  · obtain rfl : i = bl.length := by omega
    rw [List.take_length]
    (repeat first | simp (disch := try exact dis1) only [evD, Nat.reduceBEq, Nat.reduceAdd, Nat.reduceLeDiff, dF] | with_reducible intro _ | ((with_reducible apply And.intro); omega))
    unfold zdz
    (repeat first | simp (disch := try exact dis1) only [evD, Nat.reduceBEq, Nat.reduceAdd, Nat.reduceLeDiff, zfc] | with_reducible intro _ | ((with_reducible apply And.intro); omega))
    exact ⟨.agg [.int .u32 ad, .own 0 0 0 0 bl.length], [(0, .row 2 (bl.map Bl.cells) 0)], 1, (Ent.tab [(0, 2, 0)] [] rfl (by (try simp only [evWB, Nat.reduceBEq, Nat.reduceAdd, Nat.reduceSub, Nat.reduceLeDiff, Nat.reduceLT, implies_true]) <;> exact fin7) (by (try simp only [evWB, Nat.reduceBEq, Nat.reduceAdd, Nat.reduceSub, Nat.reduceLeDiff, Nat.reduceLT, implies_true]) <;> exact fin7)), rfl, rfl, rfl⟩
def ziC (exit : List Int) : List St → List Int → List St × List Int
  | [], a => ([], a)
  | s :: l, a => if remS s (ziC exit l a).2 = true then ziC exit l a else (s :: (ziC exit l a).1, zcu exit s (ziC exit l a).2)
def keepM (exit : List Int) : List St → MS → List St × MS
  | [], a => ([], a)
  | s :: l, a => if remS s (keepM exit l a).2.keys = true then keepM exit l a else (s :: (keepM exit l a).1, zc2 exit s (keepM exit l a).2)
theorem zrL {s : St} {a b : List Int} (h : ∀ x, x ∈ a ↔ x ∈ b) : remS s a = remS s b := by
  unfold remS
  rw [decide_eq_decide.2 (h s.var)]
theorem zoR {exit : List Int} {a : MS} {e : List Int} (h : ∀ x, x ∈ a.keys ↔ x ∈ e) : ∀ l : List St, (keepM exit l a).1 = (ziC exit l e).1 ∧ ∀ x, x ∈ (keepM exit l a).2.keys ↔ x ∈ (ziC exit l e).2
  | [] => ⟨rfl, h⟩
  | s :: l => by
    obtain ⟨h1, h2⟩ := zoR h l
    unfold keepM ziC
    rw [zrL h2]
    split
    · exact ⟨h1, h2⟩
    · exact ⟨by rw [h1], zlH h2⟩
theorem zhc {exit : List Int} {e : List Int} : ∀ l : List St, ((ziC exit l e).1).Sublist l
  | [] => List.Sublist.slnil
  | s :: l => by
    unfold ziC
    split
    · exact (zhc l).cons s
    · exact (zhc l).cons_cons s
theorem zkq {exit : List Int} {e : MS} : ∀ l : List St, ((keepM exit l e).1).Sublist l
  | [] => List.Sublist.slnil
  | s :: l => by
    unfold keepM
    split
    · exact (zkq l).cons s
    · exact (zkq l).cons_cons s
theorem zqU {exit : List Int} : ∀ {l : List St} {a : MS}, a.ok → a.1 + zaJ exit.length l ≤ 1000000 → a.2.length + zaJ exit.length l ≤ 1000000 →
    (keepM exit l a).2.ok ∧ (keepM exit l a).2.1 ≤ a.1 + zaJ exit.length l ∧ (keepM exit l a).2.2.length ≤ a.2.length + zaJ exit.length l
  | [], a, h, _, _ => ⟨h, by show a.1 ≤ a.1 + (0 : Nat); omega, Nat.le_refl _⟩
  | s :: l, a, h, h1, h2 => by
    have e : zaJ exit.length (s :: l) = zw s.e + exit.length + zaJ exit.length l := rfl
    rw [e] at h1 h2 ⊢
    obtain ⟨i1, i2, i3⟩ := zqU (exit := exit) (l := l) h (by omega) (by omega)
    unfold keepM
    split
    · exact ⟨i1, by omega, by omega⟩
    · obtain ⟨j1, j2, j3⟩ := zqP (exit := exit) (s := s) i1 (by omega) (by omega)
      exact ⟨j1, by simp only; omega, by simp only; omega⟩
def blkD (exit : List Int) (bl : List Bl) (i : Nat) (b : Bl) : Bl := ⟨b.addr, (ziC exit b.stmts (zaS exit bl i)).1⟩
def zb4 (exit : List Int) (bl : List Bl) : List Bl := bl.mapIdx (blkD exit bl)
theorem zhn {exit : List Int} {bl : List Bl} : (zb4 exit bl).length = bl.length := by simp [zb4]
theorem zsL {exit : List Int} {bl : List Bl} {i : Nat} (h : i < bl.length) : (zb4 exit bl)[i]'(by rw [zhn]; exact h) = blkD exit bl i bl[i] := by simp [zb4]
def SubB (a b : List Bl) : Prop := a.length = b.length ∧ ∀ i (h1 : i < a.length) (h2 : i < b.length), a[i].addr = b[i].addr ∧ (a[i].stmts).Sublist b[i].stmts
theorem SubB.rfl' {a : List Bl} : SubB a a := ⟨rfl, fun _ _ _ => ⟨rfl, List.Sublist.refl _⟩⟩
theorem SubB.trans {a b c : List Bl} (h : SubB a b) (k : SubB b c) : SubB a c := ⟨h.1.trans k.1, fun i h1 h2 => by
  obtain ⟨x1, x2⟩ := h.2 i h1 (by have := h.1; omega)
  obtain ⟨y1, y2⟩ := k.2 i (by have := h.1; omega) h2
  exact ⟨x1.trans y1, x2.trans y2⟩⟩
theorem zcI {exit : List Int} {bl : List Bl} : SubB (zb4 exit bl) bl := ⟨zhn, fun i h1 h2 => by rw [zsL h2]; exact ⟨rfl, zhc _⟩⟩
theorem SubB.mem {a b : List Bl} (h : SubB a b) {x : Bl} (hx : x ∈ a) : ∃ y ∈ b, x.addr = y.addr ∧ (x.stmts).Sublist y.stmts := by
  obtain ⟨i, hi, rfl⟩ := List.mem_iff_getElem.1 hx
  have hl := h.1
  obtain ⟨h1, h2⟩ := h.2 i hi (by omega)
  exact ⟨_, List.getElem_mem _, h1, h2⟩
theorem SubB.count : ∀ {a b : List Bl}, SubB a b → zA a ≤ zA b
  | [], [], _ => Nat.le_refl _
  | [], y :: b, h => by have := h.1; simp at this
  | x :: a, [], h => by have := h.1; simp at this
  | x :: a, y :: b, h => by
    have h1 := (h.2 0 (by simp) (by simp)).2.length_le
    have h2 : SubB a b := ⟨by have := h.1; simpa using this, fun i h1 h2 => h.2 (i + 1) (by simpa using h1) (by simpa using h2)⟩
    have h3 := SubB.count h2
    simp only [List.getElem_cons_zero] at h1
    simp only [zA, List.map_cons, List.sum_cons] at h3 ⊢
    omega
theorem SubB.same : ∀ {a b : List Bl}, SubB a b → zA a = zA b → a = b
  | [], [], _, _ => rfl
  | [], y :: b, h, _ => by have := h.1; simp at this
  | x :: a, [], h, _ => by have := h.1; simp at this
  | x :: a, y :: b, h, hc => by
    obtain ⟨ha, hs⟩ := h.2 0 (by simp) (by simp)
    have h2 : SubB a b := ⟨by have := h.1; simpa using this, fun i h1 h2 => h.2 (i + 1) (by simpa using h1) (by simpa using h2)⟩
    have h3 := h2.count
    simp only [List.getElem_cons_zero] at ha hs
    have hl := hs.length_le
    simp only [zA, List.map_cons, List.sum_cons] at hc h3
    have e1 : x.stmts = y.stmts := hs.eq_of_length (by omega)
    rw [SubB.same h2 (by simp only [zA]; omega)]
    congr 1
    obtain ⟨a1, s1⟩ := x
    obtain ⟨a2, s2⟩ := y
    simp only at ha e1
    rw [ha, e1]
theorem ztS {k : Nat} {a b : List St} (h : a.Sublist b) : zaJ k a ≤ zaJ k b := by
  induction h with
  | slnil => exact Nat.le_refl _
  | cons s _ ih => show _ ≤ zw s.e + k + _; omega
  | cons_cons s _ ih => show zw s.e + k + _ ≤ zw s.e + k + _; omega
structure GoodB (U exit : List Int) (bl : List Bl) : Prop where
  he : ∀ x ∈ exit, x ∈ U
  hu : ∀ b ∈ bl, ∀ s ∈ b.stmts, ∀ x ∈ zb6 s, x ∈ U
  hsz : ∀ b ∈ bl, ∀ s ∈ b.stmts, zw s.e ≤ 100000 ∧ s.cases.length ≤ 100000
  cost : ∀ b ∈ bl, 2 * U.length + zaJ exit.length b.stmts ≤ 1000000
  cnt : zA bl ≤ 1000000
  len : bl.length ≤ 1000000
theorem zoq {s : St} : (zgb s).length ≤ s.cases.length + 2 := by
  unfold zgb
  split
  · simp
  · split
    · simp
    · split
      · omega
      · simp
theorem zg1 {l : List St} {n : Nat} (h : ∀ s ∈ l, s.cases.length ≤ n) : (zz l).length ≤ n + 2 := by
  unfold zz
  split
  · simp
  · rename_i s hs
    have := h s (List.mem_of_getLast? hs)
    have := zoq (s := s)
    omega
theorem zjk {bl : List Bl} {b : Bl} (h : b ∈ bl) : b.stmts.length ≤ zA bl := by
  induction bl with
  | nil => cases h
  | cons x l ih =>
    simp only [zA, List.map_cons, List.sum_cons] at ih ⊢
    rcases List.mem_cons.1 h with rfl | h
    · omega
    · have := ih h; omega
theorem GoodB.univ {U exit : List Int} {bl : List Bl} (h : GoodB U exit bl) : UnivB U exit bl := by
  refine ⟨h.he, h.hu, fun b hb s hs => (h.hsz b hb s hs).1, h.cost, fun b hb => ⟨fun s hs => ?_, ?_, ?_⟩, h.len⟩
  · have := (h.hsz b hb s hs).2; omega
  · exact Nat.le_trans (zjk hb) h.cnt
  · have := zg1 (l := b.stmts) (n := 100000) fun s hs => (h.hsz b hb s hs).2
    omega
theorem GoodB.sub {U exit : List Int} {a b : List Bl} (h : GoodB U exit b) (k : SubB a b) : GoodB U exit a := by
  refine ⟨h.he, fun x hx s hs => ?_, fun x hx s hs => ?_, fun x hx => ?_, Nat.le_trans k.count h.cnt, by rw [k.1]; exact h.len⟩
  · obtain ⟨y, hy, _, h2⟩ := k.mem hx
    exact h.hu y hy s (h2.mem hs)
  · obtain ⟨y, hy, _, h2⟩ := k.mem hx
    exact h.hsz y hy s (h2.mem hs)
  · obtain ⟨y, hy, _, h2⟩ := k.mem hx
    have := ztS (k := exit.length) h2
    have := h.cost y hy
    omega
def znE (exit : List Int) : Nat → List Bl → List Bl
  | 0, bl => bl
  | k + 1, bl => if zA (zb4 exit bl) = zA bl then bl else znE exit k (zb4 exit bl)
theorem zoo {exit : List Int} : ∀ (k : Nat) (bl : List Bl), SubB (znE exit k bl) bl
  | 0, bl => SubB.rfl'
  | k + 1, bl => by
    unfold znE
    split
    · exact SubB.rfl'
    · exact (zoo k _).trans zcI
theorem zmz {exit : List Int} : ∀ (k k' : Nat) (bl : List Bl), zA bl < k → zA bl < k' → znE exit k bl = znE exit k' bl
  | 0, _, bl, h, _ => absurd h (Nat.not_lt_zero _)
  | _ + 1, 0, bl, _, h => absurd h (Nat.not_lt_zero _)
  | k + 1, k' + 1, bl, h, h' => by
    unfold znE
    split
    · rfl
    · have := (zcI (exit := exit) (bl := bl)).count
      exact zmz k k' _ (by omega) (by omega)
def zl5 (exit : List Int) (bl : List Bl) : List Bl := znE exit (zA bl + 1) bl
inductive SubD (exit e : List Int) : List St → List St → Prop
  | nil : SubD exit e [] []
  | keep {s : St} {x y : List St} : SubD exit e x y → SubD exit e (s :: x) (s :: y)
  | drop {s : St} {x y : List St} : SubD exit e x y → remS s (zcZ exit x e) = true → SubD exit e x (s :: y)
def ztq (exit e : List Int) : List St → List St
  | [] => []
  | s :: l => if remS s (zcZ exit l e) = true then ztq exit e l else s :: ztq exit e l
structure RelD (exit : List Int) (x y : List Bl) : Prop where
  len : x.length = y.length
  blk : ∀ i (h1 : i < x.length) (h2 : i < y.length), x[i].addr = y[i].addr ∧ SubD exit (zaS exit x i) x[i].stmts y[i].stmts
def zsZ (exit : List Int) (bl : List Bl) : List Bl := bl.mapIdx fun i b => ⟨b.addr, ztq exit (zaS exit bl i) b.stmts⟩
def deadR (exit : List Int) : Nat → List Bl → List Bl
  | 0, bl => bl
  | k + 1, bl => if zA (zsZ exit bl) = zA bl then zsZ exit bl else deadR exit k (zsZ exit bl)
structure OkG (g : G) : Prop where
  len : g.blocks.length ≤ 256
  cnt : zA g.blocks ≤ 1024
  ne : g.blocks ≠ []
  closed : ∀ b ∈ g.blocks, b.stmts ≠ [] ∧ zlk b.stmts = true ∧ ∀ t ∈ zz b.stmts, 0 ≤ t ∧ t < g.blocks.length
  chk : ∀ b ∈ g.blocks, ∀ s ∈ b.stmts, s.check = 0
def st0 : St := ⟨0, 0, 0, 0, 0, 0, [], []⟩
def revP (l : List St) (i x : Nat) : St := if x < i ∨ l.length - i ≤ x then l.getD (l.length - 1 - x) st0 else l.getD x st0
def revL (l : List St) (i : Nat) : List St := (List.range l.length).map (revP l i)
theorem zw3 {l : List St} {i : Nat} : (revL l i).length = l.length := by simp [revL]
theorem znW {l : List St} : revL l 0 = l := by
  apply List.ext_getElem?
  intro x
  unfold revL revP
  by_cases hx : x < l.length
  · have : ¬ l.length ≤ x := by omega
    simp [hx, List.getD_eq_getElem?_getD, this]
  · simp [hx]
theorem zv1 {l : List St} {i : Nat} (h : l.length ≤ 2 * i + 1) : revL l i = l.reverse := by
  apply List.ext_getElem?
  intro x
  unfold revL revP
  by_cases hx : x < l.length
  · rw [List.getElem?_reverse hx]
    simp only [List.getElem?_map, List.getElem?_range hx, Option.map_some]
    by_cases hc : x < i ∨ l.length - i ≤ x
    · rw [if_pos hc]
      rw [List.getD_eq_getElem?_getD, List.getElem?_eq_getElem (show l.length - 1 - x < l.length by omega)]
      rfl
    · rw [if_neg hc, show l.length - 1 - x = x by omega, List.getD_eq_getElem?_getD, List.getElem?_eq_getElem hx]
      rfl
  · simp [hx]
theorem zrl {l : List St} {i x : Nat} (hx : x < l.length) : ((revL l i).map St.cells).getD x [] = (revP l i x).cells := by
  simp [revL, List.getD_eq_getElem?_getD, hx]
theorem ztX {l : List St} {i : Nat} (h : 2 * i + 1 < l.length) :
    (((revL l i).map St.cells).set i (revP l i (l.length - 1 - i)).cells).set (l.length - 1 - i) (revP l i i).cells = (revL l (i + 1)).map St.cells := by
  unfold revL
  rw [List.map_map, List.map_map, zd8, zd8]
  refine List.map_congr_left fun x hx => ?_
  have hx' := List.mem_range.1 hx
  unfold updF
  simp only [Function.comp]
  by_cases h1 : x = l.length - 1 - i
  · rw [if_pos h1]
    unfold revP
    rw [if_neg (by omega), if_pos (by omega), show l.length - 1 - x = i by omega]
  · rw [if_neg h1]
    by_cases h2 : x = i
    · rw [if_pos h2]
      unfold revP
      rw [if_neg (by omega), if_pos (by omega), h2]
    · rw [if_neg h2]
      unfold revP
      by_cases h3 : x < i ∨ l.length - i ≤ x
      · rw [if_pos h3, if_pos (by omega)]
      · rw [if_neg h3, if_neg (by omega)]
theorem renS {ρ : Nat → Nat} {l : List St} {g : Nat} : AObj.ren ρ (.row 8 (l.map St.cells) g) = .row 8 (l.map St.cells) g := by
  simp only [AObj.ren]
  rw [zfU (zg fun s => s.flat)]
theorem zi9 (l : List St) (g : Nat) (hl : l.length ≤ 1000000) : zS Tryz.prog zae [.own 0 0 g 0 l.length] [(0, .row 8 (l.map St.cells) g)] 1
    (fun v H nx => v = .tup [] ∧ H = [(0, .row 8 (l.reverse.map St.cells) g)] ∧ nx = 1) := by
  refine zbD (fn_x zcB rfl ?_)
  unfold zaN
  have hB := hBig
  (repeat first | simp (disch := try exact dis1) only [evD, Nat.reduceBEq, Nat.reduceAdd, Nat.reduceLeDiff] | with_reducible intro _ | ((with_reducible apply And.intro); omega))
  refine zm (fun i : Nat => ([(0, .own 0 0 g 0 l.length), (2, .int .i64 i), (3, .int .i64 ((l.length : Int) - 1 - i))], [(0, .row 8 ((revL l i).map St.cells) g)])) 1 (fun i => 2 * i ≤ l.length + 1) (fun i => l.length + 1 - i) 0 (by omega) (Ent.tabB [(0, 0, 0)] [] rfl rfl rfl (by (try simp only [evWB, Nat.reduceBEq, Nat.reduceAdd, Nat.reduceSub, Nat.reduceLeDiff, Nat.reduceLT, implies_true, znW]) <;> exact fin2) (by (try simp only [evWB, Nat.reduceBEq, Nat.reduceAdd, Nat.reduceSub, Nat.reduceLeDiff, Nat.reduceLT, implies_true, znW]) <;> exact fin2)) ?_
  intro i hi wf
  unfold zaC
  (repeat first | simp (disch := try exact dis1) only [evD, Nat.reduceBEq, Nat.reduceAdd, Nat.reduceLeDiff] | with_reducible intro _ | ((with_reducible apply And.intro); omega))
  (refine zao (fun h => ?_) (fun h => ?_)) <;> (try simp only [dcd] at h)
  · have e : ((l.length : Int) - 1 - i).toNat = l.length - 1 - i := by omega
    have hsw := ztX (l := l) (i := i) (by omega)
    have g1 := zrl (l := l) (i := i) (show l.length - 1 - i < l.length by omega)
    have g2 := zrl (l := l) (i := i) (show i < l.length by omega)
    (repeat first | simp (disch := try exact dis1) only [evD, Nat.reduceBEq, Nat.reduceAdd, Nat.reduceLeDiff, e, zw3, g1, g2, St.len, St.eight, List.length_set] | with_reducible intro _ | ((with_reducible apply And.intro); omega))
    rw [hsw]
    exact ⟨i + 1, by omega, by omega, (Ent.tabB [(0, 0, 0)] [] rfl rfl rfl (by (try simp only [evWB, Nat.reduceBEq, Nat.reduceAdd, Nat.reduceSub, Nat.reduceLeDiff, Nat.reduceLT, implies_true]) <;> exact fin2) (by (try simp only [evWB, Nat.reduceBEq, Nat.reduceAdd, Nat.reduceSub, Nat.reduceLeDiff, Nat.reduceLT, implies_true]) <;> exact fin2))⟩
  · (repeat first | simp (disch := try exact dis1) only [evD, Nat.reduceBEq, Nat.reduceAdd, Nat.reduceLeDiff, zaO] | with_reducible intro _ | ((with_reducible apply And.intro); omega))
    refine ⟨.tup [], [(0, .row 8 (l.reverse.map St.cells) g)], 1, ?_, rfl, rfl, rfl⟩
    rw [zv1 (by omega)]
    exact (Ent.tabB [(0, 0, 0)] [] rfl rfl rfl (by (try simp only [evWB, Nat.reduceBEq, Nat.reduceAdd, Nat.reduceSub, Nat.reduceLeDiff, Nat.reduceLT, implies_true]) <;> exact fin2) (by (try simp only [evWB, Nat.reduceBEq, Nat.reduceAdd, Nat.reduceSub, Nat.reduceLeDiff, Nat.reduceLT, implies_true]) <;> exact fin2))
end Go.Ab
