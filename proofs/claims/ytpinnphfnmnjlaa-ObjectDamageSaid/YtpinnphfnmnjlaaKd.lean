/-
  Part 4 of the proof: how the calls of this program run, over values instead of memory, and what each function computes.
-/
import Derived.Test.YtpinnphfnmnjlaaKc
set_option linter.unusedVariables false
set_option linter.unusedSimpArgs false
set_option linter.unnecessarySimpa false
set_option linter.unusedSectionVars false

namespace Go.Ab
open Go.RowKit

section
variable {P : Program}

def KEq (K K' : Kn) : Prop := ∀ i, K.get i = K'.get i

theorem Kn.get_drop' (K : Kn) (l : List Nat) (x : Nat) : (K.drop l).get x = bif memN l x then .undef else K.get x := by
  induction K with
  | nil => cases memN l x <;> rfl
  | cons p t ih =>
    obtain ⟨j, u⟩ := p
    simp only [Kn.drop]
    cases hm : memN l j with
    | true =>
      simp only [cond_true, ih, Kn.get]
      cases hb : Nat.beq j x with
      | true => rw [beq_true hb] at hm; rw [hm]; rfl
      | false => rfl
    | false =>
      simp only [cond_false, Kn.get, ih]
      cases hb : Nat.beq j x with
      | true => rw [beq_true hb] at hm; rw [hm]; rfl
      | false => rfl

theorem KEq.fn {K K' : Kn} (h : KEq K K') : K.get = K'.get := funext h
theorem KEq.rfl' (K : Kn) : KEq K K := fun _ => rfl
theorem KEq.set {K K' : Kn} (h : KEq K K') (d : Nat) (v : AV) : KEq (K.set d v) (K'.set d v) := fun i => by rw [Kn.get_set, Kn.get_set, h i]
theorem KEq.setO {K K' : Kn} (h : KEq K K') (d : Option Nat) (v : AV) : KEq (Go.Ab.setO K d v) (Go.Ab.setO K' d v) := by
  cases d with
  | none => exact h
  | some d => exact h.set d v
theorem KEq.drop {K K' : Kn} (h : KEq K K') (l : List Nat) : KEq (K.drop l) (K'.drop l) := fun i => by rw [Kn.get_drop', Kn.get_drop', h i]

theorem ExK_ext {fx : Bool} {o : AOper} {K K' : Kn} {H : AH} {nx : Nat} {k k' : Kn → AH → Nat → Prop} (hk : ∀ K K' H nx, KEq K K' → k K H nx → k' K' H nx) (hK : KEq K K') (h : ExK P fx o K H nx k) : ExK P fx o K' H nx k' := by
  have key : bodyK P fx o.op K.get H nx (fun v H' nx' => k (setO K o.dst v) H' nx') → bodyK P fx o.op K'.get H nx (fun v H' nx' => k' (setO K' o.dst v) H' nx') := fun h => by
    rw [← hK.fn]
    exact bodyK_mono (fun v H nx h => hk _ _ _ _ (hK.setO _ _) h) h
  unfold ExK at *
  cases hg : o.guard with
  | none => rw [hg] at h; exact key h
  | some p =>
    obtain ⟨t, want⟩ := p
    rw [hg] at h
    simp only at h ⊢
    rw [← hK t]
    cases hv : grd want (K.get t) with
    | some b => rw [hv] at h; exact ⟨fun e => key (h.1 e), fun e => hk _ _ _ _ (hK.setO _ _) (h.2 e)⟩
    | none => rw [hv] at h; exact h

def QLe (Q Q' : QT) : Prop := ∀ e K K' H nx, KEq K K' → Q e K H nx → Q' e K' H nx
def QExt (Q : QT) : Prop := QLe Q Q

theorem aops_ext {Q Q' : QT} (hq : QLe Q Q') {drop : List Nat} : ∀ {os : List AOper} {K K' : Kn} {H : AH} {nx : Nat}, KEq K K' → aops P os drop Q K H nx → aops P os drop Q' K' H nx
  | [], _, _, _, _, hK, h => hq _ _ _ _ _ (hK.drop _) h
  | _ :: _, _, _, _, _, hK, h => ExK_ext (fun _ _ _ _ hK h => aops_ext hq hK h) hK h

theorem awpT_ext {Q Q' : QT} (hq : QLe Q Q') {drop : List Nat} : ∀ {t : DTree} {K K' : Kn} {H : AH} {nx : Nat}, KEq K K' → awpT P t drop Q K H nx → awpT P t drop Q' K' H nx
  | .done, _, _, _, _, hK, h => hq _ _ _ _ _ (hK.drop _) h
  | .stop, _, _, _, _, _, _ => trivial
  | .step _ _, _, _, _, _, hK, h => ExK_ext (fun _ _ _ _ hK h => awpT_ext hq hK h) hK h
  | .alt _ _ _, _, _, _, _, hK, h => ⟨ExK_ext (fun _ _ _ _ hK h => awpT_ext hq hK h) hK h.1, awpT_ext hq hK h.2⟩

theorem Ent.ext {B : Nat} {K K' K2 : Kn} {H H2 : AH} {nx nx2 : Nat} (hK : KEq K K') (h : Ent B K H nx K2 H2 nx2) : Ent B K' H nx K2 H2 nx2 := ⟨h.1, fun w L ι tmps rel hk => h.2 w L ι tmps rel (by rw [hK.fn]; exact hk)⟩

/-- What light code asks depends on the slots' values alone; it asks less for a weaker end. -/
theorem awp_ext {B : Nat} : ∀ {c : ACode} {Q Q' : QT} {K K' : Kn} {H : AH} {nx : Nat}, QLe Q Q' → KEq K K' → awp P B c Q K H nx → awp P B c Q' K' H nx := by
  intro c
  induction c with
  | skip => intro Q Q' K K' H nx hq hK h; exact hq _ _ _ _ _ hK h
  | region os drop => intro Q Q' K K' H nx hq hK h; exact aops_ext hq hK h
  | draw t drop => intro Q Q' K K' H nx hq hK h; exact awpT_ext hq hK h
  | seq a b iha ihb =>
    intro Q Q' K K' H nx hq hK h
    refine iha (fun e K K' H nx hK h => ?_) hK h
    cases e with
    | normal => exact @ihb Q Q' K K' H nx hq hK h
    | exit id => exact hq _ _ _ _ _ hK h
    | ret => exact hq _ _ _ _ _ hK h
  | cond c a b iha ihb =>
    intro Q Q' K K' H nx hq hK h
    unfold awp at h ⊢
    have e : ev K'.get c = ev K.get c := by rw [hK.fn]
    rw [e]
    cases hv : ev K.get c <;> rw [hv] at h <;> first | exact h | skip
    exact ⟨fun e => iha hq hK (h.1 e), fun e => ihb hq hK (h.2 e)⟩
  | block id c ih =>
    intro Q Q' K K' H nx hq hK h
    refine ih (fun e K K' H nx hK h => ?_) hK h
    cases e with
    | normal => exact hq _ _ _ _ _ hK h
    | exit id' =>
      simp only at h ⊢
      cases hb : Nat.beq id' id <;> rw [hb] at h <;> exact hq _ _ _ _ _ hK h
    | ret => exact hq _ _ _ _ _ hK h
  | loop c ih =>
    intro Q Q' K K' H nx hq hK h
    obtain ⟨α, S, N, inv, μ, ⟨a, ha, he⟩, hb⟩ := h
    refine ⟨α, S, N, inv, μ, ⟨a, ha, he.ext hK⟩, fun a ha hw => ih (fun e K K' H nx hK h => ?_) (KEq.rfl' _) (hb a ha hw)⟩
    cases e with
    | normal => obtain ⟨a', h1, h2, h3⟩ := h; exact ⟨a', h1, h2, h3.ext hK⟩
    | exit id => exact hq _ _ _ _ _ hK h
    | ret => exact hq _ _ _ _ _ hK h
  | exit id => intro Q Q' K K' H nx hq hK h; exact hq _ _ _ _ _ hK h
  | ret => intro Q Q' K K' H nx hq hK h; exact hq _ _ _ _ _ hK h
  | mark n c ih =>
    intro Q Q' K K' H nx hq hK h hw
    obtain ⟨K2, H2, nx2, h1, h2⟩ := h (fun i => by rw [hK i]; exact hw i)
    exact ⟨K2, H2, nx2, h1.ext hK, ih hq (KEq.rfl' _) h2⟩
  | join a b iha ihb =>
    intro Q Q' K K' H nx hq hK h
    obtain ⟨α, S, N, inv, h1, h2⟩ := h
    refine ⟨α, S, N, inv, iha (fun e K K' H nx hK h => ?_) hK h1, fun x hx hw => ihb hq (KEq.rfl' _) (h2 x hx hw)⟩
    cases e with
    | normal => obtain ⟨a', h1, h2⟩ := h; exact ⟨a', h1, h2.ext hK⟩
    | exit id => exact hq _ _ _ _ _ hK h
    | ret => exact hq _ _ _ _ _ hK h
  | scope c ih => intro Q Q' K K' H nx hq hK h; exact ih hq hK h

theorem QExt.seq {B : Nat} {b : ACode} {Q : QT} (h : QExt Q) : QExt (seqQ P B b Q) := by
  intro e K K' H nx hK h'
  cases e with
  | normal => exact awp_ext h hK h'
  | exit id => exact h _ _ _ _ _ hK h'
  | ret => exact h _ _ _ _ _ hK h'
theorem QExt.block {id : Nat} {Q : QT} (h : QExt Q) : QExt (blockQ id Q) := by
  intro e K K' H nx hK h'
  cases e with
  | normal => exact h _ _ _ _ _ hK h'
  | exit id' =>
    unfold blockQ at *
    simp only at h' ⊢
    cases hb : Nat.beq id' id <;> rw [hb] at h' <;> exact h _ _ _ _ _ hK h'
  | ret => exact h _ _ _ _ _ hK h'
theorem QExt.loop {B : Nat} {α : Type} {S : α → Kn × AH} {N : Nat} {inv : α → Prop} {μ : α → Nat} {a : α} {Q : QT} (h : QExt Q) : QExt (loopQ B S N inv μ a Q) := by
  intro e K K' H nx hK h'
  cases e with
  | normal => obtain ⟨a', h1, h2, h3⟩ := h'; exact ⟨a', h1, h2, h3.ext hK⟩
  | exit id => exact h _ _ _ _ _ hK h'
  | ret => exact h _ _ _ _ _ hK h'
theorem QExt.join {B : Nat} {α : Type} {S : α → Kn × AH} {N : Nat} {inv : α → Prop} {Q : QT} (h : QExt Q) : QExt (joinQ B S N inv Q) := by
  intro e K K' H nx hK h'
  cases e with
  | normal => obtain ⟨a', h1, h2⟩ := h'; exact ⟨a', h1, h2.ext hK⟩
  | exit id => exact h _ _ _ _ _ hK h'
  | ret => exact h _ _ _ _ _ hK h'
theorem retSide_ext {K K' : Kn} {H : AH} {nx : Nat} (hK : KEq K K') (rs : List ARet) (h : retSide K H nx rs) : retSide K' H nx rs := by
  induction rs with
  | nil => exact h
  | cons r rs ih =>
    cases r with
    | tmp t => exact ih h
    | cell t a n =>
      unfold retSide at h ⊢
      rw [← hK t]
      exact ⟨h.1, ih h.2⟩
theorem retVals_ext {K K' : Kn} {H : AH} {nx : Nat} (hK : KEq K K') (rs : List ARet) : retVals K H nx rs = retVals K' H nx rs := by
  induction rs with
  | nil => rfl
  | cons r rs ih =>
    cases r with
    | tmp t =>
      unfold retVals
      rw [hK t, ih]
    | cell t a n =>
      unfold retVals
      rw [hK t, ih]
theorem QExt.retK {rs : List ARet} {Post : AV → AH → Nat → Prop} : QExt (retK rs Post) := by
  intro e K K' H nx hK h'
  unfold Go.Ab.retK at *
  cases e with
  | exit id => exact h'
  | normal => exact ⟨retSide_ext hK _ h'.1, by rw [← retVals_ext hK]; exact h'.2⟩
  | ret => exact ⟨retSide_ext hK _ h'.1, by rw [← retVals_ext hK]; exact h'.2⟩

/-! ### A region that draws its order -/

theorem ExK_mono {fx : Bool} {o : AOper} {K : Kn} {H : AH} {nx : Nat} {k k' : Kn → AH → Nat → Prop} (hk : ∀ K H nx, k K H nx → k' K H nx) (h : ExK P fx o K H nx k) : ExK P fx o K H nx k' := by
  unfold ExK at *
  cases hg : o.guard with
  | none => rw [hg] at h; exact bodyK_mono (fun v H nx h => hk _ _ _ h) h
  | some p =>
    obtain ⟨t, want⟩ := p
    rw [hg] at h
    simp only at h ⊢
    cases hv : grd want (K.get t) with
    | some b => rw [hv] at h; exact ⟨fun e => bodyK_mono (fun v H nx h => hk _ _ _ h) (h.1 e), fun e => hk _ _ _ (h.2 e)⟩
    | none => rw [hv] at h; exact h

theorem alt_of {drop : List Nat} {Q : QT} {K : Kn} {H : AH} {nx : Nat} (l : List (AOper × DTree)) (h : ∀ p ∈ l, ExK P false p.1 K H nx (awpT P p.2 drop Q)) : awpT P (altOf l) drop Q K H nx := by
  induction l with
  | nil => trivial
  | cons p l ih => exact ⟨h p (List.mem_cons_self ..), ih fun q hq => h q (List.mem_cons_of_mem _ hq)⟩

/-- What holds of the states is kept by each operation that may come. -/
theorem draw_inv {ops : List AOper} {deps : List (List Nat)} {drop : List Nat} {Q : QT} (Inv : List Bool → Kn → AH → Nat → Prop)
    (hstep : ∀ l K H nx i, l.length = ops.length → Inv l K H nx → i < ops.length → readyA deps l i = true → ExK P false (ops.getD i default) K H nx (Inv (l.set i true)))
    (hend : ∀ l K H nx, l.length = ops.length → Inv l K H nx → (∀ i, i < ops.length → readyA deps l i = false) → Q .normal (K.drop drop) H nx) :
    ∀ (fuel : Nat) (l : List Bool) (K : Kn) (H : AH) (nx : Nat), l.length = ops.length → toCome l ≤ fuel → Inv l K H nx → awpT P (mkTree ops deps fuel l) drop Q K H nx
  | 0, l, K, H, nx, hl, hc, h => by
    refine hend l K H nx hl h fun i hi => ?_
    have := toCome_zero (l := l) (by omega) i (by omega)
    unfold readyA
    rw [this]
    rfl
  | fuel + 1, l, K, H, nx, hl, hc, h => by
    simp only [mkTree]
    have mem : ∀ i, i ∈ (List.range ops.length).filter (readyA deps l) → i < ops.length ∧ readyA deps l i = true := fun i hi => by
      have := List.mem_filter.1 hi
      exact ⟨List.mem_range.1 this.1, this.2⟩
    have next : ∀ i, i < ops.length → readyA deps l i = true → ExK P false (ops.getD i default) K H nx (awpT P (mkTree ops deps fuel (l.set i true)) drop Q) := fun i hi hr => by
      refine ExK_mono (fun K H nx hh => ?_) (hstep l K H nx i hl h hi hr)
      refine draw_inv Inv hstep hend fuel _ K H nx (by simpa using hl) ?_ hh
      have := toCome_set (l := l) (i := i) (by omega) (readyA_spec.1 hr).1
      omega
    cases hr : (List.range ops.length).filter (readyA deps l) with
    | nil =>
      refine hend l K H nx hl h fun i hi => ?_
      cases hb : readyA deps l i with
      | false => rfl
      | true =>
        have : i ∈ (List.range ops.length).filter (readyA deps l) := List.mem_filter.2 ⟨List.mem_range.2 hi, hb⟩
        rw [hr] at this
        simp at this
    | cons i0 r0 =>
      simp only
      cases hf : (i0 :: r0).find? (freeA ops deps l) with
      | some i =>
        have := mem i (by rw [hr]; exact List.mem_of_find?_eq_some hf)
        exact next i this.1 this.2
      | none =>
        refine alt_of _ fun p hp => ?_
        obtain ⟨i, hi, rfl⟩ := List.mem_map.1 hp
        have := mem i (by rw [hr]; exact hi)
        exact next i this.1 this.2

/-! The state of a region: the slots of the operations done have their values; the rows are those after so many calls. -/

def setAll : Kn → List (Nat × AV) → Kn
  | K, [] => K
  | K, (d, v) :: r => setAll (K.set d v) r

def dstEq (Kf : Kn) : Option Nat → Kn → Prop
  | none, _ => True
  | some d, K => K.get d = Kf.get d

/-- What one operation asks: over the slots' values, from these rows to those. -/
def stepC (P : Program) (Kf : Kn) (o : AOper) (a b : AH × Nat) : Prop := restX P (.tree (.step o .done)) [] (fun _ K H nx => dstEq Kf o.dst K ∧ H = b.1 ∧ nx = b.2) Kf a.1 a.2

abbrev Plan := List (Nat × List Nat × List Nat)
def planP (P : Program) (ops : List AOper) (Kf : Kn) (hs : List Nat → AH × Nat) : Plan → Prop
  | [] => True
  | (i, S, S') :: r => stepC P Kf (ops.getD i default) (hs S) (hs S') ∧ planP P ops Kf hs r

def beqL : List Nat → List Nat → Bool
  | [], [] => true
  | a :: l, b :: m => Nat.beq a b && beqL l m
  | _, _ => false
theorem beqL_true : ∀ {l m : List Nat}, beqL l m = true → l = m
  | [], [], _ => rfl
  | a :: l, b :: m, h => by
    simp only [beqL, Bool.and_eq_true] at h
    rw [beq_true h.1, beqL_true h.2]
  | [], _ :: _, h => by cases h
  | _ :: _, [], h => by cases h

def memP : Plan → Nat → List Nat → List Nat → Bool
  | [], _, _, _ => false
  | (i, k, k') :: r, a, b, c => (Nat.beq i a && (beqL k b && beqL k' c)) || memP r a b c

def anyP : Plan → Nat → Bool
  | [], _ => false
  | (i, k, k') :: r, a => (Nat.beq i a && beqL k k') || anyP r a

def memS : List (List Nat) → List Nat → Bool
  | [], _ => false
  | a :: r, b => beqL a b || memS r b
theorem memS_iff : ∀ {l : List (List Nat)} {b : List Nat}, memS l b = true → b ∈ l
  | [], _, h => by cases h
  | a :: r, b, h => by
    simp only [memS, Bool.or_eq_true] at h
    rcases h with h | h
    · rw [beqL_true h]; simp
    · exact List.mem_cons_of_mem _ (memS_iff h)

theorem planP_mem {ops : List AOper} {Kf : Kn} {hs : List Nat → AH × Nat} : ∀ {l : Plan}, planP P ops Kf hs l → ∀ {a : Nat} {b c : List Nat}, memP l a b c = true → stepC P Kf (ops.getD a default) (hs b) (hs c)
  | [], _, _, _, _, h => by cases h
  | (i, k, k') :: r, h, a, b, c, hm => by
    simp only [memP, Bool.or_eq_true, Bool.and_eq_true] at hm
    rcases hm with ⟨h1, h2, h3⟩ | hm
    · rw [← beq_true h1, ← beqL_true h2, ← beqL_true h3]; exact h.1
    · exact planP_mem h.2 hm
theorem planP_any {ops : List AOper} {Kf : Kn} {hs : List Nat → AH × Nat} : ∀ {l : Plan}, planP P ops Kf hs l → ∀ {a : Nat}, anyP l a = true → ∃ b, stepC P Kf (ops.getD a default) (hs b) (hs b)
  | [], _, _, h => by cases h
  | (i, k, k') :: r, h, a, hm => by
    simp only [anyP, Bool.or_eq_true, Bool.and_eq_true] at hm
    rcases hm with ⟨h1, h2⟩ | hm
    · rw [← beq_true h1]; have := h.1; rw [← beqL_true h2] at this; exact ⟨_, this⟩
    · exact planP_any h.2 hm

/-- May operation i come, when of those that change rows S are done? -/
def compat (Ls : List Nat) (A : List (List Nat)) (i : Nat) (S : List Nat) : Bool :=
  !memN S i && (Ls.all (fun m => !memN (A.getD i []) m || memN S m) && S.all fun m => !memN (A.getD m []) i)
def nextS (Ls : List Nat) (i : Nat) (S : List Nat) : List Nat := Ls.filter fun m => Nat.beq m i || memN S m

/-- The checks over numbers. A: what must come before each operation, closed; St: which of the operations that change rows (Ls) may be done together. -/
structure DrawOk (ops : List AOper) (deps : List (List Nat)) (Ls : List Nat) (A : List (List Nat)) (St : List (List Nat)) (plan : Plan) (ks : List Nat) : Prop where
  low : ∀ (i : Nat), i < ops.length → ∀ j ∈ deps.getD i [], j < i
  clo : ∀ (i : Nat), i < ops.length → ∀ j ∈ A.getD i [], j ∈ deps.getD i [] ∨ ∃ d ∈ deps.getD i [], j ∈ A.getD d []
  one : ∀ (i j d : Nat), i < ops.length → j < ops.length → (ops.getD i default).dst = some d → (ops.getD j default).dst = some d → i = j
  keys : ∀ k ∈ ks, ∃ o ∈ ops, o.dst = some k
  look : ∀ (i : Nat), i < ops.length → ∀ t ∈ (ops.getD i default).looks, (∃ j ∈ A.getD i [], (ops.getD j default).dst = some t) ∨ ∀ o ∈ ops, o.dst ≠ some t
  lin : ∀ i ∈ Ls, i < ops.length
  st0 : [] ∈ St
  stc : ∀ S ∈ St, ∀ i ∈ Ls, compat Ls A i S = true → nextS Ls i S ∈ St
  plan : ∀ (i : Nat), i < ops.length → ((ops.getD i default).fixed = true ∧ (ops.getD i default).sees = false ∧ i ∉ Ls ∧ anyP plan i = true) ∨
    (i ∉ Ls ∧ ∀ S ∈ St, compat Ls A i S = true → memP plan i S S = true) ∨ (i ∈ Ls ∧ ∀ S ∈ St, compat Ls A i S = true → memP plan i S (nextS Ls i S) = true)

def allB (n : Nat) (p : Nat → Bool) : Bool := (List.range n).all p

def drawOk (ops : List AOper) (deps : List (List Nat)) (Ls : List Nat) (A : List (List Nat)) (St : List (List Nat)) (plan : Plan) (ks : List Nat) : Bool :=
  allB ops.length (fun i => (deps.getD i []).all fun j => Nat.blt j i) &&
  allB ops.length (fun i => (A.getD i []).all fun j => memN (deps.getD i []) j || (deps.getD i []).any fun d => memN (A.getD d []) j) &&
  allB ops.length (fun i => allB i fun j => match (ops.getD i default).dst, (ops.getD j default).dst with | some d, some e => !Nat.beq d e | _, _ => true) &&
  ks.all (fun k => ops.any fun o => match o.dst with | some d => Nat.beq d k | none => false) &&
  allB ops.length (fun i => (ops.getD i default).looks.all fun t => ((A.getD i []).any fun j => match (ops.getD j default).dst with | some d => Nat.beq d t | none => false) || ops.all fun o => match o.dst with | some d => !Nat.beq d t | none => true) &&
  Ls.all (fun i => Nat.blt i ops.length) &&
  memS St [] &&
  St.all (fun S => Ls.all fun i => !compat Ls A i S || memS St (nextS Ls i S)) &&
  allB ops.length (fun i => bif memN Ls i then St.all fun S => !compat Ls A i S || memP plan i S (nextS Ls i S)
    else ((ops.getD i default).fixed && (!(ops.getD i default).sees && anyP plan i)) || St.all fun S => !compat Ls A i S || memP plan i S S)

theorem allB_spec {n : Nat} {p : Nat → Bool} (h : allB n p = true) {i : Nat} (hi : i < n) : p i = true := List.all_eq_true.1 h i (List.mem_range.2 hi)

theorem impB {a b : Bool} (h : (!a || b) = true) (ha : a = true) : b = true := by
  subst ha
  simpa using h

theorem drawOk_ok {ops : List AOper} {deps : List (List Nat)} {Ls : List Nat} {A : List (List Nat)} {St : List (List Nat)} {plan : Plan} {ks : List Nat} (h : drawOk ops deps Ls A St plan ks = true) : DrawOk ops deps Ls A St plan ks := by
  unfold drawOk at h
  simp only [Bool.and_eq_true] at h
  obtain ⟨⟨⟨⟨⟨⟨⟨⟨h1, h2⟩, h3⟩, h4⟩, h5⟩, h6⟩, h7⟩, h8⟩, h9⟩ := h
  have hone : ∀ i j d, i < ops.length → j < i → (ops.getD i default).dst = some d → (ops.getD j default).dst = some d → False := fun i j d hi hj e1 e2 => by
    have := allB_spec (allB_spec h3 hi) hj
    rw [e1, e2] at this
    simp [beq_refl'] at this
  constructor
  · intro i hi j hj
    exact Nat.le_of_ble_eq_true (List.all_eq_true.1 (allB_spec h1 hi) j hj)
  · intro i hi j hj
    have := List.all_eq_true.1 (allB_spec h2 hi) j hj
    rcases Bool.or_eq_true_iff.1 this with this | this
    · exact .inl ((memN_iff _ _).1 this)
    · obtain ⟨d, hd, hm⟩ := List.any_eq_true.1 this
      exact .inr ⟨d, hd, (memN_iff _ _).1 hm⟩
  · intro i j d hi hj e1 e2
    rcases Nat.lt_trichotomy i j with h | h | h
    · exact (hone j i d hj h e2 e1).elim
    · exact h
    · exact (hone i j d hi h e1 e2).elim
  · intro k hk
    obtain ⟨o, ho, hd⟩ := List.any_eq_true.1 (List.all_eq_true.1 h4 k hk)
    refine ⟨o, ho, ?_⟩
    cases e : o.dst with
    | none => rw [e] at hd; cases hd
    | some d => rw [e] at hd; rw [beq_true hd]
  · intro i hi t ht
    have := List.all_eq_true.1 (allB_spec h5 hi) t ht
    rcases Bool.or_eq_true_iff.1 this with this | this
    · obtain ⟨j, hj, hd⟩ := List.any_eq_true.1 this
      refine .inl ⟨j, hj, ?_⟩
      cases e : (ops.getD j default).dst with
      | none => rw [e] at hd; cases hd
      | some d => rw [e] at hd; rw [beq_true hd]
    · refine .inr fun o ho e => ?_
      have := List.all_eq_true.1 this o ho
      rw [e] at this
      simp [beq_refl'] at this
  · intro i hi
    exact Nat.le_of_ble_eq_true (List.all_eq_true.1 h6 i hi)
  · exact memS_iff h7
  · intro S hS i hi hc
    exact memS_iff (impB (List.all_eq_true.1 (List.all_eq_true.1 h8 S hS) i hi) hc)
  · intro i hi
    have := allB_spec h9 hi
    cases hm : memN Ls i with
    | true =>
      rw [hm] at this
      exact .inr (.inr ⟨(memN_iff _ _).1 hm, fun S hS hc => impB (List.all_eq_true.1 this S hS) hc⟩)
    | false =>
      rw [hm] at this
      have hno := memN_false hm
      rcases Bool.or_eq_true_iff.1 this with this | this
      · simp only [Bool.and_eq_true, Bool.not_eq_true'] at this
        exact .inl ⟨this.1, this.2.1, hno, this.2.2⟩
      · exact .inr (.inl ⟨hno, fun S hS hc => impB (List.all_eq_true.1 this S hS) hc⟩)

theorem setAll_get : ∀ {vs : List (Nat × AV)} {K : Kn} {t : Nat}, t ∉ vs.map (·.1) → (setAll K vs).get t = K.get t
  | [], _, _, _ => rfl
  | (d, v) :: r, K, t, h => by
    simp only [List.map_cons, List.mem_cons, not_or] at h
    rw [setAll, setAll_get h.2, Kn.get_set, if_neg h.1]

def lookV : List (Nat × AV) → Nat → Option AV
  | [], _ => none
  | (d, v) :: r, t => match lookV r t with
    | some u => some u
    | none => bif Nat.beq d t then some v else none
def orGet (K : Kn) (t : Nat) : Option AV → AV
  | some v => v
  | none => K.get t
theorem setAll_look : ∀ {vs : List (Nat × AV)} {K : Kn} {t : Nat}, (setAll K vs).get t = orGet K t (lookV vs t)
  | [], _, _ => rfl
  | (d, v) :: r, K, t => by
    rw [setAll, setAll_look]
    simp only [lookV]
    cases lookV r t with
    | some u => rfl
    | none =>
      simp only [orGet, Kn.get_set]
      by_cases h : t = d
      · subst h; simp [beq_refl', orGet]
      · simp [h, beq_ne (Ne.symm h), orGet]

/-- The state. -/
structure DInv (ops : List AOper) (deps : List (List Nat)) (Ls : List Nat) (St : List (List Nat)) (Kf : Kn) (hs : List Nat → AH × Nat) (l : List Bool) (K : Kn) (H : AH) (nx : Nat) : Prop where
  clo : ∀ i, i < ops.length → getB l i = true → ∀ j ∈ deps.getD i [], getB l j = true
  done : ∀ i d, i < ops.length → getB l i = true → (ops.getD i default).dst = some d → K.get d = Kf.get d
  rest : ∀ t, (∀ o ∈ ops, o.dst ≠ some t) → K.get t = Kf.get t
  here : Ls.filter (getB l) ∈ St
  rows : (H, nx) = hs (Ls.filter (getB l))

theorem getD_mem {ops : List AOper} {i : Nat} (h : i < ops.length) : ops.getD i default ∈ ops := by
  rw [List.getD_eq_getElem?_getD, List.getElem?_eq_getElem h]
  exact List.getElem_mem h

theorem closed_A {ops : List AOper} {deps : List (List Nat)} {Ls : List Nat} {A : List (List Nat)} {St : List (List Nat)} {plan : Plan} {ks : List Nat} (ok : DrawOk ops deps Ls A St plan ks) {l : List Bool}
    (hc : ∀ i, i < ops.length → getB l i = true → ∀ j ∈ deps.getD i [], getB l j = true) : ∀ (i : Nat), i < ops.length → (∀ j ∈ deps.getD i [], getB l j = true) → ∀ j ∈ A.getD i [], getB l j = true := by
  intro i
  induction i using Nat.strongRecOn with
  | _ i ih =>
    intro hi hd j hj
    rcases ok.clo i hi j hj with h | ⟨d, h1, h2⟩
    · exact hd j h
    · have hlt := ok.low i hi d h1
      exact ih d hlt (by omega) (hc d (by omega) (hd d h1)) j h2

theorem drop_nil_get (K : Kn) (t : Nat) : (K.drop []).get t = K.get t := by
  rw [Kn.get_drop']
  rfl

theorem stepC_of_yld {Kf : Kn} {o : AOper} {H : AH} {nx : Nat} {v : AV} (hf : o.fixed = true) (hy : Yld P o Kf.get H nx v) (hv : ∀ d, o.dst = some d → upd Kf.get o.dst v d = Kf.get d) : stepC P Kf o (H, nx) (H, nx) := by
  have h := ex_of_yld (k := fun ρ H2 nx2 => (∀ d, o.dst = some d → ρ d = Kf.get d) ∧ H2 = H ∧ nx2 = nx) hy ⟨hv, rfl, rfl⟩
  unfold stepC restX
  simp only [awpT]
  unfold ExF at h
  unfold ExK
  have conv : ∀ {v : AV} {H2 : AH} {nx2 : Nat}, ((∀ d, o.dst = some d → upd Kf.get o.dst v d = Kf.get d) ∧ H2 = H ∧ nx2 = nx) → dstEq Kf o.dst ((setO Kf o.dst v).drop []) ∧ H2 = H ∧ nx2 = nx := fun {v H2 nx2} hh => by
    refine ⟨?_, hh.2⟩
    cases e : o.dst with
    | none => trivial
    | some d =>
      have h1 := hh.1 d e
      rw [e, ← setO_get] at h1
      show Kn.get _ d = _
      rw [drop_nil_get]
      exact h1
  cases hg : o.guard with
  | none => rw [hg] at h; exact bodyK_mono (fun v H nx h => conv h) h
  | some p =>
    obtain ⟨t, want⟩ := p
    rw [hg] at h
    simp only at h ⊢
    cases hw : grd want (Kf.get t) with
    | some b => rw [hw] at h; exact ⟨fun e => bodyK_mono (fun v H nx h => conv h) (h.1 e), fun e => by simpa using conv (v := .tup []) (H2 := H) (nx2 := nx) ⟨(h.2 e).1, rfl, rfl⟩⟩
    | none => rw [hw] at h; exact h

theorem stepC_agree {Kf K : Kn} {o : AOper} {H : AH} {nx : Nat} {b : AH × Nat} (hK : ∀ t ∈ o.looks, K.get t = Kf.get t) (h : stepC P Kf o (H, nx) b) :
    ExK P false o K H nx (fun K2 H2 nx2 => dstEq Kf o.dst K2 ∧ (∀ t, o.dst ≠ some t → K2.get t = K.get t) ∧ (H2, nx2) = b) := by
  unfold stepC restX at h
  simp only [awpT] at h
  have conv : ∀ {v : AV} {H2 : AH} {nx2 : Nat}, (dstEq Kf o.dst ((setO Kf o.dst v).drop []) ∧ H2 = b.1 ∧ nx2 = b.2) → dstEq Kf o.dst (setO K o.dst v) ∧ (∀ t, o.dst ≠ some t → (setO K o.dst v).get t = K.get t) ∧ (H2, nx2) = b := fun {v H2 nx2} hh => by
    obtain ⟨h1, h2, h3⟩ := hh
    refine ⟨?_, fun t ht => ?_, by rw [h2, h3]⟩
    · cases e : o.dst with
      | none => trivial
      | some d =>
        rw [e] at h1
        have h4 : Kn.get _ d = _ := h1
        rw [drop_nil_get] at h4
        show Kn.get _ d = _
        rw [← h4]
        simp only [setO, Kn.get_set, if_true]
    · cases e : o.dst with
      | none => rfl
      | some d =>
        have : ¬ t = d := fun e' => ht (by rw [e, e'])
        simp only [setO, Kn.get_set, if_neg this]
  unfold ExK at *
  cases hg : o.guard with
  | none =>
    rw [hg] at h
    simp only at h ⊢
    rw [bodyK_congr (ρ' := Kf.get) (fun t ht => hK t (looks_op ht))]
    exact bodyK_mono (fun v H nx h => conv h) h
  | some p =>
    obtain ⟨t, want⟩ := p
    rw [hg] at h
    simp only at h ⊢
    rw [hK t (looks_guard hg)]
    cases hw : grd want (Kf.get t) with
    | some b =>
      rw [hw] at h
      refine ⟨fun e => ?_, fun e => conv (h.2 e)⟩
      rw [bodyK_congr (ρ' := Kf.get) (fun t ht => hK t (looks_op ht))]
      exact bodyK_mono (fun v H nx h => conv h) (h.1 e)
    | none => rw [hw] at h; exact h

theorem planP_nil {ops : List AOper} {Kf : Kn} {hs : List Nat → AH × Nat} : planP P ops Kf hs [] = True := rfl
theorem planP_cons {ops : List AOper} {Kf : Kn} {hs : List Nat → AH × Nat} {i : Nat} {S S' : List Nat} {r : Plan} : planP P ops Kf hs ((i, S, S') :: r) = (stepC P Kf (ops.getD i default) (hs S) (hs S') ∧ planP P ops Kf hs r) := rfl
theorem dstEq_set {Kf : Kn} {d : Nat} {v : AV} : dstEq Kf (some d) ((Kf.set d v).drop []) = (v = Kf.get d) := by
  show (((Kf.set d v).drop []).get d = Kf.get d) = _
  rw [drop_nil_get, Kn.get_set, if_pos rfl]
theorem dstEq_none {Kf K : Kn} : dstEq Kf none K = True := rfl
/-- What is left of the slots that a region sets. -/
def keepV (drop : List Nat) : List (Nat × AV) → List (Nat × AV)
  | [] => []
  | (d, v) :: r => bif memN drop d then keepV drop r else (d, v) :: keepV drop r
theorem lookV_keep {drop : List Nat} {t : Nat} : ∀ {vs : List (Nat × AV)}, lookV (keepV drop vs) t = bif memN drop t then none else lookV vs t
  | [] => by cases memN drop t <;> rfl
  | (d, v) :: r => by
    have ih := lookV_keep (drop := drop) (t := t) (vs := r)
    simp only [keepV, lookV]
    cases hd : memN drop d with
    | true =>
      simp only [cond_true, ih]
      cases ht : memN drop t with
      | true => rfl
      | false =>
        have : Nat.beq d t = false := beq_ne fun e => by rw [e, ht] at hd; cases hd
        simp only [cond_false, this]
        cases lookV r t <;> rfl
    | false =>
      simp only [cond_false, lookV, ih]
      cases ht : memN drop t with
      | true =>
        have : Nat.beq d t = false := beq_ne fun e => by rw [e, ht] at hd; cases hd
        simp only [cond_true, this, cond_false]
      | false => simp only [cond_false]
theorem keepV_eq {drop : List Nat} {vs kept : List (Nat × AV)} {K0 : Kn} (h : keepV drop vs = kept) : KEq (setAll (K0.drop drop) kept) ((setAll K0 vs).drop drop) := fun t => by
  rw [← h, setAll_look, lookV_keep, Kn.get_drop', setAll_look]
  cases ht : memN drop t with
  | true => simp only [cond_true, orGet, Kn.get_drop', ht]
  | false =>
    simp only [cond_false]
    cases lookV vs t with
    | some v => rfl
    | none => simp only [orGet, Kn.get_drop', ht, cond_false]

/-- The rows after so many of the operations that change rows. -/
def hsOf (l : List (AH × Nat)) (S : List Nat) : AH × Nat := l.getD S.length ([], 0)

/-- A REGION that draws its order, operation by operation. Ls: the operations that change rows; hs: the rows, by which of them are done; vs: the slots' values. -/
theorem draw_det {ops : List AOper} {deps : List (List Nat)} {drop : List Nat} {Q : QT} {K0 : Kn} {H0 : AH} {nx0 n : Nat} (Ls : List Nat) (A St : List (List Nat)) (plan : Plan) (vs : List (Nat × AV)) (hs : List Nat → AH × Nat)
    (hc : drawOk ops deps Ls A St plan (vs.map (·.1)) = true) (hn : n = ops.length) (h0 : hs [] = (H0, nx0)) (hq : QExt Q) (hp' : ∀ (Kf : Kn) (hs' : List Nat → AH × Nat), Kf = setAll K0 vs → hs' = hs → planP P ops Kf hs' plan)
    (kept : List (Nat × AV)) (hkept : keepV drop vs = kept)
    (he : Q .normal (setAll (K0.drop drop) kept) (hs Ls).1 (hs Ls).2) :
    restX P (.tree (mkTree ops deps n (List.replicate n false))) drop Q K0 H0 nx0 := by
  have ok := drawOk_ok hc
  have hp := hp' _ _ rfl rfl
  subst hn
  have getR : ∀ i, getB (List.replicate ops.length false) i = false := fun i => by
    unfold getB
    rw [List.getD_eq_getElem?_getD, List.getElem?_replicate]
    split <;> rfl
  have noR : Ls.filter (getB (List.replicate ops.length false)) = [] := by
    rw [List.filter_eq_nil_iff]
    intro i _
    rw [getR]
    simp
  have hcome : ∀ m, toCome (List.replicate m false) = m := by
    intro m
    induction m with
    | zero => rfl
    | succ m ih => rw [List.replicate_succ, toCome, ih]; simp; omega
  refine draw_inv (DInv ops deps Ls St (setAll K0 vs) hs) ?_ ?_ ops.length _ K0 H0 nx0 (by simp) (by rw [hcome]; omega) ⟨fun i _ h => (by rw [getR] at h; cases h), fun i d _ h => (by rw [getR] at h; cases h), fun t ht => ?_, ?_, ?_⟩
  · intro l K H nx i hl inv hi hr
    obtain ⟨hun, hdeps⟩ := readyA_spec.1 hr
    have hA := closed_A ok inv.clo i hi hdeps
    have hlk : ∀ t ∈ (ops.getD i default).looks, K.get t = (setAll K0 vs).get t := fun t ht => by
      rcases ok.look i hi t ht with ⟨j, hj, hd⟩ | h
      · have hjl := hA j hj
        have hjn : j < ops.length := by
          apply Classical.byContradiction
          intro hcon
          unfold getB at hjl
          rw [List.getD_eq_getElem?_getD, List.getElem?_eq_none (by omega)] at hjl
          cases hjl
        exact inv.done j t hjn hjl hd
      · exact inv.rest t h
    have hcomp : compat Ls A i (Ls.filter (getB l)) = true := by
      unfold compat
      simp only [Bool.and_eq_true, Bool.not_eq_true', List.all_eq_true, Bool.or_eq_true]
      refine ⟨?_, fun m hm => ?_, fun m hm => ?_⟩
      · cases hb : memN (Ls.filter (getB l)) i with
        | false => rfl
        | true =>
          have := (List.mem_filter.1 ((memN_iff _ _).1 hb)).2
          rw [hun] at this
          cases this
      · cases hb : memN (A.getD i []) m with
        | false => exact .inl rfl
        | true => exact .inr ((memN_iff _ _).2 (List.mem_filter.2 ⟨hm, hA m ((memN_iff _ _).1 hb)⟩))
      · obtain ⟨hmL, hml⟩ := List.mem_filter.1 hm
        cases hb : memN (A.getD m []) i with
        | false => rfl
        | true =>
          have := closed_A ok inv.clo m (ok.lin m hmL) (inv.clo m (ok.lin m hmL) hml) i ((memN_iff _ _).1 hb)
          rw [hun] at this
          cases this
    -- the rows before and after
    have key : ∃ b, stepC P (setAll K0 vs) (ops.getD i default) (H, nx) b ∧ b = hs (Ls.filter (getB (l.set i true))) ∧ Ls.filter (getB (l.set i true)) ∈ St := by
      have notin : i ∉ Ls → Ls.filter (getB (l.set i true)) = Ls.filter (getB l) := fun hni => by
        refine List.filter_congr fun m hm => ?_
        rw [getB_set (by omega), if_neg (fun e : m = i => hni (by rw [← e]; exact hm))]
      rcases ok.plan i hi with ⟨hf, hse, hni, ha⟩ | ⟨hni, hk⟩ | ⟨hin, hk⟩
      · obtain ⟨b, hb⟩ := planP_any hp ha
        refine ⟨(H, nx), ?_, by rw [notin hni]; exact inv.rows, by rw [notin hni]; exact inv.here⟩
        unfold stepC restX at hb
        simp only [awpT] at hb
        have h1 := exK_exF (k' := fun ρ H2 nx2 => ∀ d, (ops.getD i default).dst = some d → ρ d = (setAll K0 vs).get d) (fun K2 H2 nx2 hh d e => by
          have h3 := hh.1
          rw [e] at h3
          have h4 : Kn.get _ d = _ := h3
          rw [drop_nil_get] at h4
          exact h4) hb
        obtain ⟨v, hy, hv⟩ := yld_of_ex hf h1
        exact stepC_of_yld hf (yld_rows (H' := H) (nx' := nx) hse hy) hv
      · refine ⟨(H, nx), ?_, by rw [notin hni]; exact inv.rows, by rw [notin hni]; exact inv.here⟩
        have := planP_mem hp (hk _ inv.here hcomp)
        rw [← inv.rows] at this
        exact this
      · have hnx : nextS Ls i (Ls.filter (getB l)) = Ls.filter (getB (l.set i true)) := by
          unfold nextS
          refine List.filter_congr fun m hm => ?_
          rw [getB_set (by omega)]
          by_cases hmi : m = i
          · subst hmi; simp [beq_refl']
          · rw [if_neg hmi, beq_ne hmi, Bool.false_or]
            cases hb : getB l m with
            | true => exact (memN_iff _ _).2 (List.mem_filter.2 ⟨hm, hb⟩)
            | false =>
              cases hb2 : memN (Ls.filter (getB l)) m with
              | false => rfl
              | true =>
                have := (List.mem_filter.1 ((memN_iff _ _).1 hb2)).2
                rw [hb] at this
                cases this
        have h1 := planP_mem hp (hk _ inv.here hcomp)
        have h2 := ok.stc _ inv.here i hin hcomp
        rw [hnx] at h1 h2
        rw [← inv.rows] at h1
        exact ⟨_, h1, rfl, h2⟩
    obtain ⟨b, hb, hbe, hbs⟩ := key
    refine ExK_mono (fun K2 H2 nx2 hh => ?_) (stepC_agree hlk hb)
    obtain ⟨h1, h2, h3⟩ := hh
    refine ⟨?_, ?_, ?_, hbs, ?_⟩
    · intro j hj hjl m hm
      rw [getB_set (by omega)] at hjl ⊢
      by_cases hmi : m = i
      · rw [if_pos hmi]
      · rw [if_neg hmi]
        by_cases hji : j = i
        · subst hji; exact hdeps m hm
        · rw [if_neg hji] at hjl; exact inv.clo j hj hjl m hm
    · intro j d hj hjl hd
      rw [getB_set (by omega)] at hjl
      by_cases hji : j = i
      · subst hji
        rw [hd] at h1
        exact h1
      · rw [if_neg hji] at hjl
        rw [h2 d (fun e => hji (ok.one j i d hj hi hd e))]
        exact inv.done j d hj hjl hd
    · intro t ht
      rw [h2 t (ht _ (getD_mem hi))]
      exact inv.rest t ht
    · rw [← hbe, h3]
  · intro l K H nx hl inv hnone
    have hall : ∀ i, i < ops.length → getB l i = true := by
      intro i
      induction i using Nat.strongRecOn with
      | _ i ih =>
        intro hi
        have := hnone i hi
        cases hb : getB l i with
        | true => rfl
        | false =>
          have hr : readyA deps l i = true := readyA_spec.2 ⟨hb, fun j hj => ih j (ok.low i hi j hj) (by have := ok.low i hi j hj; omega)⟩
          rw [this] at hr
          cases hr
    have hK : KEq (setAll K0 vs) K := fun t => by
      by_cases h : ∃ o ∈ ops, o.dst = some t
      · obtain ⟨o, ho, hd⟩ := h
        obtain ⟨i, hi, he⟩ := List.mem_iff_getElem.1 ho
        have e : ops.getD i default = o := by rw [List.getD_eq_getElem?_getD, List.getElem?_eq_getElem hi, he]; rfl
        exact (inv.done i t hi (hall i hi) (by rw [e]; exact hd)).symm
      · exact (inv.rest t (fun o ho e => h ⟨o, ho, e⟩)).symm
    have hcnt : Ls.filter (getB l) = Ls := List.filter_eq_self.2 (fun m hm => hall m (ok.lin m hm))
    have hr := inv.rows
    rw [hcnt] at hr
    rw [← hr] at he
    exact hq _ _ _ _ _ (fun t => (keepV_eq hkept t).trans (hK.drop drop t)) he
  · rw [setAll_get]
    intro hm
    obtain ⟨o, ho, hd⟩ := ok.keys t hm
    exact ht o ho hd
  · rw [noR]; exact ok.st0
  · rw [noR]; exact h0.symm

end
end Go.Ab

namespace Go.Ab
open Go.RowKit

def AV.lt0 (n : Nat) : AV → Bool
  | .ptr r _ _ _ _ => Nat.blt r n
  | .own r _ _ _ _ => Nat.blt r n
  | .mp r => Nat.blt r n
  | .it r => Nat.blt r n
  | .fn _ _ | .agg _ | .tup _ => false
  | _ => true

def AV.lt1 (n : Nat) : AV → Bool
  | .fn _ l => l.all (AV.lt0 n)
  | .agg l => l.all (AV.lt0 n)
  | .tup l => l.all (AV.lt0 n)
  | a => a.lt0 n

theorem AV.lt0_below {n : Nat} {a : AV} (h : a.lt0 n = true) : AV.Below n a := by
  cases a <;> first | (cases h; done) | (constructor; done) | (constructor; exact Nat.le_of_ble_eq_true h)

theorem AV.lt1_below {n : Nat} {a : AV} (h : a.lt1 n = true) : AV.Below n a := by
  cases a <;> first | exact AV.lt0_below h | (constructor; intro b hb; exact AV.lt0_below (List.all_eq_true.1 h b hb))

def elsLt (n : Nat) (els : List (List AV)) : Prop := ∀ c ∈ els, c.all (AV.lt0 n) = true

def rowsLt (n : Nat) : AH → Prop
  | [] => True
  | (r, .row _ els _) :: t => (r < n ∧ elsLt n els) ∧ rowsLt n t
  | (r, .fam _ ins) :: t => (r < n ∧ ∀ p ∈ ins, elsLt n p.1) ∧ rowsLt n t

theorem allFlat_lt {n : Nat} {c : List AV} (h : allFlat c = true) : c.all (AV.lt0 n) = true := by
  induction c with
  | nil => rfl
  | cons a c ih =>
    simp only [allFlat, Bool.and_eq_true] at h
    simp only [List.all_cons, Bool.and_eq_true]
    refine ⟨?_, ih h.2⟩
    cases a <;> first | rfl | (have := h.1; cases this; done)

theorem elsLt_nil {n : Nat} : elsLt n [] := fun c hc => by cases hc
theorem elsLt_cons {n : Nat} {c : List AV} {l : List (List AV)} : elsLt n (c :: l) = (c.all (AV.lt0 n) = true ∧ elsLt n l) := by
  simp [elsLt]
theorem elsLt_map {α : Type} {n : Nat} {f : α → List AV} {l : List α} (h : ∀ a, allFlat (f a) = true) : elsLt n (l.map f) := fun c hc => by
  obtain ⟨a, _, rfl⟩ := List.mem_map.1 hc
  exact allFlat_lt (h a)

theorem rowsLt_look {n : Nat} : ∀ {H : AH}, rowsLt n H → ∀ {r : Nat} {o : AObj}, H.look r = some o → r < n ∧ ∀ q sz els g, o.part q = some (.row sz els g) → elsLt n els
  | [], _, _, _, h => by cases h
  | (j, .row s e g0) :: t, h, r, o, hl => by
    simp only [AH.look] at hl
    cases hb : Nat.beq j r with
    | true =>
      rw [hb] at hl
      simp only [cond_true, Option.some.injEq] at hl
      subst hl
      rw [← beq_true hb]
      refine ⟨h.1.1, fun q sz els g hp => ?_⟩
      cases q with
      | zero => simp only [AObj.part, Option.some.injEq, AObj.row.injEq] at hp; rw [← hp.2.1]; exact h.1.2
      | succ q => simp [AObj.part] at hp
    | false => rw [hb] at hl; exact rowsLt_look h.2 hl
  | (j, .fam s ins) :: t, h, r, o, hl => by
    simp only [AH.look] at hl
    cases hb : Nat.beq j r with
    | true =>
      rw [hb] at hl
      simp only [cond_true, Option.some.injEq] at hl
      subst hl
      rw [← beq_true hb]
      refine ⟨h.1.1, fun q sz els g hp => ?_⟩
      cases q with
      | zero => simp [AObj.part] at hp
      | succ i =>
        simp only [AObj.part] at hp
        obtain ⟨p, hp1, hp2⟩ := Option.map_eq_some_iff.1 hp
        cases hp2
        exact h.1.2 p (List.mem_of_getElem? hp1)
    | false => rw [hb] at hl; exact rowsLt_look h.2 hl

theorem rowsLt_get {n : Nat} {H : AH} (h : rowsLt n H) {r q sz : Nat} {els : List (List AV)} {g : Nat} (hg : H.get r q = some (.row sz els g)) : r < n ∧ elsLt n els := by
  unfold AH.get at hg
  obtain ⟨o, h1, h2⟩ := Option.bind_eq_some_iff.1 hg
  have := rowsLt_look h h1
  exact ⟨this.1, this.2 q sz els g h2⟩

theorem live_upto {n : Nat} {H : AH} (h : rowsLt n H) (ι : Inj) (b : Nat) : live (ι.upto n) H b ↔ live ι H b := by
  constructor
  · rintro ⟨r, q, sz, els, g, l, h1, h2, h3, h4⟩
    refine ⟨r, q, sz, els, g, l, h1, ?_, h3, h4⟩
    simp only [Inj.upto] at h2
    split at h2
    · exact h2
    · cases h2
  · rintro ⟨r, q, sz, els, g, l, h1, h2, h3, h4⟩
    exact ⟨r, q, sz, els, g, l, h1, by simp only [Inj.upto]; rw [if_pos (rowsLt_get h h1).1]; exact h2, h3, h4⟩

theorem RelH.low {w : World} {L : Nat → Prop} {ι : Inj} {H : AH} {nx n : Nat} (rel : RelH w L ι H nx) (h : rowsLt n H) : RelH w L (ι.upto n) H n := by
  have hlt : Lt L (ι.upto n) H = Lt L ι H := by
    funext b
    simp only [Lt, live_upto h]
  constructor
  · intro r q sz els g hg
    obtain ⟨l, h1, ok⟩ := rel.row r q sz els g hg
    have hr := rowsLt_get h hg
    refine ⟨l, by simp only [Inj.upto]; rw [if_pos hr.1]; exact h1, ok.hsz, ok.wide, ok.plain, ok.spec, fun i c j a hi hj => ?_⟩
    obtain ⟨v, h2, h3, h4⟩ := ok.hold i c j a hi hj
    rw [hlt]
    exact ⟨v, h2, h3, h4.upto (AV.lt0_below (List.all_eq_true.1 (hr.2 c (List.mem_of_getElem? hi)) a (List.mem_of_getElem? hj)))⟩
  · intro r1 q1 r2 q2 s1 e1 g1 l1 s2 e2 g2 l2 h1 h2 h3 h4
    simp only [Inj.upto] at h3 h4
    rw [if_pos (rowsLt_get h h1).1] at h3
    rw [if_pos (rowsLt_get h h2).1] at h4
    exact rel.apart _ _ _ _ _ _ _ _ _ _ _ _ h1 h2 h3 h4
  · intro b hb
    exact rel.out b ((live_upto h ι b).1 hb)
  · intro r q g l hl
    simp only [Inj.upto] at hl
    split at hl
    · assumption
    · cases hl
  · intro r o hl
    exact (rowsLt_look h hl).1
  · intro r q sz els g hg g2 l hl
    simp only [Inj.upto] at hl
    rw [if_pos (rowsLt_get h hg).1] at hl
    exact rel.gen _ _ _ _ _ hg _ _ hl
  · exact rel.Lsz

/-! rows in the order of their numbers -/
def AH.ins (r : Nat) (o : AObj) : AH → AH
  | [] => [(r, o)]
  | (j, u) :: t => if r = j then (r, o) :: t else if r < j then (r, o) :: (j, u) :: t else (j, u) :: AH.ins r o t
def AH.sort : AH → AH
  | [] => []
  | (r, o) :: t => AH.ins r o (AH.sort t)
theorem AH.look_ins (r : Nat) (o : AObj) (H : AH) (x : Nat) : (H.ins r o).look x = if x = r then some o else H.look x := by
  induction H with
  | nil =>
    simp only [AH.ins, AH.look]
    by_cases h : x = r
    · subst h; simp [beq_refl']
    · simp [h, beq_ne (Ne.symm h)]
  | cons p t ih =>
    obtain ⟨j, u⟩ := p
    simp only [AH.ins]
    by_cases h1 : r = j
    · subst h1
      rw [if_pos rfl]
      simp only [AH.look]
      by_cases h : x = r
      · subst h; simp [beq_refl']
      · simp [h, beq_ne (Ne.symm h)]
    · rw [if_neg h1]
      by_cases h2 : r < j
      · rw [if_pos h2]
        simp only [AH.look]
        by_cases h : x = r
        · subst h; simp [beq_refl']
        · simp [h, beq_ne (Ne.symm h)]
      · rw [if_neg h2]
        simp only [AH.look, ih]
        by_cases h : x = r
        · subst h; simp [beq_ne (Ne.symm h1)]
        · simp [h]
theorem AH.look_sort (H : AH) (x : Nat) : H.sort.look x = H.look x := by
  induction H with
  | nil => rfl
  | cons p t ih =>
    obtain ⟨j, u⟩ := p
    simp only [AH.sort, AH.look_ins, ih, AH.look]
    by_cases h : x = j
    · subst h; simp [beq_refl']
    · simp [h, beq_ne (Ne.symm h)]

theorem call_sort {P : Program} {f : FuncId} {asv : List AV} {H : AH} {nx : Nat} {k : AV → AH → Nat → Prop} (h : CallOk P f asv H nx (fun v H' nx' => nx ≤ nx' ∧ k v H'.sort nx')) : CallOk P f asv H nx k := by
  refine call_ent (h.mono fun v H' nx' ⟨h1, h2⟩ => ⟨v, H'.sort, nx', Ent.same h1 (AH.look_sort H') ?_, h2⟩)
  exact ⟨rfl, trivial⟩

/-- A CALL that leaves no rows but those below n: the numbers from n on are free again. -/
theorem call_low {P : Program} {f : FuncId} {asv : List AV} {H : AH} {nx : Nat} {k : AV → AH → Nat → Prop} (n : Nat) (hn : Nat.ble nx n = true) (h : CallOk P f asv H nx (fun v H' _ => (v.lt1 n = true ∧ rowsLt n H') ∧ k v H' n)) : CallOk P f asv H nx k := by
  intro w L ι vs rel hv
  refine (h w L ι vs rel hv).mono fun e w' ⟨v, ι', H', nx', a, h1, st, h3, h4, ⟨h5, h6⟩, h7⟩ => ?_
  refine ⟨v, ι'.upto n, H', n, a, h1, ⟨st.ext, fun r q g l hl => ?_, st.rel.low h6, fun b hb => st.lv b ((live_upto h6 ι' b).1 hb)⟩, Nat.le_of_ble_eq_true hn, ?_, h7⟩
  · simp only [Inj.upto]
    rw [if_pos (Nat.lt_of_lt_of_le (rel.idx _ _ _ _ hl) (Nat.le_of_ble_eq_true hn))]
    exact st.inj _ _ _ _ hl
  · have hlt : Lt L (ι'.upto n) H' = Lt L ι' H' := by
      funext b
      simp only [Lt, live_upto h6]
    rw [hlt]
    exact h4.upto (AV.lt1_below h5)

/-- The same, the rows in order. -/
theorem call_lows {P : Program} {f : FuncId} {asv : List AV} {H : AH} {nx : Nat} {k : AV → AH → Nat → Prop} (n : Nat) (hn : Nat.ble nx n = true) (h : CallOk P f asv H nx (fun v H' _ => (v.lt1 n = true ∧ rowsLt n H') ∧ k v H'.sort n)) : CallOk P f asv H nx k :=
  call_sort (call_low n hn (h.mono fun _ _ _ hh => ⟨hh.1, Nat.le_of_ble_eq_true hn, hh.2⟩))

theorem flat_map {α : Type} {f : α → List AV} {l : List α} (h : ∀ a, allFlat (f a) = true) : FlatRows (l.map f) := fun c hc => by
  obtain ⟨a, _, rfl⟩ := List.mem_map.1 hc
  exact h a
theorem flat_one {c : List AV} (h : allFlat c = true) : FlatRows [c] := fun d hd => by rw [List.mem_singleton.1 hd]; exact h
theorem flat_nil : FlatRows [] := fun d hd => by cases hd
theorem flat_cons {c : List AV} {l : List (List AV)} (h : allFlat c = true) (h2 : FlatRows l) : FlatRows (c :: l) := fun d hd => by
  rcases List.mem_cons.1 hd with rfl | hd
  · exact h
  · exact h2 d hd
theorem flat_plus {l m : List (List AV)} (h : FlatRows l) (h2 : FlatRows m) : FlatRows (l ++ m) := fun d hd => by
  rcases List.mem_append.1 hd with hd | hd
  · exact h d hd
  · exact h2 d hd
theorem vwl_flat {H HH : AH} {σ : Nat → Nat → Option (Nat × Nat × Nat)} {D : Nat → Nat → Prop} {t : Bool} : ∀ {l : List AV}, allFlat l = true → VwL H HH σ D t l l
  | [], _ => trivial
  | a :: l, h => by
    simp only [allFlat, Bool.and_eq_true] at h
    exact ⟨vw_flat0 h.1, vwl_flat h.2⟩
theorem RowV.of_flat {H HH : AH} {σ : Nat → Nat → Option (Nat × Nat × Nat)} {D : Nat → Nat → Prop} {els : List (List AV)} (h : FlatRows els) : RowV H HH σ D els els := rowV_flat h

/-- The rows by the list of the operations done. -/
def hsAt : List (List Nat × AH × Nat) → List Nat → AH × Nat
  | [], _ => ([], 0)
  | (T, x) :: r, S => bif beqL T S then x else hsAt r S

end Go.Ab

namespace Go.Ab
open Go.RowKit

theorem evA : type_of% @evS ∧ type_of% @evZ ∧ type_of% @evX ∧ type_of% @evK ∧ type_of% @evB ∧ type_of% @evL ∧ type_of% @evR := ⟨@evS, @evZ, @evX, @evK, @evB, @evL, @evR⟩
theorem evWA : type_of% @evW ∧ type_of% @evK ∧ type_of% @evB ∧ type_of% @evL := ⟨@evW, @evK, @evB, @evL⟩
theorem dis1 {p : Prop} (h : p := by first | omega | (simp only [evF, evL, implies_true, and_self]; done) | fail) : p := h
theorem fin1 {p : Prop} (h : p := by (repeat' with_reducible apply And.intro) <;> first | omega | exact vw_nats rfl rfl (by omega) | exact vw_ints rfl rfl (by omega) | exact vw_bools rfl rfl (by omega) | exact rowV_flat (by repeat' first | exact bytes_flat | exact flat1 | refine flat_app ?_ ?_) | exact rowV_fe (fun _ => rfl) | exact rowV_fe_start (c := cN) (fun _ => rfl) rfl | exact rowsV_fam (fun _ => rfl) (by decide) ⟨rfl, rfl⟩ trivial | exact rowsV_fam (fun _ => rfl) (by decide) (fun _ _ => ⟨rfl, rfl⟩) trivial | (simp; done) | fail) : p := h
theorem fin2 {p : Prop} (h : p := by ((repeat' with_reducible apply And.intro) <;> first | omega | rfl | exact vwl_flat rfl | (refine RowV.of_flat ?_; (repeat' (first | exact flat_map (fun _ => rfl) | exact flat_nil | exact flat_one rfl | refine flat_plus ?_ ?_ | refine flat_cons rfl ?_)); done) | ((repeat' (first | exact flat_map (fun _ => rfl) | exact flat_nil | exact flat_one rfl | refine flat_plus ?_ ?_ | refine flat_cons rfl ?_)); done) | exact vw_nats rfl rfl (by omega) | exact vw_ints rfl rfl (by omega) | exact vw_bools rfl rfl (by omega) | exact rowV_fe (fun _ => rfl) | exact rowsV_fam (fun _ => rfl) (by decide) ⟨rfl, rfl⟩ trivial | exact rowsV_fam (fun _ => rfl) (by decide) (fun _ _ => ⟨rfl, rfl⟩) trivial | (simp; done) | fail)) : p := h

end Go.Ab

namespace Go.Ab

structure Sec where
  name : ByteArray
  addr : UInt32
  data : List UInt8
  wr : Bool
  ex : Bool

structure Sym where
  name : ByteArray
  addr : UInt32
  kind : Int

structure Rel where
  sec : Int
  off : Int
  kind : Int
  sym : ByteArray
  add : Int

structure Bin where
  entry : UInt32
  secs : List Sec
  syms : List Sym
  rels : List Rel

def okByte (n : Nat) : Bool := decide (97 ≤ n ∧ n ≤ 122) || decide (65 ≤ n ∧ n ≤ 90) || decide (48 ≤ n ∧ n ≤ 57) || decide (n = 95) || decide (n = 46)
def nameOk (s : ByteArray) : Bool := s.data.toList.all (fun b => okByte b.toNat) && decide (1 ≤ s.size) && decide (s.size ≤ 32)

/-- The address after a section. -/
def Sec.to (s : Sec) : Nat := min (s.addr.toNat + s.data.length) 4294967295
/-- Do two sections share an address? -/
def meetS (x s : Sec) : Bool := decide (max x.addr.toNat s.addr.toNat < min x.to s.to)
def stackS (s : Sec) : Bool := decide (max s.addr.toNat 978944 < min s.to 983040)

def findS (l : List Sec) (a : UInt32) : Option Nat := l.findIdx? fun s => decide (s.addr.toNat ≤ a.toNat) && decide (a.toNat < s.to)

/-- The error of a section behind others. -/
def oneS (pre : List Sec) (s : Sec) : Int :=
  if 65536 < s.data.length then 6 else if nameOk s.name = false then 3 else if (pre.any fun x => decide (x.name = s.name)) = true then 8
  else if 4294967295 < s.addr.toNat + s.data.length ∨ stackS s = true then 7 else 0

/-- The first error that f reports of the elements of a list, each with those before it. -/
def firstE {α : Type} (f : List α → α → Int) (l : List α) : Nat → Nat → Int
  | 0, _ => 0
  | n + 1, i => match l[i]? with
    | some x => if f (l.take i) x ≠ 0 then f (l.take i) x else firstE f l n (i + 1)
    | none => 0

def lapS (pre : List Sec) (s : Sec) : Int := if (pre.any fun x => meetS x s) = true then 10 else 0

def checkS (l : List Sec) : Int :=
  if 16 < l.length then 6 else if firstE oneS l l.length 0 ≠ 0 then firstE oneS l l.length 0 else firstE lapS l l.length 0

theorem firstE_step {α : Type} {f : List α → α → Int} {l : List α} {n i : Nat} (h : i < l.length) : firstE f l (n + 1) i = if f (l.take i) l[i] ≠ 0 then f (l.take i) l[i] else firstE f l n (i + 1) := by
  simp only [firstE, List.getElem?_eq_getElem h]
theorem firstE_end {α : Type} {f : List α → α → Int} {l : List α} {n i : Nat} (h : l.length ≤ i) : firstE f l n i = 0 := by
  cases n with
  | zero => rfl
  | succ n => simp only [firstE, List.getElem?_eq_none h]

def symName (_ : List Sym) (s : Sym) : Int := if nameOk s.name = false then 3 else 0
def symTwice (pre : List Sym) (s : Sym) : Int := if (pre.any fun x => decide (x.name = s.name)) = true then 8 else 0
def symKind (_ : List Sym) (s : Sym) : Int := if s.kind ≠ 1 ∧ s.kind ≠ 2 then 2 else 0
def thenE (a b : Int) : Int := if a ≠ 0 then a else b
def checkY (l : List Sym) : Int :=
  if 256 < l.length then 6 else thenE (firstE symName l l.length 0) (thenE (firstE symTwice l l.length 0) (firstE symKind l l.length 0))

def oneR (o : Bin) (_ : List Rel) (r : Rel) : Int :=
  if (r.kind ≠ 1 ∧ r.kind ≠ 2) ∨ r.sec < 0 ∨ (o.secs.length : Int) ≤ r.sec then 2
  else if r.off < 0 ∨ ((match o.secs[r.sec.toNat]? with | some s => (s.data.length : Int) | none => 0) - 4 < r.off) then 7
  else if (o.syms.any fun s => decide (s.name = r.sym)) = false then 17 else 0

def nearR (a b : Rel) : Bool := decide (a.sec = b.sec) && decide (a.off - b.off < 4) && decide (b.off - a.off < 4)
def lapR (pre : List Rel) (r : Rel) : Int := if (pre.any fun x => nearR r x) = true then 10 else 0

def checkR (o : Bin) : Int :=
  thenE (checkS o.secs) (thenE (checkY o.syms) (if 256 < o.rels.length then 6 else thenE (firstE (oneR o) o.rels o.rels.length 0) (firstE lapR o.rels o.rels.length 0)))

def checkO (o : Bin) : Int :=
  thenE (checkR o) (match findS o.secs o.entry with
    | some k => match o.secs[k]? with
      | some s => if s.ex then 0 else 11
      | none => 11
    | none => 11)

end Go.Ab
