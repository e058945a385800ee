/-
  Part 8 of the proof: how the calls of this program run, over values instead of memory, and what each function computes.
-/
import Derived.Test.YtpinnphfnmnjlaaRows
import Derived.WalkKit
import Derived.OpenShut
import Derived.ShutString
import Derived.ChangeOld
import Derived.Below
import Derived.Test.YtpinnphfnmnjlaaKg
set_option linter.unusedVariables false
set_option linter.unusedSimpArgs false
set_option linter.unnecessarySimpa false
set_option linter.unusedSectionVars false

namespace Go.Ab
open Go.RowKit Go.Proofs

def eqL {α : Type} (p : α → α → Bool) : List α → List α → Bool
  | [], [] => true
  | a :: l, b :: m => p a b && eqL p l m
  | _, _ => false

/-- The first i elements are the same. -/
def eqTo1 {α : Type} (p : α → α → Bool) (l m : List α) (i : Nat) : Prop := ∀ j (h1 : j < l.length) (h2 : j < m.length), j < i → p l[j] m[j] = true

theorem eqL_len {α : Type} {p : α → α → Bool} : ∀ {l m : List α}, eqL p l m = true → l.length = m.length
  | [], [], _ => rfl
  | a :: l, b :: m, h => by
    simp only [eqL, Bool.and_eq_true] at h
    simp only [List.length_cons, eqL_len h.2]
  | [], b :: m, h => by cases h
  | a :: l, [], h => by cases h
theorem eqL_at {α : Type} {p : α → α → Bool} : ∀ {l m : List α}, eqL p l m = true → ∀ j (h1 : j < l.length) (h2 : j < m.length), p l[j] m[j] = true
  | [], [], _, j, h1, _ => absurd h1 (Nat.not_lt_zero _)
  | a :: l, b :: m, h, 0, h1, h2 => by
    simp only [eqL, Bool.and_eq_true] at h
    exact h.1
  | a :: l, b :: m, h, j + 1, h1, h2 => by
    simp only [eqL, Bool.and_eq_true] at h
    exact eqL_at h.2 j (by simpa using h1) (by simpa using h2)
  | [], b :: m, h, _, _, _ => by cases h
  | a :: l, [], h, _, _, _ => by cases h
theorem eqL_of {α : Type} {p : α → α → Bool} : ∀ {l m : List α}, l.length = m.length → (∀ j (h1 : j < l.length) (h2 : j < m.length), p l[j] m[j] = true) → eqL p l m = true
  | [], [], _, _ => rfl
  | a :: l, b :: m, hl, h => by
    simp only [eqL, Bool.and_eq_true]
    exact ⟨h 0 (by simp) (by simp), eqL_of (by simpa using hl) fun j h1 h2 => h (j + 1) (by simpa using h1) (by simpa using h2)⟩
  | [], b :: m, hl, _ => by cases hl
  | a :: l, [], hl, _ => by cases hl
theorem eqL_end {α : Type} {p : α → α → Bool} {l m : List α} {i : Nat} (hl : l.length = m.length) (h : eqTo1 p l m i) (hi : l.length ≤ i) : eqL p l m = true := eqL_of hl fun j h1 h2 => h j h1 h2 (by omega)
theorem eqL_no {α : Type} {p : α → α → Bool} {l m : List α} {i : Nat} (h1 : i < l.length) (h2 : i < m.length) (h : p l[i] m[i] = false) : eqL p l m = false := by
  cases e : eqL p l m with
  | false => rfl
  | true => rw [eqL_at e i h1 h2] at h; cases h
theorem eqL_nol {α : Type} {p : α → α → Bool} {l m : List α} (h : l.length ≠ m.length) : eqL p l m = false := by
  cases e : eqL p l m with
  | false => rfl
  | true => exact absurd (eqL_len e) h
theorem eqTo_zero {α : Type} {p : α → α → Bool} {l m : List α} : eqTo1 p l m 0 := fun _ _ _ h => absurd h (Nat.not_lt_zero _)
theorem eqTo_succ {α : Type} {p : α → α → Bool} {l m : List α} {i : Nat} (h1 : i < l.length) (h2 : i < m.length) (h : eqTo1 p l m i) (hp : p l[i] m[i] = true) : eqTo1 p l m (i + 1) := fun j h3 h4 hj => by
  by_cases e : j = i
  · subst e; exact hp
  · exact h j h3 h4 (by omega)
theorem eqL_symm {α : Type} {p : α → α → Bool} (hp : ∀ a b, p a b = p b a) : ∀ {l m : List α}, eqL p l m = eqL p m l
  | [], [] => rfl
  | a :: l, b :: m => by simp only [eqL, hp a b, eqL_symm hp (l := l)]
  | [], b :: m => rfl
  | a :: l, [] => rfl
theorem eqL_refl {α : Type} {p : α → α → Bool} (hp : ∀ a, p a a = true) : ∀ {l : List α}, eqL p l l = true
  | [] => rfl
  | a :: l => by simp only [eqL, hp a, eqL_refl hp, Bool.and_self]

def eqB1 (a b : UInt8) : Bool := decide ((a.toNat : Int) = b.toNat)
def eqS (a b : Sec) : Bool := decide (a.name = b.name) && decide ((a.addr.toNat : Int) = b.addr.toNat) && eqL eqB1 a.data b.data && (a.wr == b.wr) && (a.ex == b.ex)
def eqY (a b : Sym) : Bool := decide (a.name = b.name) && (decide ((a.addr.toNat : Int) = b.addr.toNat) && (decide (a.kind = b.kind) && true))
def eqRl (a b : Rel) : Bool := decide (a.sec = b.sec) && (decide (a.off = b.off) && (decide (a.kind = b.kind) && (decide (a.sym = b.sym) && (decide (a.add = b.add) && true))))
def sameO (a b : Bin) : Bool := eqL eqS a.secs b.secs && decide ((a.entry.toNat : Int) = b.entry.toNat) && eqL eqY a.syms b.syms && eqL eqRl a.rels b.rels

theorem slices_Equal_byte_byte_ok (l m : List UInt8) : PureFn Try.prog f_slices_Equal_byte_byte [encB l, encB m] (· = .bool (eqL eqB1 l m)) := by
  refine fn_x cf_slices_Equal_byte_byte rfl ?_
  unfold ac_slices_Equal_byte_byte
  have hB : big = 9223372036854775807 := rfl
  (repeat (first | (simp (disch := (first | omega | (simp only [evF, evL, implies_true, and_self]; done) | fail)) only [evS, evZ, evX, evK, evB, evL, evR, Nat.reduceBEq, Nat.reduceAdd, Nat.reduceLeDiff, boxR, rboxR, allocR, fldR, binI, unR, pickR, mknilR, mkslR, buildSlR, buildR, extR, convI, eqB, evU, wrap64, encB]) | (with_reducible intro _) | ((with_reducible apply And.intro); omega)))
  by_cases hlm : l.length = m.length
  case neg =>
    rw [eqL_nol hlm]
    (repeat (first | (simp (disch := (first | omega | (simp only [evF, evL, implies_true, and_self]; done) | fail)) only [evS, evZ, evX, evK, evB, evL, evR, Nat.reduceBEq, Nat.reduceAdd, Nat.reduceLeDiff, boxR, rboxR, allocR, fldR, binI, unR, pickR, mknilR, mkslR, buildSlR, buildR, extR, convI, eqB, evU, wrap64, dT, rs_slices_Equal_byte_byte]) | (with_reducible intro _) | ((with_reducible apply And.intro); omega)))
    exact ⟨_, .bool _ _, rfl⟩
  (repeat (first | (simp (disch := (first | omega | (simp only [evF, evL, implies_true, and_self]; done) | fail)) only [evS, evZ, evX, evK, evB, evL, evR, Nat.reduceBEq, Nat.reduceAdd, Nat.reduceLeDiff, boxR, rboxR, allocR, fldR, binI, unR, pickR, mknilR, mkslR, buildSlR, buildR, extR, convI, eqB, evU, wrap64, dF]) | (with_reducible intro _) | ((with_reducible apply And.intro); omega)))
  refine loopX_intro (fun i : Nat => ([(0, encL 1 cByte l), (1, encL 1 cByte m), (12, .int .i64 l.length), (13, .int .i64 i)], [])) 0 (fun i => i ≤ l.length ∧ eqTo1 eqB1 l m i) (fun i => l.length - i) 0 ⟨Nat.zero_le _, eqTo_zero⟩ (Ent.keep rfl (by (try simp [subK, Kn.get, beq_eq]) <;> (repeat' with_reducible apply And.intro) <;> first | rfl | omega | (simp; done))) ?_
  rintro i ⟨hi, hq⟩ wf
  unfold ac_slices_Equal_byte_byte_l0
  (repeat (first | (simp (disch := (first | omega | (simp only [evF, evL, implies_true, and_self]; done) | fail)) only [evS, evZ, evX, evK, evB, evL, evR, Nat.reduceBEq, Nat.reduceAdd, Nat.reduceLeDiff, boxR, rboxR, allocR, fldR, binI, unR, pickR, mknilR, mkslR, buildSlR, buildR, extR, convI, eqB, evU, wrap64]) | (with_reducible intro _) | ((with_reducible apply And.intro); omega)))
  (refine condX_intro (fun h => ?_) (fun h => ?_)) <;> (try simp only [decide_eq_true_eq, decide_eq_false_iff_not, Bool.not_eq_true', Bool.not_eq_false', Bool.and_eq_true, Bool.or_eq_true, not_true_eq_false, not_false_eq_true] at h)
  · have h1 : i < l.length := by omega
    have h2 : i < m.length := by omega
    have hs := eqTo_succ h1 h2 hq
    have hn := eqL_no (p := eqB1) h1 h2
    have hp1 : ((l.map cByte).getD i []).getD 0 .undef = .int .u8 ((l[i]).toNat : Int) := by rw [getD_map h1]; rfl
    have hp2 : ((m.map cByte).getD i []).getD 0 .undef = .int .u8 ((m[i]).toNat : Int) := by rw [getD_map h2]; rfl
    (repeat (first | (simp (disch := (first | omega | (simp only [evF, evL, implies_true, and_self]; done) | fail)) only [evS, evZ, evX, evK, evB, evL, evR, Nat.reduceBEq, Nat.reduceAdd, Nat.reduceLeDiff, boxR, rboxR, allocR, fldR, binI, unR, pickR, mknilR, mkslR, buildSlR, buildR, extR, convI, eqB, evU, wrap64, hp1, hp2]) | (with_reducible intro _) | ((with_reducible apply And.intro); omega)))
    (refine condX_intro (fun h3 => ?_) (fun h3 => ?_)) <;> (try simp only [decide_eq_true_eq, decide_eq_false_iff_not, Bool.not_eq_true', Bool.not_eq_false', Bool.and_eq_true, Bool.or_eq_true, not_true_eq_false, not_false_eq_true] at h3)
    · rw [hn (decide_eq_false h3)]
      (repeat (first | (simp (disch := (first | omega | (simp only [evF, evL, implies_true, and_self]; done) | fail)) only [evS, evZ, evX, evK, evB, evL, evR, Nat.reduceBEq, Nat.reduceAdd, Nat.reduceLeDiff, boxR, rboxR, allocR, fldR, binI, unR, pickR, mknilR, mkslR, buildSlR, buildR, extR, convI, eqB, evU, wrap64, rs_slices_Equal_byte_byte]) | (with_reducible intro _) | ((with_reducible apply And.intro); omega)))
      exact ⟨_, .bool _ _, rfl⟩
    · (repeat (first | (simp (disch := (first | omega | (simp only [evF, evL, implies_true, and_self]; done) | fail)) only [evS, evZ, evX, evK, evB, evL, evR, Nat.reduceBEq, Nat.reduceAdd, Nat.reduceLeDiff, boxR, rboxR, allocR, fldR, binI, unR, pickR, mknilR, mkslR, buildSlR, buildR, extR, convI, eqB, evU, wrap64]) | (with_reducible intro _) | ((with_reducible apply And.intro); omega)))
      exact ⟨i + 1, ⟨by omega, hs (decide_eq_true (Decidable.not_not.1 h3))⟩, by omega, Ent.keep rfl (by (try simp [subK, Kn.get, beq_eq]) <;> (repeat' with_reducible apply And.intro) <;> first | rfl | omega | (simp; done))⟩
  · rw [eqL_end hlm hq (by omega)]
    unfold ac_slices_Equal_byte_byte_k1
    (repeat (first | (simp (disch := (first | omega | (simp only [evF, evL, implies_true, and_self]; done) | fail)) only [evS, evZ, evX, evK, evB, evL, evR, Nat.reduceBEq, Nat.reduceAdd, Nat.reduceLeDiff, boxR, rboxR, allocR, fldR, binI, unR, pickR, mknilR, mkslR, buildSlR, buildR, extR, convI, eqB, evU, wrap64, rs_slices_Equal_byte_byte]) | (with_reducible intro _) | ((with_reducible apply And.intro); omega)))
    exact ⟨_, .bool _ _, rfl⟩

theorem R05_SameBytes_ok (l m : List UInt8) : PureFn Try.prog f_R05_SameBytes [encB l, encB m] (· = .bool (eqL eqB1 l m)) := by
  refine fn_x cf_R05_SameBytes rfl ?_
  unfold ac_R05_SameBytes
  have hB : big = 9223372036854775807 := rfl
  (repeat (first | (simp (disch := (first | omega | (simp only [evF, evL, implies_true, and_self]; done) | fail)) only [evS, evZ, evX, evK, evB, evL, evR, Nat.reduceBEq, Nat.reduceAdd, Nat.reduceLeDiff, boxR, rboxR, allocR, fldR, binI, unR, pickR, mknilR, mkslR, buildSlR, buildR, extR, convI, eqB, evU, wrap64, encB]) | (with_reducible intro _) | ((with_reducible apply And.intro); omega)))
  by_cases hlm : l.length = m.length
  case neg =>
    rw [eqL_nol hlm]
    (repeat (first | (simp (disch := (first | omega | (simp only [evF, evL, implies_true, and_self]; done) | fail)) only [evS, evZ, evX, evK, evB, evL, evR, Nat.reduceBEq, Nat.reduceAdd, Nat.reduceLeDiff, boxR, rboxR, allocR, fldR, binI, unR, pickR, mknilR, mkslR, buildSlR, buildR, extR, convI, eqB, evU, wrap64, dT, rs_R05_SameBytes]) | (with_reducible intro _) | ((with_reducible apply And.intro); omega)))
    exact ⟨_, .bool _ _, rfl⟩
  (repeat (first | (simp (disch := (first | omega | (simp only [evF, evL, implies_true, and_self]; done) | fail)) only [evS, evZ, evX, evK, evB, evL, evR, Nat.reduceBEq, Nat.reduceAdd, Nat.reduceLeDiff, boxR, rboxR, allocR, fldR, binI, unR, pickR, mknilR, mkslR, buildSlR, buildR, extR, convI, eqB, evU, wrap64, dF]) | (with_reducible intro _) | ((with_reducible apply And.intro); omega)))
  refine loopX_intro (fun i : Nat => ([(0, encL 1 cByte l), (1, encL 1 cByte m), (5, .int .i64 i)], [])) 0 (fun i => i ≤ l.length ∧ eqTo1 eqB1 l m i) (fun i => l.length - i) 0 ⟨Nat.zero_le _, eqTo_zero⟩ (Ent.keep rfl (by (try simp [subK, Kn.get, beq_eq]) <;> (repeat' with_reducible apply And.intro) <;> first | rfl | omega | (simp; done))) ?_
  rintro i ⟨hi, hq⟩ wf
  unfold ac_R05_SameBytes_l0
  (repeat (first | (simp (disch := (first | omega | (simp only [evF, evL, implies_true, and_self]; done) | fail)) only [evS, evZ, evX, evK, evB, evL, evR, Nat.reduceBEq, Nat.reduceAdd, Nat.reduceLeDiff, boxR, rboxR, allocR, fldR, binI, unR, pickR, mknilR, mkslR, buildSlR, buildR, extR, convI, eqB, evU, wrap64]) | (with_reducible intro _) | ((with_reducible apply And.intro); omega)))
  (refine condX_intro (fun h => ?_) (fun h => ?_)) <;> (try simp only [decide_eq_true_eq, decide_eq_false_iff_not, Bool.not_eq_true', Bool.not_eq_false', Bool.and_eq_true, Bool.or_eq_true, not_true_eq_false, not_false_eq_true] at h)
  · have h1 : i < l.length := by omega
    have h2 : i < m.length := by omega
    have hs := eqTo_succ h1 h2 hq
    have hn := eqL_no (p := eqB1) h1 h2
    have hp1 : ((l.map cByte).getD i []).getD 0 .undef = .int .u8 ((l[i]).toNat : Int) := by rw [getD_map h1]; rfl
    have hp2 : ((m.map cByte).getD i []).getD 0 .undef = .int .u8 ((m[i]).toNat : Int) := by rw [getD_map h2]; rfl
    (repeat (first | (simp (disch := (first | omega | (simp only [evF, evL, implies_true, and_self]; done) | fail)) only [evS, evZ, evX, evK, evB, evL, evR, Nat.reduceBEq, Nat.reduceAdd, Nat.reduceLeDiff, boxR, rboxR, allocR, fldR, binI, unR, pickR, mknilR, mkslR, buildSlR, buildR, extR, convI, eqB, evU, wrap64, hp1, hp2]) | (with_reducible intro _) | ((with_reducible apply And.intro); omega)))
    (refine condX_intro (fun h3 => ?_) (fun h3 => ?_)) <;> (try simp only [decide_eq_true_eq, decide_eq_false_iff_not, Bool.not_eq_true', Bool.not_eq_false', Bool.and_eq_true, Bool.or_eq_true, not_true_eq_false, not_false_eq_true] at h3)
    · rw [hn (decide_eq_false h3)]
      (repeat (first | (simp (disch := (first | omega | (simp only [evF, evL, implies_true, and_self]; done) | fail)) only [evS, evZ, evX, evK, evB, evL, evR, Nat.reduceBEq, Nat.reduceAdd, Nat.reduceLeDiff, boxR, rboxR, allocR, fldR, binI, unR, pickR, mknilR, mkslR, buildSlR, buildR, extR, convI, eqB, evU, wrap64, rs_R05_SameBytes]) | (with_reducible intro _) | ((with_reducible apply And.intro); omega)))
      exact ⟨_, .bool _ _, rfl⟩
    · (repeat (first | (simp (disch := (first | omega | (simp only [evF, evL, implies_true, and_self]; done) | fail)) only [evS, evZ, evX, evK, evB, evL, evR, Nat.reduceBEq, Nat.reduceAdd, Nat.reduceLeDiff, boxR, rboxR, allocR, fldR, binI, unR, pickR, mknilR, mkslR, buildSlR, buildR, extR, convI, eqB, evU, wrap64]) | (with_reducible intro _) | ((with_reducible apply And.intro); omega)))
      exact ⟨i + 1, ⟨by omega, hs (decide_eq_true (Decidable.not_not.1 h3))⟩, by omega, Ent.keep rfl (by (try simp [subK, Kn.get, beq_eq]) <;> (repeat' with_reducible apply And.intro) <;> first | rfl | omega | (simp; done))⟩
  · rw [eqL_end hlm hq (by omega)]
    unfold ac_R05_SameBytes_k1
    (repeat (first | (simp (disch := (first | omega | (simp only [evF, evL, implies_true, and_self]; done) | fail)) only [evS, evZ, evX, evK, evB, evL, evR, Nat.reduceBEq, Nat.reduceAdd, Nat.reduceLeDiff, boxR, rboxR, allocR, fldR, binI, unR, pickR, mknilR, mkslR, buildSlR, buildR, extR, convI, eqB, evU, wrap64, rs_R05_SameBytes]) | (with_reducible intro _) | ((with_reducible apply And.intro); omega)))
    exact ⟨_, .bool _ _, rfl⟩

theorem slices_Equal_api_Symbol_api_Symbol_ok (l m : List Sym) : PureFn Try.prog f_slices_Equal_api_Symbol_api_Symbol [encL 3 Sym.cells l, encL 3 Sym.cells m] (· = .bool (eqL eqY l m)) := by
  refine fn_x cf_slices_Equal_api_Symbol_api_Symbol rfl ?_
  unfold ac_slices_Equal_api_Symbol_api_Symbol
  have hB : big = 9223372036854775807 := rfl
  (repeat (first | (simp (disch := (first | omega | (simp only [evF, evL, implies_true, and_self]; done) | fail)) only [evS, evZ, evX, evK, evB, evL, evR, Nat.reduceBEq, Nat.reduceAdd, Nat.reduceLeDiff, boxR, rboxR, allocR, fldR, binI, unR, pickR, mknilR, mkslR, buildSlR, buildR, extR, convI, eqB, evU, wrap64, encB]) | (with_reducible intro _) | ((with_reducible apply And.intro); omega)))
  by_cases hlm : l.length = m.length
  case neg =>
    rw [eqL_nol hlm]
    (repeat (first | (simp (disch := (first | omega | (simp only [evF, evL, implies_true, and_self]; done) | fail)) only [evS, evZ, evX, evK, evB, evL, evR, Nat.reduceBEq, Nat.reduceAdd, Nat.reduceLeDiff, boxR, rboxR, allocR, fldR, binI, unR, pickR, mknilR, mkslR, buildSlR, buildR, extR, convI, eqB, evU, wrap64, dT, rs_slices_Equal_api_Symbol_api_Symbol]) | (with_reducible intro _) | ((with_reducible apply And.intro); omega)))
    exact ⟨_, .bool _ _, rfl⟩
  (repeat (first | (simp (disch := (first | omega | (simp only [evF, evL, implies_true, and_self]; done) | fail)) only [evS, evZ, evX, evK, evB, evL, evR, Nat.reduceBEq, Nat.reduceAdd, Nat.reduceLeDiff, boxR, rboxR, allocR, fldR, binI, unR, pickR, mknilR, mkslR, buildSlR, buildR, extR, convI, eqB, evU, wrap64, dF]) | (with_reducible intro _) | ((with_reducible apply And.intro); omega)))
  refine loopX_intro (fun i : Nat => ([(0, encL 3 Sym.cells l), (1, encL 3 Sym.cells m), (12, .int .i64 l.length), (13, .int .i64 i)], [])) 0 (fun i => i ≤ l.length ∧ eqTo1 eqY l m i) (fun i => l.length - i) 0 ⟨Nat.zero_le _, eqTo_zero⟩ (Ent.keep rfl (by (try simp [subK, Kn.get, beq_eq]) <;> (repeat' with_reducible apply And.intro) <;> first | rfl | omega | (simp; done))) ?_
  rintro i ⟨hi, hq⟩ wf
  unfold ac_slices_Equal_api_Symbol_api_Symbol_l0
  (repeat (first | (simp (disch := (first | omega | (simp only [evF, evL, implies_true, and_self]; done) | fail)) only [evS, evZ, evX, evK, evB, evL, evR, Nat.reduceBEq, Nat.reduceAdd, Nat.reduceLeDiff, boxR, rboxR, allocR, fldR, binI, unR, pickR, mknilR, mkslR, buildSlR, buildR, extR, convI, eqB, evU, wrap64]) | (with_reducible intro _) | ((with_reducible apply And.intro); omega)))
  (refine condX_intro (fun h => ?_) (fun h => ?_)) <;> (try simp only [decide_eq_true_eq, decide_eq_false_iff_not, Bool.not_eq_true', Bool.not_eq_false', Bool.and_eq_true, Bool.or_eq_true, not_true_eq_false, not_false_eq_true] at h)
  · have h1 : i < l.length := by omega
    have h2 : i < m.length := by omega
    have hs := eqTo_succ h1 h2 hq
    have hn := eqL_no (p := eqY) h1 h2
    have he : xopR (.eqs true [1, 0, 0]) [.agg (l[i]).cells, .agg (m[i]).cells] = fun H nx => ⟨True, True, .bool (!eqY l[i] m[i]), H, nx⟩ := rfl
    have he2 : ∀ {H : AH} {nx : Nat}, xopR (.eqs true [1, 0, 0]) [.agg (l[i]).cells, .agg (m[i]).cells] H nx = ⟨True, True, .bool (!eqY l[i] m[i]), H, nx⟩ := fun {H nx} => rfl
    (repeat (first | (simp (disch := (first | omega | (simp only [evF, evL, implies_true, and_self]; done) | fail)) only [evS, evZ, evX, evK, evB, evL, evR, Nat.reduceBEq, Nat.reduceAdd, Nat.reduceLeDiff, boxR, rboxR, allocR, fldR, binI, unR, pickR, mknilR, mkslR, buildSlR, buildR, extR, convI, eqB, evU, wrap64, getD_map h1, getD_map h2, Sym.three, Sym.len, Sym.flat, he2]) | (with_reducible intro _) | ((with_reducible apply And.intro); omega)))
    cases hv : eqY l[i] m[i] with
    | false =>
      rw [hn hv]
      (repeat (first | (simp (disch := (first | omega | (simp only [evF, evL, implies_true, and_self]; done) | fail)) only [evS, evZ, evX, evK, evB, evL, evR, Nat.reduceBEq, Nat.reduceAdd, Nat.reduceLeDiff, boxR, rboxR, allocR, fldR, binI, unR, pickR, mknilR, mkslR, buildSlR, buildR, extR, convI, eqB, evU, wrap64, rs_slices_Equal_api_Symbol_api_Symbol]) | (with_reducible intro _) | ((with_reducible apply And.intro); omega)))
      exact ⟨_, .bool _ _, rfl⟩
    | true =>
      (repeat (first | (simp (disch := (first | omega | (simp only [evF, evL, implies_true, and_self]; done) | fail)) only [evS, evZ, evX, evK, evB, evL, evR, Nat.reduceBEq, Nat.reduceAdd, Nat.reduceLeDiff, boxR, rboxR, allocR, fldR, binI, unR, pickR, mknilR, mkslR, buildSlR, buildR, extR, convI, eqB, evU, wrap64]) | (with_reducible intro _) | ((with_reducible apply And.intro); omega)))
      exact ⟨i + 1, ⟨by omega, hs hv⟩, by omega, Ent.keep rfl (by (try simp [subK, Kn.get, beq_eq]) <;> (repeat' with_reducible apply And.intro) <;> first | rfl | omega | (simp; done))⟩
  · rw [eqL_end hlm hq (by omega)]
    unfold ac_slices_Equal_api_Symbol_api_Symbol_k1
    (repeat (first | (simp (disch := (first | omega | (simp only [evF, evL, implies_true, and_self]; done) | fail)) only [evS, evZ, evX, evK, evB, evL, evR, Nat.reduceBEq, Nat.reduceAdd, Nat.reduceLeDiff, boxR, rboxR, allocR, fldR, binI, unR, pickR, mknilR, mkslR, buildSlR, buildR, extR, convI, eqB, evU, wrap64, rs_slices_Equal_api_Symbol_api_Symbol]) | (with_reducible intro _) | ((with_reducible apply And.intro); omega)))
    exact ⟨_, .bool _ _, rfl⟩

theorem slices_Equal_api_Reloc_api_Reloc_ok (l m : List Rel) : PureFn Try.prog f_slices_Equal_api_Reloc_api_Reloc [encL 5 Rel.cells l, encL 5 Rel.cells m] (· = .bool (eqL eqRl l m)) := by
  refine fn_x cf_slices_Equal_api_Reloc_api_Reloc rfl ?_
  unfold ac_slices_Equal_api_Reloc_api_Reloc
  have hB : big = 9223372036854775807 := rfl
  (repeat (first | (simp (disch := (first | omega | (simp only [evF, evL, implies_true, and_self]; done) | fail)) only [evS, evZ, evX, evK, evB, evL, evR, Nat.reduceBEq, Nat.reduceAdd, Nat.reduceLeDiff, boxR, rboxR, allocR, fldR, binI, unR, pickR, mknilR, mkslR, buildSlR, buildR, extR, convI, eqB, evU, wrap64, encB]) | (with_reducible intro _) | ((with_reducible apply And.intro); omega)))
  by_cases hlm : l.length = m.length
  case neg =>
    rw [eqL_nol hlm]
    (repeat (first | (simp (disch := (first | omega | (simp only [evF, evL, implies_true, and_self]; done) | fail)) only [evS, evZ, evX, evK, evB, evL, evR, Nat.reduceBEq, Nat.reduceAdd, Nat.reduceLeDiff, boxR, rboxR, allocR, fldR, binI, unR, pickR, mknilR, mkslR, buildSlR, buildR, extR, convI, eqB, evU, wrap64, dT, rs_slices_Equal_api_Reloc_api_Reloc]) | (with_reducible intro _) | ((with_reducible apply And.intro); omega)))
    exact ⟨_, .bool _ _, rfl⟩
  (repeat (first | (simp (disch := (first | omega | (simp only [evF, evL, implies_true, and_self]; done) | fail)) only [evS, evZ, evX, evK, evB, evL, evR, Nat.reduceBEq, Nat.reduceAdd, Nat.reduceLeDiff, boxR, rboxR, allocR, fldR, binI, unR, pickR, mknilR, mkslR, buildSlR, buildR, extR, convI, eqB, evU, wrap64, dF]) | (with_reducible intro _) | ((with_reducible apply And.intro); omega)))
  refine loopX_intro (fun i : Nat => ([(0, encL 5 Rel.cells l), (1, encL 5 Rel.cells m), (12, .int .i64 l.length), (13, .int .i64 i)], [])) 0 (fun i => i ≤ l.length ∧ eqTo1 eqRl l m i) (fun i => l.length - i) 0 ⟨Nat.zero_le _, eqTo_zero⟩ (Ent.keep rfl (by (try simp [subK, Kn.get, beq_eq]) <;> (repeat' with_reducible apply And.intro) <;> first | rfl | omega | (simp; done))) ?_
  rintro i ⟨hi, hq⟩ wf
  unfold ac_slices_Equal_api_Reloc_api_Reloc_l0
  (repeat (first | (simp (disch := (first | omega | (simp only [evF, evL, implies_true, and_self]; done) | fail)) only [evS, evZ, evX, evK, evB, evL, evR, Nat.reduceBEq, Nat.reduceAdd, Nat.reduceLeDiff, boxR, rboxR, allocR, fldR, binI, unR, pickR, mknilR, mkslR, buildSlR, buildR, extR, convI, eqB, evU, wrap64]) | (with_reducible intro _) | ((with_reducible apply And.intro); omega)))
  (refine condX_intro (fun h => ?_) (fun h => ?_)) <;> (try simp only [decide_eq_true_eq, decide_eq_false_iff_not, Bool.not_eq_true', Bool.not_eq_false', Bool.and_eq_true, Bool.or_eq_true, not_true_eq_false, not_false_eq_true] at h)
  · have h1 : i < l.length := by omega
    have h2 : i < m.length := by omega
    have hs := eqTo_succ h1 h2 hq
    have hn := eqL_no (p := eqRl) h1 h2
    have he : xopR (.eqs true [0, 0, 0, 1, 0]) [.agg (l[i]).cells, .agg (m[i]).cells] = fun H nx => ⟨True, True, .bool (!eqRl l[i] m[i]), H, nx⟩ := rfl
    have he2 : ∀ {H : AH} {nx : Nat}, xopR (.eqs true [0, 0, 0, 1, 0]) [.agg (l[i]).cells, .agg (m[i]).cells] H nx = ⟨True, True, .bool (!eqRl l[i] m[i]), H, nx⟩ := fun {H nx} => rfl
    (repeat (first | (simp (disch := (first | omega | (simp only [evF, evL, implies_true, and_self]; done) | fail)) only [evS, evZ, evX, evK, evB, evL, evR, Nat.reduceBEq, Nat.reduceAdd, Nat.reduceLeDiff, boxR, rboxR, allocR, fldR, binI, unR, pickR, mknilR, mkslR, buildSlR, buildR, extR, convI, eqB, evU, wrap64, getD_map h1, getD_map h2, Rel.five, Rel.len, Rel.flat, he2]) | (with_reducible intro _) | ((with_reducible apply And.intro); omega)))
    cases hv : eqRl l[i] m[i] with
    | false =>
      rw [hn hv]
      (repeat (first | (simp (disch := (first | omega | (simp only [evF, evL, implies_true, and_self]; done) | fail)) only [evS, evZ, evX, evK, evB, evL, evR, Nat.reduceBEq, Nat.reduceAdd, Nat.reduceLeDiff, boxR, rboxR, allocR, fldR, binI, unR, pickR, mknilR, mkslR, buildSlR, buildR, extR, convI, eqB, evU, wrap64, rs_slices_Equal_api_Reloc_api_Reloc]) | (with_reducible intro _) | ((with_reducible apply And.intro); omega)))
      exact ⟨_, .bool _ _, rfl⟩
    | true =>
      (repeat (first | (simp (disch := (first | omega | (simp only [evF, evL, implies_true, and_self]; done) | fail)) only [evS, evZ, evX, evK, evB, evL, evR, Nat.reduceBEq, Nat.reduceAdd, Nat.reduceLeDiff, boxR, rboxR, allocR, fldR, binI, unR, pickR, mknilR, mkslR, buildSlR, buildR, extR, convI, eqB, evU, wrap64]) | (with_reducible intro _) | ((with_reducible apply And.intro); omega)))
      exact ⟨i + 1, ⟨by omega, hs hv⟩, by omega, Ent.keep rfl (by (try simp [subK, Kn.get, beq_eq]) <;> (repeat' with_reducible apply And.intro) <;> first | rfl | omega | (simp; done))⟩
  · rw [eqL_end hlm hq (by omega)]
    unfold ac_slices_Equal_api_Reloc_api_Reloc_k1
    (repeat (first | (simp (disch := (first | omega | (simp only [evF, evL, implies_true, and_self]; done) | fail)) only [evS, evZ, evX, evK, evB, evL, evR, Nat.reduceBEq, Nat.reduceAdd, Nat.reduceLeDiff, boxR, rboxR, allocR, fldR, binI, unR, pickR, mknilR, mkslR, buildSlR, buildR, extR, convI, eqB, evU, wrap64, rs_slices_Equal_api_Reloc_api_Reloc]) | (with_reducible intro _) | ((with_reducible apply And.intro); omega)))
    exact ⟨_, .bool _ _, rfl⟩

theorem object_Same_1_ok (a b : Sec) : PureFn Try.prog f_object_Same_1 [.agg a.cells, .agg b.cells] (· = .bool (eqS a b)) := by
  refine fn_x cf_object_Same_1 rfl ?_
  unfold ac_object_Same_1
  have hB : big = 9223372036854775807 := rfl
  have c3 : ∀ s : Sec, s.cells.getD 3 .undef = .bool s.wr := fun _ => rfl
  (repeat (first | (simp (disch := (first | omega | (simp only [evF, evL, implies_true, and_self]; done) | fail)) only [evS, evZ, evX, evK, evB, evL, evR, Nat.reduceBEq, Nat.reduceAdd, Nat.reduceLeDiff, boxR, rboxR, allocR, fldR, binI, unR, pickR, mknilR, mkslR, buildSlR, buildR, extR, convI, eqB, evU, wrap64, Sec.len, Sec.flat]) | (with_reducible intro _) | ((with_reducible apply And.intro); omega)))
  by_cases n1 : a.name = b.name
  case neg =>
    (repeat (first | (simp (disch := (first | omega | (simp only [evF, evL, implies_true, and_self]; done) | fail)) only [evS, evZ, evX, evK, evB, evL, evR, Nat.reduceBEq, Nat.reduceAdd, Nat.reduceLeDiff, boxR, rboxR, allocR, fldR, binI, unR, pickR, mknilR, mkslR, buildSlR, buildR, extR, convI, eqB, evU, wrap64, Sec.c0, dF, rs_object_Same_1]) | (with_reducible intro _) | ((with_reducible apply And.intro); omega)))
    refine ⟨_, .bool _ _, ?_⟩
    rw [eqS, decide_eq_false n1]
    simp
  by_cases n2 : (a.addr.toNat : Int) = b.addr.toNat
  case neg =>
    (repeat (first | (simp (disch := (first | omega | (simp only [evF, evL, implies_true, and_self]; done) | fail)) only [evS, evZ, evX, evK, evB, evL, evR, Nat.reduceBEq, Nat.reduceAdd, Nat.reduceLeDiff, boxR, rboxR, allocR, fldR, binI, unR, pickR, mknilR, mkslR, buildSlR, buildR, extR, convI, eqB, evU, wrap64, Sec.c0, Sec.c1, dT, dF, rs_object_Same_1]) | (with_reducible intro _) | ((with_reducible apply And.intro); omega)))
    refine ⟨_, .bool _ _, ?_⟩
    rw [eqS, decide_eq_false n2]
    simp
  have d1 : decide (a.name = b.name) = true := decide_eq_true n1
  have d2 : decide ((a.addr.toNat : Int) = b.addr.toNat) = true := decide_eq_true n2
  (repeat (first | (simp (disch := (first | omega | (simp only [evF, evL, implies_true, and_self]; done) | fail)) only [evS, evZ, evX, evK, evB, evL, evR, Nat.reduceBEq, Nat.reduceAdd, Nat.reduceLeDiff, boxR, rboxR, allocR, fldR, binI, unR, pickR, mknilR, mkslR, buildSlR, buildR, extR, convI, eqB, evU, wrap64, Sec.c0, Sec.c1, d1, d2, Sec.c2]) | (with_reducible intro _) | ((with_reducible apply And.intro); omega)))
  refine callX_fix (call_flat (slices_Equal_byte_byte_ok a.data b.data) rfl) ?_
  unfold eqS
  rw [d1, d2]
  cases eqL eqB1 a.data b.data with
  | false =>
    (repeat (first | (simp (disch := (first | omega | (simp only [evF, evL, implies_true, and_self]; done) | fail)) only [evS, evZ, evX, evK, evB, evL, evR, Nat.reduceBEq, Nat.reduceAdd, Nat.reduceLeDiff, boxR, rboxR, allocR, fldR, binI, unR, pickR, mknilR, mkslR, buildSlR, buildR, extR, convI, eqB, evU, wrap64, rs_object_Same_1]) | (with_reducible intro _) | ((with_reducible apply And.intro); omega)))
    exact ⟨_, .bool _ _, rfl⟩
  | true =>
    (repeat (first | (simp (disch := (first | omega | (simp only [evF, evL, implies_true, and_self]; done) | fail)) only [evS, evZ, evX, evK, evB, evL, evR, Nat.reduceBEq, Nat.reduceAdd, Nat.reduceLeDiff, boxR, rboxR, allocR, fldR, binI, unR, pickR, mknilR, mkslR, buildSlR, buildR, extR, convI, eqB, evU, wrap64, c3]) | (with_reducible intro _) | ((with_reducible apply And.intro); omega)))
    cases (a.wr == b.wr) with
    | false =>
      (repeat (first | (simp (disch := (first | omega | (simp only [evF, evL, implies_true, and_self]; done) | fail)) only [evS, evZ, evX, evK, evB, evL, evR, Nat.reduceBEq, Nat.reduceAdd, Nat.reduceLeDiff, boxR, rboxR, allocR, fldR, binI, unR, pickR, mknilR, mkslR, buildSlR, buildR, extR, convI, eqB, evU, wrap64, rs_object_Same_1]) | (with_reducible intro _) | ((with_reducible apply And.intro); omega)))
      exact ⟨_, .bool _ _, rfl⟩
    | true =>
      (repeat (first | (simp (disch := (first | omega | (simp only [evF, evL, implies_true, and_self]; done) | fail)) only [evS, evZ, evX, evK, evB, evL, evR, Nat.reduceBEq, Nat.reduceAdd, Nat.reduceLeDiff, boxR, rboxR, allocR, fldR, binI, unR, pickR, mknilR, mkslR, buildSlR, buildR, extR, convI, eqB, evU, wrap64, Sec.c4, rs_object_Same_1]) | (with_reducible intro _) | ((with_reducible apply And.intro); omega)))
      exact ⟨_, .bool _ _, rfl⟩

theorem slices_EqualFunc_ok (l m : List Sec) : PureFn Try.prog f_slices_EqualFunc_api_Section_api_Section_api_Section_api_Section [encL 5 Sec.cells l, encL 5 Sec.cells m, .fn (.func f_object_Same_1) []] (· = .bool (eqL eqS l m)) := by
  refine fn_x cf_slices_EqualFunc_api_Section_api_Section_api_Section_api_Section rfl ?_
  unfold ac_slices_EqualFunc_api_Section_api_Section_api_Section_api_Section
  have hB : big = 9223372036854775807 := rfl
  have hgood : fnGood Try.prog f_object_Same_1 = true := by kernel_rfl
  (repeat (first | (simp (disch := (first | omega | (simp only [evF, evL, implies_true, and_self]; done) | fail)) only [evS, evZ, evX, evK, evB, evL, evR, Nat.reduceBEq, Nat.reduceAdd, Nat.reduceLeDiff, boxR, rboxR, allocR, fldR, binI, unR, pickR, mknilR, mkslR, buildSlR, buildR, extR, convI, eqB, evU, wrap64]) | (with_reducible intro _) | ((with_reducible apply And.intro); omega)))
  by_cases hlm : l.length = m.length
  case neg =>
    rw [eqL_nol hlm]
    (repeat (first | (simp (disch := (first | omega | (simp only [evF, evL, implies_true, and_self]; done) | fail)) only [evS, evZ, evX, evK, evB, evL, evR, Nat.reduceBEq, Nat.reduceAdd, Nat.reduceLeDiff, boxR, rboxR, allocR, fldR, binI, unR, pickR, mknilR, mkslR, buildSlR, buildR, extR, convI, eqB, evU, wrap64, dT, rs_slices_EqualFunc_api_Section_api_Section_api_Section_api_Section]) | (with_reducible intro _) | ((with_reducible apply And.intro); omega)))
    exact ⟨_, .bool _ _, rfl⟩
  (repeat (first | (simp (disch := (first | omega | (simp only [evF, evL, implies_true, and_self]; done) | fail)) only [evS, evZ, evX, evK, evB, evL, evR, Nat.reduceBEq, Nat.reduceAdd, Nat.reduceLeDiff, boxR, rboxR, allocR, fldR, binI, unR, pickR, mknilR, mkslR, buildSlR, buildR, extR, convI, eqB, evU, wrap64, dF]) | (with_reducible intro _) | ((with_reducible apply And.intro); omega)))
  refine loopX_intro (fun i : Nat => ([(1, encL 5 Sec.cells m), (2, .fn (.func f_object_Same_1) []), (15, encL 5 Sec.cells l), (16, .int .i64 l.length), (17, .int .i64 i)], [])) 0 (fun i => i ≤ l.length ∧ eqTo1 eqS l m i) (fun i => l.length - i) 0 ⟨Nat.zero_le _, eqTo_zero⟩ (Ent.keep rfl (by (try simp [subK, Kn.get, beq_eq]) <;> (repeat' with_reducible apply And.intro) <;> first | rfl | omega | (simp; done))) ?_
  rintro i ⟨hi, hq⟩ wf
  unfold ac_slices_EqualFunc_api_Section_api_Section_api_Section_api_Section_l0
  (repeat (first | (simp (disch := (first | omega | (simp only [evF, evL, implies_true, and_self]; done) | fail)) only [evS, evZ, evX, evK, evB, evL, evR, Nat.reduceBEq, Nat.reduceAdd, Nat.reduceLeDiff, boxR, rboxR, allocR, fldR, binI, unR, pickR, mknilR, mkslR, buildSlR, buildR, extR, convI, eqB, evU, wrap64]) | (with_reducible intro _) | ((with_reducible apply And.intro); omega)))
  (refine condX_intro (fun h => ?_) (fun h => ?_)) <;> (try simp only [decide_eq_true_eq, decide_eq_false_iff_not, Bool.not_eq_true', Bool.not_eq_false', Bool.and_eq_true, Bool.or_eq_true, not_true_eq_false, not_false_eq_true] at h)
  · have h1 : i < l.length := by omega
    have h2 : i < m.length := by omega
    have hs := eqTo_succ h1 h2 hq
    have hn := eqL_no (p := eqS) h1 h2
    (repeat (first | (simp (disch := (first | omega | (simp only [evF, evL, implies_true, and_self]; done) | fail)) only [evS, evZ, evX, evK, evB, evL, evR, Nat.reduceBEq, Nat.reduceAdd, Nat.reduceLeDiff, boxR, rboxR, allocR, fldR, binI, unR, pickR, mknilR, mkslR, buildSlR, buildR, extR, convI, eqB, evU, wrap64, getD_map h1, getD_map h2, Sec.five, Sec.len, Sec.flat, hgood]) | (with_reducible intro _) | ((with_reducible apply And.intro); omega)))
    refine callX_fix (call_flat (object_Same_1_ok l[i] m[i]) rfl) ?_
    cases hv : eqS l[i] m[i] with
    | false =>
      rw [hn hv]
      (repeat (first | (simp (disch := (first | omega | (simp only [evF, evL, implies_true, and_self]; done) | fail)) only [evS, evZ, evX, evK, evB, evL, evR, Nat.reduceBEq, Nat.reduceAdd, Nat.reduceLeDiff, boxR, rboxR, allocR, fldR, binI, unR, pickR, mknilR, mkslR, buildSlR, buildR, extR, convI, eqB, evU, wrap64, rs_slices_EqualFunc_api_Section_api_Section_api_Section_api_Section]) | (with_reducible intro _) | ((with_reducible apply And.intro); omega)))
      exact ⟨_, .bool _ _, rfl⟩
    | true =>
      (repeat (first | (simp (disch := (first | omega | (simp only [evF, evL, implies_true, and_self]; done) | fail)) only [evS, evZ, evX, evK, evB, evL, evR, Nat.reduceBEq, Nat.reduceAdd, Nat.reduceLeDiff, boxR, rboxR, allocR, fldR, binI, unR, pickR, mknilR, mkslR, buildSlR, buildR, extR, convI, eqB, evU, wrap64]) | (with_reducible intro _) | ((with_reducible apply And.intro); omega)))
      exact ⟨i + 1, ⟨by omega, hs hv⟩, by omega, (Ent.tab [] [] rfl (by (try simp only [evW, evK, evB, evL, Nat.reduceBEq, Nat.reduceAdd, Nat.reduceSub, Nat.reduceLeDiff, Nat.reduceLT, implies_true, and_self, Int.natCast_zero, Int.natCast_one, Int.cast_ofNat_Int, evV, encInts, encNats, encBools, encP]) <;> (repeat' with_reducible apply And.intro) <;> first | omega | exact vw_nats rfl rfl (by omega) | exact vw_ints rfl rfl (by omega) | exact vw_bools rfl rfl (by omega) | exact rowV_flat (by repeat' first | exact bytes_flat | exact flat1 | refine flat_app ?_ ?_) | exact rowV_fe (fun _ => rfl) | exact rowV_fe_start (c := cN) (fun _ => rfl) rfl | exact rowsV_fam (fun _ => rfl) (by decide) ⟨rfl, rfl⟩ trivial | exact rowsV_fam (fun _ => rfl) (by decide) (fun _ _ => ⟨rfl, rfl⟩) trivial | (simp; done)) (by (try simp only [evW, evK, evB, evL, Nat.reduceBEq, Nat.reduceAdd, Nat.reduceSub, Nat.reduceLeDiff, Nat.reduceLT, implies_true, and_self, Int.natCast_zero, Int.natCast_one, Int.cast_ofNat_Int, evV, encInts, encNats, encBools, encP]) <;> (repeat' with_reducible apply And.intro) <;> first | omega | exact vw_nats rfl rfl (by omega) | exact vw_ints rfl rfl (by omega) | exact vw_bools rfl rfl (by omega) | exact rowV_flat (by repeat' first | exact bytes_flat | exact flat1 | refine flat_app ?_ ?_) | exact rowV_fe (fun _ => rfl) | exact rowV_fe_start (c := cN) (fun _ => rfl) rfl | exact rowsV_fam (fun _ => rfl) (by decide) ⟨rfl, rfl⟩ trivial | exact rowsV_fam (fun _ => rfl) (by decide) (fun _ _ => ⟨rfl, rfl⟩) trivial | (simp; done)))⟩
  · rw [eqL_end hlm hq (by omega)]
    unfold ac_slices_EqualFunc_api_Section_api_Section_api_Section_api_Section_k1
    (repeat (first | (simp (disch := (first | omega | (simp only [evF, evL, implies_true, and_self]; done) | fail)) only [evS, evZ, evX, evK, evB, evL, evR, Nat.reduceBEq, Nat.reduceAdd, Nat.reduceLeDiff, boxR, rboxR, allocR, fldR, binI, unR, pickR, mknilR, mkslR, buildSlR, buildR, extR, convI, eqB, evU, wrap64, rs_slices_EqualFunc_api_Section_api_Section_api_Section_api_Section]) | (with_reducible intro _) | ((with_reducible apply And.intro); omega)))
    exact ⟨_, .bool _ _, rfl⟩

theorem object_Same_ok (a b : Bin) : PureFn Try.prog f_object_Same [.agg a.cells, .agg b.cells] (· = .bool (sameO a b)) := by
  refine fn_x cf_object_Same rfl ?_
  unfold ac_object_Same
  have hB : big = 9223372036854775807 := rfl
  (repeat (first | (simp (disch := (first | omega | (simp only [evF, evL, implies_true, and_self]; done) | fail)) only [evS, evZ, evX, evK, evB, evL, evR, Nat.reduceBEq, Nat.reduceAdd, Nat.reduceLeDiff, boxR, rboxR, allocR, fldR, binI, unR, pickR, mknilR, mkslR, buildSlR, buildR, extR, convI, eqB, evU, wrap64, Bin.len, Bin.flat, Bin.c1]) | (with_reducible intro _) | ((with_reducible apply And.intro); omega)))
  refine callX_fix (call_fix (D := noR) (slices_EqualFunc_ok a.secs b.secs) (.cons (.sl _ _ _ _) (.cons (.sl _ _ _ _) (.cons (.fn _ _ _ _ rfl (fun i x y h => by cases i <;> cases h)) .nil))) (.inl rfl)) ?_
  unfold sameO
  cases eqL eqS a.secs b.secs with
  | false =>
    (repeat (first | (simp (disch := (first | omega | (simp only [evF, evL, implies_true, and_self]; done) | fail)) only [evS, evZ, evX, evK, evB, evL, evR, Nat.reduceBEq, Nat.reduceAdd, Nat.reduceLeDiff, boxR, rboxR, allocR, fldR, binI, unR, pickR, mknilR, mkslR, buildSlR, buildR, extR, convI, eqB, evU, wrap64, rs_object_Same]) | (with_reducible intro _) | ((with_reducible apply And.intro); omega)))
    exact ⟨_, .bool _ _, rfl⟩
  | true =>
    (repeat (first | (simp (disch := (first | omega | (simp only [evF, evL, implies_true, and_self]; done) | fail)) only [evS, evZ, evX, evK, evB, evL, evR, Nat.reduceBEq, Nat.reduceAdd, Nat.reduceLeDiff, boxR, rboxR, allocR, fldR, binI, unR, pickR, mknilR, mkslR, buildSlR, buildR, extR, convI, eqB, evU, wrap64, Bin.c0, Bin.len]) | (with_reducible intro _) | ((with_reducible apply And.intro); omega)))
    by_cases n2 : (a.entry.toNat : Int) = b.entry.toNat
    case neg =>
      rw [decide_eq_false n2]
      (repeat (first | (simp (disch := (first | omega | (simp only [evF, evL, implies_true, and_self]; done) | fail)) only [evS, evZ, evX, evK, evB, evL, evR, Nat.reduceBEq, Nat.reduceAdd, Nat.reduceLeDiff, boxR, rboxR, allocR, fldR, binI, unR, pickR, mknilR, mkslR, buildSlR, buildR, extR, convI, eqB, evU, wrap64, Bin.c0, Bin.len, dF, rs_object_Same]) | (with_reducible intro _) | ((with_reducible apply And.intro); omega)))
      exact ⟨_, .bool _ _, rfl⟩
    have d2 : decide ((a.entry.toNat : Int) = b.entry.toNat) = true := decide_eq_true n2
    rw [d2]
    (repeat (first | (simp (disch := (first | omega | (simp only [evF, evL, implies_true, and_self]; done) | fail)) only [evS, evZ, evX, evK, evB, evL, evR, Nat.reduceBEq, Nat.reduceAdd, Nat.reduceLeDiff, boxR, rboxR, allocR, fldR, binI, unR, pickR, mknilR, mkslR, buildSlR, buildR, extR, convI, eqB, evU, wrap64, Bin.c0, Bin.len, d2, Bin.c2]) | (with_reducible intro _) | ((with_reducible apply And.intro); omega)))
    refine callX_fix (call_flat (slices_Equal_api_Symbol_api_Symbol_ok a.syms b.syms) rfl) ?_
    cases eqL eqY a.syms b.syms with
    | false =>
      (repeat (first | (simp (disch := (first | omega | (simp only [evF, evL, implies_true, and_self]; done) | fail)) only [evS, evZ, evX, evK, evB, evL, evR, Nat.reduceBEq, Nat.reduceAdd, Nat.reduceLeDiff, boxR, rboxR, allocR, fldR, binI, unR, pickR, mknilR, mkslR, buildSlR, buildR, extR, convI, eqB, evU, wrap64, rs_object_Same]) | (with_reducible intro _) | ((with_reducible apply And.intro); omega)))
      exact ⟨_, .bool _ _, rfl⟩
    | true =>
      (repeat (first | (simp (disch := (first | omega | (simp only [evF, evL, implies_true, and_self]; done) | fail)) only [evS, evZ, evX, evK, evB, evL, evR, Nat.reduceBEq, Nat.reduceAdd, Nat.reduceLeDiff, boxR, rboxR, allocR, fldR, binI, unR, pickR, mknilR, mkslR, buildSlR, buildR, extR, convI, eqB, evU, wrap64, Bin.c3, Bin.len]) | (with_reducible intro _) | ((with_reducible apply And.intro); omega)))
      refine callX_fix (call_flat (slices_Equal_api_Reloc_api_Reloc_ok a.rels b.rels) rfl) ?_
      (repeat (first | (simp (disch := (first | omega | (simp only [evF, evL, implies_true, and_self]; done) | fail)) only [evS, evZ, evX, evK, evB, evL, evR, Nat.reduceBEq, Nat.reduceAdd, Nat.reduceLeDiff, boxR, rboxR, allocR, fldR, binI, unR, pickR, mknilR, mkslR, buildSlR, buildR, extR, convI, eqB, evU, wrap64, rs_object_Same]) | (with_reducible intro _) | ((with_reducible apply And.intro); omega)))
      exact ⟨_, .bool _ _, rfl⟩

end Go.Ab

namespace Go.Ab
open Go.RowKit Go.Proofs

def largeL : List Sec → Int → Bool
  | [], _ => false
  | s :: r, n => if 200000 < IntKind.i64.wrap (n + s.data.length) then true else largeL r (IntKind.i64.wrap (n + s.data.length))
def largeO (o : Bin) : Bool := if 40 < o.secs.length ∨ 300 < o.syms.length ∨ 300 < o.rels.length then true else largeL o.secs 0

theorem largeL_step {l : List Sec} {i : Nat} {n : Int} (h : i < l.length) : largeL (l.drop i) n = if 200000 < IntKind.i64.wrap (n + l[i].data.length) then true else largeL (l.drop (i + 1)) (IntKind.i64.wrap (n + l[i].data.length)) := by
  rw [List.drop_eq_getElem_cons h]
  rfl

theorem L08_large_ok (o : Bin) : PureFn Try.prog f_L08_large [.agg o.cells] (· = .bool (largeO o)) := by
  refine fn_x cf_L08_large rfl ?_
  unfold ac_L08_large
  have hB : big = 9223372036854775807 := rfl
  (repeat (first | (simp (disch := (first | omega | (simp only [evF, evL, implies_true, and_self]; done) | fail)) only [evS, evZ, evX, evK, evB, evL, evR, Nat.reduceBEq, Nat.reduceAdd, Nat.reduceLeDiff, boxR, rboxR, allocR, fldR, binI, unR, pickR, mknilR, mkslR, buildSlR, buildR, extR, convI, eqB, evU, wrap64, Bin.len, Bin.flat, Bin.c1]) | (with_reducible intro _) | ((with_reducible apply And.intro); omega)))
  by_cases h1 : 40 < o.secs.length
  · rw [largeO, if_pos (.inl h1)]
    (repeat (first | (simp (disch := (first | omega | (simp only [evF, evL, implies_true, and_self]; done) | fail)) only [evS, evZ, evX, evK, evB, evL, evR, Nat.reduceBEq, Nat.reduceAdd, Nat.reduceLeDiff, boxR, rboxR, allocR, fldR, binI, unR, pickR, mknilR, mkslR, buildSlR, buildR, extR, convI, eqB, evU, wrap64, dT, rs_L08_large]) | (with_reducible intro _) | ((with_reducible apply And.intro); omega)))
    exact ⟨_, .bool _ _, rfl⟩
  by_cases h2 : 300 < o.syms.length
  · rw [largeO, if_pos (.inr (.inl h2))]
    (repeat (first | (simp (disch := (first | omega | (simp only [evF, evL, implies_true, and_self]; done) | fail)) only [evS, evZ, evX, evK, evB, evL, evR, Nat.reduceBEq, Nat.reduceAdd, Nat.reduceLeDiff, boxR, rboxR, allocR, fldR, binI, unR, pickR, mknilR, mkslR, buildSlR, buildR, extR, convI, eqB, evU, wrap64, dT, dF, Bin.c2, Bin.len, rs_L08_large]) | (with_reducible intro _) | ((with_reducible apply And.intro); omega)))
    exact ⟨_, .bool _ _, rfl⟩
  by_cases h3 : 300 < o.rels.length
  · rw [largeO, if_pos (.inr (.inr h3))]
    (repeat (first | (simp (disch := (first | omega | (simp only [evF, evL, implies_true, and_self]; done) | fail)) only [evS, evZ, evX, evK, evB, evL, evR, Nat.reduceBEq, Nat.reduceAdd, Nat.reduceLeDiff, boxR, rboxR, allocR, fldR, binI, unR, pickR, mknilR, mkslR, buildSlR, buildR, extR, convI, eqB, evU, wrap64, dT, dF, Bin.c2, Bin.c3, Bin.len, rs_L08_large]) | (with_reducible intro _) | ((with_reducible apply And.intro); omega)))
    exact ⟨_, .bool _ _, rfl⟩
  rw [largeO, if_neg (by omega)]
  generalize hR : largeL o.secs 0 = R
  (repeat (first | (simp (disch := (first | omega | (simp only [evF, evL, implies_true, and_self]; done) | fail)) only [evS, evZ, evX, evK, evB, evL, evR, Nat.reduceBEq, Nat.reduceAdd, Nat.reduceLeDiff, boxR, rboxR, allocR, fldR, binI, unR, pickR, mknilR, mkslR, buildSlR, buildR, extR, convI, eqB, evU, wrap64, dF, Bin.c2, Bin.c3, Bin.len]) | (with_reducible intro _) | ((with_reducible apply And.intro); omega)))
  refine loopX_intro (fun s : Nat × Int => ([(1, encP 4 o.cells), (3, .int .i64 s.2), (4, .int .i64 s.1)], [])) 0 (fun s => s.1 ≤ o.secs.length ∧ largeL (o.secs.drop s.1) s.2 = R) (fun s => o.secs.length - s.1) (0, 0) ⟨Nat.zero_le _, hR⟩ (Ent.keep rfl (by (try simp [subK, Kn.get, beq_eq]) <;> (repeat' with_reducible apply And.intro) <;> first | rfl | omega | (simp; done))) ?_
  rintro ⟨i, n⟩ ⟨hi, hgo⟩ wf
  simp only at hi hgo
  unfold ac_L08_large_l0
  (repeat (first | (simp (disch := (first | omega | (simp only [evF, evL, implies_true, and_self]; done) | fail)) only [evS, evZ, evX, evK, evB, evL, evR, Nat.reduceBEq, Nat.reduceAdd, Nat.reduceLeDiff, boxR, rboxR, allocR, fldR, binI, unR, pickR, mknilR, mkslR, buildSlR, buildR, extR, convI, eqB, evU, wrap64, fldP, Bin.c1, Bin.len]) | (with_reducible intro _) | ((with_reducible apply And.intro); omega)))
  (refine condX_intro (fun h => ?_) (fun h => ?_)) <;> (try simp only [decide_eq_true_eq, decide_eq_false_iff_not, Bool.not_eq_true', Bool.not_eq_false', Bool.and_eq_true, Bool.or_eq_true, not_true_eq_false, not_false_eq_true] at h)
  · have hi' : i < o.secs.length := by omega
    rw [largeL_step hi'] at hgo
    (repeat (first | (simp (disch := (first | omega | (simp only [evF, evL, implies_true, and_self]; done) | fail)) only [evS, evZ, evX, evK, evB, evL, evR, Nat.reduceBEq, Nat.reduceAdd, Nat.reduceLeDiff, boxR, rboxR, allocR, fldR, binI, unR, pickR, mknilR, mkslR, buildSlR, buildR, extR, convI, eqB, evU, wrap64, getD_map hi', fldP, Bin.c1, Bin.len, Sec.c2, Sec.len]) | (with_reducible intro _) | ((with_reducible apply And.intro); omega)))
    generalize IntKind.i64.wrap (n + (o.secs[i].data.length : Int)) = n2 at *
    (repeat (first | (simp (disch := (first | omega | (simp only [evF, evL, implies_true, and_self]; done) | fail)) only [evS, evZ, evX, evK, evB, evL, evR, Nat.reduceBEq, Nat.reduceAdd, Nat.reduceLeDiff, boxR, rboxR, allocR, fldR, binI, unR, pickR, mknilR, mkslR, buildSlR, buildR, extR, convI, eqB, evU, wrap64]) | (with_reducible intro _) | ((with_reducible apply And.intro); omega)))
    (refine condX_intro (fun h4 => ?_) (fun h4 => ?_)) <;> (try simp only [decide_eq_true_eq, decide_eq_false_iff_not, Bool.not_eq_true', Bool.not_eq_false', Bool.and_eq_true, Bool.or_eq_true, not_true_eq_false, not_false_eq_true] at h4)
    · rw [if_pos h4] at hgo
      rw [← hgo]
      (repeat (first | (simp (disch := (first | omega | (simp only [evF, evL, implies_true, and_self]; done) | fail)) only [evS, evZ, evX, evK, evB, evL, evR, Nat.reduceBEq, Nat.reduceAdd, Nat.reduceLeDiff, boxR, rboxR, allocR, fldR, binI, unR, pickR, mknilR, mkslR, buildSlR, buildR, extR, convI, eqB, evU, wrap64, rs_L08_large]) | (with_reducible intro _) | ((with_reducible apply And.intro); omega)))
      exact ⟨_, .bool _ _, rfl⟩
    · rw [if_neg h4] at hgo
      (repeat (first | (simp (disch := (first | omega | (simp only [evF, evL, implies_true, and_self]; done) | fail)) only [evS, evZ, evX, evK, evB, evL, evR, Nat.reduceBEq, Nat.reduceAdd, Nat.reduceLeDiff, boxR, rboxR, allocR, fldR, binI, unR, pickR, mknilR, mkslR, buildSlR, buildR, extR, convI, eqB, evU, wrap64]) | (with_reducible intro _) | ((with_reducible apply And.intro); omega)))
      exact ⟨(i + 1, n2), ⟨by simp only; omega, hgo⟩, by simp only; omega, Ent.keep rfl (by (try simp [subK, Kn.get, beq_eq]) <;> (repeat' with_reducible apply And.intro) <;> first | rfl | omega | (simp; done))⟩
  · rw [List.drop_of_length_le (by omega)] at hgo
    rw [← hgo]
    unfold ac_L08_large_k1
    (repeat (first | (simp (disch := (first | omega | (simp only [evF, evL, implies_true, and_self]; done) | fail)) only [evS, evZ, evX, evK, evB, evL, evR, Nat.reduceBEq, Nat.reduceAdd, Nat.reduceLeDiff, boxR, rboxR, allocR, fldR, binI, unR, pickR, mknilR, mkslR, buildSlR, buildR, extR, convI, eqB, evU, wrap64, rs_L08_large]) | (with_reducible intro _) | ((with_reducible apply And.intro); omega)))
    exact ⟨_, .bool _ _, rfl⟩

theorem large_few {o : Bin} (h : largeO o = false) : o.syms.length ≤ 300 ∧ o.rels.length ≤ 300 := by
  unfold largeO at h
  by_cases h1 : 40 < o.secs.length ∨ 300 < o.syms.length ∨ 300 < o.rels.length
  · rw [if_pos h1] at h; cases h
  · omega

def exS : Sec := ⟨⟨#[116]⟩, 4096, [1], false, true⟩
def exO : Bin := ⟨4096, [exS], [], []⟩

theorem L08_example_ok : PureFn Try.prog f_L08_example [] (· = .agg exO.cells) := by
  refine fn_x cf_L08_example rfl ?_
  unfold ac_L08_example
  have hB : big = 9223372036854775807 := rfl
  (repeat (first | (simp (disch := (first | omega | (simp only [evF, evL, implies_true, and_self]; done) | fail)) only [evS, evZ, evX, evK, evB, evL, evR, Nat.reduceBEq, Nat.reduceAdd, Nat.reduceLeDiff, boxR, rboxR, allocR, fldR, binI, unR, pickR, mknilR, mkslR, buildSlR, buildR, extR, convI, eqB, evU, wrap64, rs_L08_example]) | (with_reducible intro _) | ((with_reducible apply And.intro); omega)))
  refine ⟨.agg exO.cells, .agg _ _ _ rfl (fun i a c h1 h2 => ?_), rfl⟩
  match i with
  | 0 => cases h1; cases h2; exact .int _ _ _
  | 1 =>
    cases h1; cases h2
    refine .frz _ 2 0 0 0 1 5 _ _ trivial rfl (by decide) (Nat.le_refl 1) (fun i j hi hj => ?_)
    obtain rfl : i = 0 := by omega
    match j with
    | 0 => exact .str _ _
    | 1 => exact .int _ _ _
    | 2 => exact vw_bytes (l := [1]) trivial rfl rfl (by decide)
    | 3 => exact .bool _ _
    | 4 => exact .bool _ _
    | j + 5 => omega
  | 2 => cases h1; cases h2; exact .nil0 _ _ _
  | 3 => cases h1; cases h2; exact .nil0 _ _ _
  | i + 4 => cases h1

theorem exO_okN : exO.okN := ⟨fun s hs => (by rw [List.mem_singleton.1 hs]; exact (show 1 ≤ big by decide)), fun s hs => (by cases hs), by decide, by decide⟩

theorem exO_check : checkO exO = 0 := by decide

theorem exO_len : (fullB exO).length = 29 := by
  rw [fullB, List.length_append, leB_len]
  rfl

theorem exO_encode : encodeO exO = (fullB exO, 0) := encodeO_good exO_check (by rw [exO_len]; decide)

theorem exO_head : (fullB exO)[0]'(by rw [exO_len]; decide) = 68 := rfl

theorem exO_same : sameO exO exO = true := by decide

theorem L08_exampleHolds_ok : PureFn Try.prog f_L08_exampleHolds [] (· = .bool true) := by
  refine fn_x cf_L08_exampleHolds rfl ?_
  unfold ac_L08_exampleHolds
  have hB : big = 9223372036854775807 := rfl
  (repeat (first | (simp (disch := (first | omega | (simp only [evF, evL, implies_true, and_self]; done) | fail)) only [evS, evZ, evX, evK, evB, evL, evR, Nat.reduceBEq, Nat.reduceAdd, Nat.reduceLeDiff, boxR, rboxR, allocR, fldR, binI, unR, pickR, mknilR, mkslR, buildSlR, buildR, extR, convI, eqB, evU, wrap64]) | (with_reducible intro _) | ((with_reducible apply And.intro); omega)))
  refine callX_fix (call_flat L08_example_ok rfl) ?_
  (repeat (first | (simp (disch := (first | omega | (simp only [evF, evL, implies_true, and_self]; done) | fail)) only [evS, evZ, evX, evK, evB, evL, evR, Nat.reduceBEq, Nat.reduceAdd, Nat.reduceLeDiff, boxR, rboxR, allocR, fldR, binI, unR, pickR, mknilR, mkslR, buildSlR, buildR, extR, convI, eqB, evU, wrap64]) | (with_reducible intro _) | ((with_reducible apply And.intro); omega)))
  refine callX_fix (call_flat (object_Encode_ok exO exO_okN) rfl) ?_
  rw [exO_encode]
  have hlen := exO_len
  have hhd : ((List.map cByte (fullB exO)).getD 0 []).getD 0 .undef = .int .u8 68 := by
    rw [getD_map (by rw [exO_len]; decide), exO_head]
    rfl
  have hhd2 : ((List.map cByte (fullB exO)).getD (Int.toNat 0) []).getD 0 .undef = .int .u8 68 := hhd
  generalize fullB exO = l at *
  (repeat (first | (simp (disch := (first | omega | (simp only [evF, evL, implies_true, and_self]; done) | fail)) only [evS, evZ, evX, evK, evB, evL, evR, Nat.reduceBEq, Nat.reduceAdd, Nat.reduceLeDiff, boxR, rboxR, allocR, fldR, binI, unR, pickR, mknilR, mkslR, buildSlR, buildR, extR, convI, eqB, evU, wrap64, encR, encB, dT, hlen, hhd2]) | (with_reducible intro _) | ((with_reducible apply And.intro); omega)))
  have hcs := object_Checksum_ok [1, 2, 3] (by decide)
  rw [show sumK ([1, 2, 3] : List UInt8) ([1, 2, 3] : List UInt8).length = 14 from rfl] at hcs
  refine callX_fix (call_fix (D := allR) hcs (.cons (vw_bytes (l := [1, 2, 3]) trivial rfl rfl (by decide)) .nil) (.inl rfl)) ?_
  (repeat (first | (simp (disch := (first | omega | (simp only [evF, evL, implies_true, and_self]; done) | fail)) only [evS, evZ, evX, evK, evB, evL, evR, Nat.reduceBEq, Nat.reduceAdd, Nat.reduceLeDiff, boxR, rboxR, allocR, fldR, binI, unR, pickR, mknilR, mkslR, buildSlR, buildR, extR, convI, eqB, evU, wrap64, dT]) | (with_reducible intro _) | ((with_reducible apply And.intro); omega)))
  refine callX_fix (call_flat L08_example_ok rfl) ?_
  (repeat (first | (simp (disch := (first | omega | (simp only [evF, evL, implies_true, and_self]; done) | fail)) only [evS, evZ, evX, evK, evB, evL, evR, Nat.reduceBEq, Nat.reduceAdd, Nat.reduceLeDiff, boxR, rboxR, allocR, fldR, binI, unR, pickR, mknilR, mkslR, buildSlR, buildR, extR, convI, eqB, evU, wrap64]) | (with_reducible intro _) | ((with_reducible apply And.intro); omega)))
  refine callX_fix (call_flat L08_example_ok rfl) ?_
  (repeat (first | (simp (disch := (first | omega | (simp only [evF, evL, implies_true, and_self]; done) | fail)) only [evS, evZ, evX, evK, evB, evL, evR, Nat.reduceBEq, Nat.reduceAdd, Nat.reduceLeDiff, boxR, rboxR, allocR, fldR, binI, unR, pickR, mknilR, mkslR, buildSlR, buildR, extR, convI, eqB, evU, wrap64]) | (with_reducible intro _) | ((with_reducible apply And.intro); omega)))
  refine callX_fix (call_flat (object_Same_ok exO exO) rfl) ?_
  rw [exO_same]
  (repeat (first | (simp (disch := (first | omega | (simp only [evF, evL, implies_true, and_self]; done) | fail)) only [evS, evZ, evX, evK, evB, evL, evR, Nat.reduceBEq, Nat.reduceAdd, Nat.reduceLeDiff, boxR, rboxR, allocR, fldR, binI, unR, pickR, mknilR, mkslR, buildSlR, buildR, extR, convI, eqB, evU, wrap64, rs_L08_exampleHolds]) | (with_reducible intro _) | ((with_reducible apply And.intro); omega)))
  exact ⟨_, .bool _ _, rfl⟩

theorem L08_ObjectChecks_ok (o : Bin) (hN : ∀ s ∈ o.secs, s.okN) (hY : ∀ s ∈ o.syms, s.ok) : PureFn Try.prog f_L08_ObjectChecks [.agg o.cells] (· = .bool true) := by
  refine fn_x cf_L08_ObjectChecks rfl ?_
  unfold ac_L08_ObjectChecks
  have hB : big = 9223372036854775807 := rfl
  (repeat (first | (simp (disch := (first | omega | (simp only [evF, evL, implies_true, and_self]; done) | fail)) only [evS, evZ, evX, evK, evB, evL, evR, Nat.reduceBEq, Nat.reduceAdd, Nat.reduceLeDiff, boxR, rboxR, allocR, fldR, binI, unR, pickR, mknilR, mkslR, buildSlR, buildR, extR, convI, eqB, evU, wrap64, Bin.len, Bin.flat, Bin.four]) | (with_reducible intro _) | ((with_reducible apply And.intro); omega)))
  refine callqX_fix (call_flat (L08_large_ok o) rfl) ?_
  cases hl : largeO o with
  | true =>
    (repeat (first | (simp (disch := (first | omega | (simp only [evF, evL, implies_true, and_self]; done) | fail)) only [evS, evZ, evX, evK, evB, evL, evR, Nat.reduceBEq, Nat.reduceAdd, Nat.reduceLeDiff, boxR, rboxR, allocR, fldR, binI, unR, pickR, mknilR, mkslR, buildSlR, buildR, extR, convI, eqB, evU, wrap64]) | (with_reducible intro _) | ((with_reducible apply And.intro); omega)))
    refine callqX_fix (call_flat L08_exampleHolds_ok rfl) ?_
    (repeat (first | (simp (disch := (first | omega | (simp only [evF, evL, implies_true, and_self]; done) | fail)) only [evS, evZ, evX, evK, evB, evL, evR, Nat.reduceBEq, Nat.reduceAdd, Nat.reduceLeDiff, boxR, rboxR, allocR, fldR, binI, unR, pickR, mknilR, mkslR, buildSlR, buildR, extR, convI, eqB, evU, wrap64, rs_L08_ObjectChecks]) | (with_reducible intro _) | ((with_reducible apply And.intro); omega)))
    exact ⟨_, .bool _ _, rfl⟩
  | false =>
    obtain ⟨h1, h2⟩ := large_few hl
    have ho : o.okN := ⟨hN, hY, by omega, by omega⟩
    (repeat (first | (simp (disch := (first | omega | (simp only [evF, evL, implies_true, and_self]; done) | fail)) only [evS, evZ, evX, evK, evB, evL, evR, Nat.reduceBEq, Nat.reduceAdd, Nat.reduceLeDiff, boxR, rboxR, allocR, fldR, binI, unR, pickR, mknilR, mkslR, buildSlR, buildR, extR, convI, eqB, evU, wrap64, Bin.len, Bin.flat, Bin.four]) | (with_reducible intro _) | ((with_reducible apply And.intro); omega)))
    refine callqX_fix (call_flat (L08_large_ok o) rfl) ?_
    rw [hl]
    (repeat (first | (simp (disch := (first | omega | (simp only [evF, evL, implies_true, and_self]; done) | fail)) only [evS, evZ, evX, evK, evB, evL, evR, Nat.reduceBEq, Nat.reduceAdd, Nat.reduceLeDiff, boxR, rboxR, allocR, fldR, binI, unR, pickR, mknilR, mkslR, buildSlR, buildR, extR, convI, eqB, evU, wrap64, Bin.len, Bin.flat, Bin.four]) | (with_reducible intro _) | ((with_reducible apply And.intro); omega)))
    refine callqX_fix (call_flat (object_Check_ok o ho) rfl) ?_
    (repeat (first | (simp (disch := (first | omega | (simp only [evF, evL, implies_true, and_self]; done) | fail)) only [evS, evZ, evX, evK, evB, evL, evR, Nat.reduceBEq, Nat.reduceAdd, Nat.reduceLeDiff, boxR, rboxR, allocR, fldR, binI, unR, pickR, mknilR, mkslR, buildSlR, buildR, extR, convI, eqB, evU, wrap64, Bin.len, Bin.flat, Bin.four]) | (with_reducible intro _) | ((with_reducible apply And.intro); omega)))
    refine callqX_fix (call_flat (R08_Check_ok o ho) rfl) ?_
    (repeat (first | (simp (disch := (first | omega | (simp only [evF, evL, implies_true, and_self]; done) | fail)) only [evS, evZ, evX, evK, evB, evL, evR, Nat.reduceBEq, Nat.reduceAdd, Nat.reduceLeDiff, boxR, rboxR, allocR, fldR, binI, unR, pickR, mknilR, mkslR, buildSlR, buildR, extR, convI, eqB, evU, wrap64, dT]) | (with_reducible intro _) | ((with_reducible apply And.intro); omega)))
    refine callqX_fix (call_flat L08_exampleHolds_ok rfl) ?_
    (repeat (first | (simp (disch := (first | omega | (simp only [evF, evL, implies_true, and_self]; done) | fail)) only [evS, evZ, evX, evK, evB, evL, evR, Nat.reduceBEq, Nat.reduceAdd, Nat.reduceLeDiff, boxR, rboxR, allocR, fldR, binI, unR, pickR, mknilR, mkslR, buildSlR, buildR, extR, convI, eqB, evU, wrap64, rs_L08_ObjectChecks]) | (with_reducible intro _) | ((with_reducible apply And.intro); omega)))
    exact ⟨_, .bool _ _, rfl⟩

end Go.Ab

namespace Go.Ab
open Go.RowKit Go.Proofs Go.Proofs.Ytpinnphfnmnjlaa

theorem encL_sub {α : Type} {p : α → Prop} {n : Nat} {f : α → List AV} (l : List {a : α // p a}) : encL n (fun a => f a.1) l = encL n f (l.map (·.1)) := by
  unfold encL
  simp only [List.length_map, List.map_map, Function.comp_def]

section
variable {HH : Type} {enc : TypeId × Value → HH} {w : World} {base : Nat} {spare : Nat → Bool} {held : Bool} {L : Nat → Prop} (hL : ∀ b, ¬ L b)

theorem el_str {fuel t : Nat} {cs : List Value} {y : DataW HH × List MemPlace} (ht : Try.prog.underlying t = some .string) (h : DataW.trod enc Try.prog w base spare held fuel t cs = some y) : ∃ s : ByteArray, cs = [.string s] ∧ s.size ≤ big := by
  obtain ⟨s, rfl, _, hs⟩ := DataW.trod_string ht h
  exact ⟨s, rfl, by unfold maxLen at hs; unfold big; omega⟩
theorem el_bool {fuel t : Nat} {cs : List Value} {y : DataW HH × List MemPlace} (ht : Try.prog.underlying t = some .bool) (h : DataW.trod enc Try.prog w base spare held fuel t cs = some y) : ∃ b : Bool, cs = [.bool b] := by
  obtain ⟨b, rfl, _⟩ := DataW.trod_bool ht h
  exact ⟨b, rfl⟩
theorem el_u32 {fuel t : Nat} {cs : List Value} {y : DataW HH × List MemPlace} (ht : Try.prog.underlying t = some (.int .u32)) (h : DataW.trod enc Try.prog w base spare held fuel t cs = some y) : ∃ x : UInt32, cs = [.int .u32 (x.toNat : Int)] := by
  obtain ⟨n, rfl, hn⟩ := el_int ht h
  have hr : 0 ≤ n ∧ n ≤ 4294967295 := hn
  refine ⟨UInt32.ofNat n.toNat, ?_⟩
  have : (UInt32.ofNat n.toNat).toNat = n.toNat := UInt32.toNat_ofNat_of_lt' (by show n.toNat < 4294967296; omega)
  rw [this]
  congr 2
  omega
theorem inR_u32 (x : UInt32) : InR .u32 (x.toNat : Int) := by
  have := u32_lt x
  exact (show 0 ≤ (x.toNat : Int) ∧ (x.toNat : Int) ≤ 4294967295 from ⟨by omega, by omega⟩)
include hL

set_option maxRecDepth 100000 in
theorem open_bytes {t e : TypeId} (ht : Try.prog.underlying t = some (.slice e)) (he : Try.prog.underlying e = some (.int .u8)) (hs : Try.prog.cellsOf e = 1) {fuel : Nat} {cs : List Value} {y : DataW HH × List MemPlace}
    (h : DataW.trod enc Try.prog w base spare held fuel t cs = some y) : ∃ (l : List UInt8) (v : Value), cs = [v] ∧ v.oneCell' = true ∧ ∀ ι, VR w L ι v (encB l) := by
  refine vr_slice ht hs hL (fun fuel cs y h hl => ?_) h
  obtain ⟨n, rfl, hn⟩ := el_int he h
  have hr : 0 ≤ n ∧ n ≤ 255 := hn
  refine ⟨UInt8.ofNat n.toNat, fun j hj => ?_⟩
  obtain rfl : j = 0 := by simpa using hj
  have : ((UInt8.ofNat n.toNat).toNat : Int) = n := by
    rw [UInt8.toNat_ofNat']
    omega
  refine ⟨?_, rfl⟩
  show VR w L noI (.int .u8 n) (.int .u8 ((UInt8.ofNat n.toNat).toNat : Int))
  rw [this]
  exact .int _ _ _ hn

set_option maxRecDepth 100000 in
theorem open_sec {fuel : Nat} {cs : List Value} {y : DataW HH × List MemPlace} (h : DataW.trod enc Try.prog w base spare held fuel 43 cs = some y) : ∃ s : {s : Sec // s.okN}, ElOk w L cs s.1.cells := by
  obtain ⟨xs, n, rfl, rfl, hlen, hxs, hf⟩ := DataW.trod_struct Try.underlying43 h
  have hc : Try.prog.cellsOf 43 = 5 := by kernel_rfl
  have hc4 : Try.prog.cellsOf 4 = 1 := by kernel_rfl
  have hc9 : Try.prog.cellsOf 9 = 1 := by kernel_rfl
  have hc22 : Try.prog.cellsOf 22 = 1 := by kernel_rfl
  have hc32 : Try.prog.cellsOf 32 = 1 := by kernel_rfl
  have hc5 : Try.prog.cellsOf 5 = 1 := by kernel_rfl
  rw [hc] at hlen
  have hget : ∀ i, i < 5 → xs[i]? = some (xs.getD i (.nil, [])) := fun i hi => by
    rw [List.getD_eq_getElem?_getD, List.getElem?_eq_getElem (by rw [hxs]; exact hi)]
    rfl
  match cs, hlen with
  | [c0, c1, c2, c3, c4], _ =>
    have f0 : DataW.trod enc Try.prog w base spare held n 9 (([c0, c1, c2, c3, c4].drop 0).take (Try.prog.cellsOf 9)) = some (xs.getD 0 (.nil, [])) := (hf 0 _ rfl).trans (hget 0 (by decide))
    rw [hc9] at f0
    replace f0 : DataW.trod enc Try.prog w base spare held n 9 [c0] = some (xs.getD 0 (.nil, [])) := f0
    have f1 : DataW.trod enc Try.prog w base spare held n 22 (([c0, c1, c2, c3, c4].drop 1).take (Try.prog.cellsOf 22)) = some (xs.getD 1 (.nil, [])) := (hf 1 _ rfl).trans (hget 1 (by decide))
    rw [hc22] at f1
    replace f1 : DataW.trod enc Try.prog w base spare held n 22 [c1] = some (xs.getD 1 (.nil, [])) := f1
    have f2 : DataW.trod enc Try.prog w base spare held n 32 (([c0, c1, c2, c3, c4].drop 2).take (Try.prog.cellsOf 32)) = some (xs.getD 2 (.nil, [])) := (hf 2 _ rfl).trans (hget 2 (by decide))
    rw [hc32] at f2
    replace f2 : DataW.trod enc Try.prog w base spare held n 32 [c2] = some (xs.getD 2 (.nil, [])) := f2
    have f3 : DataW.trod enc Try.prog w base spare held n 4 (([c0, c1, c2, c3, c4].drop 3).take (Try.prog.cellsOf 4)) = some (xs.getD 3 (.nil, [])) := (hf 3 _ rfl).trans (hget 3 (by decide))
    rw [hc4] at f3
    replace f3 : DataW.trod enc Try.prog w base spare held n 4 [c3] = some (xs.getD 3 (.nil, [])) := f3
    have f4 : DataW.trod enc Try.prog w base spare held n 4 (([c0, c1, c2, c3, c4].drop 4).take (Try.prog.cellsOf 4)) = some (xs.getD 4 (.nil, [])) := (hf 4 _ rfl).trans (hget 4 (by decide))
    rw [hc4] at f4
    replace f4 : DataW.trod enc Try.prog w base spare held n 4 [c4] = some (xs.getD 4 (.nil, [])) := f4
    obtain ⟨n0, h0, w0⟩ := el_str Try.underlying9 f0
    obtain ⟨n1, h1⟩ := el_u32 Try.underlying22 f1
    obtain ⟨l2, v2, h2, o2, w2⟩ := open_bytes hL Try.underlying32 Try.underlying5 hc5 f2
    obtain ⟨n3, h3⟩ := el_bool Try.underlying4 f3
    obtain ⟨n4, h4⟩ := el_bool Try.underlying4 f4
    cases h0; cases h1; cases h2; cases h3; cases h4
    refine ⟨⟨⟨n0, n1, l2, n3, n4⟩, w0⟩, fun j hj => ?_⟩
    match j with
    | 0 => exact ⟨.str _ _ w0, rfl⟩
    | 1 => exact ⟨.int _ _ _ (inR_u32 n1), rfl⟩
    | 2 => exact ⟨w2 _, o2⟩
    | 3 => exact ⟨.bool _ _, rfl⟩
    | 4 => exact ⟨.bool _ _, rfl⟩
    | j + 5 => exact absurd hj (by simp)

set_option maxRecDepth 100000 in
theorem open_sym {fuel : Nat} {cs : List Value} {y : DataW HH × List MemPlace} (h : DataW.trod enc Try.prog w base spare held fuel 52 cs = some y) : ∃ s : {s : Sym // s.ok}, ElOk w L cs s.1.cells := by
  obtain ⟨xs, n, rfl, rfl, hlen, hxs, hf⟩ := DataW.trod_struct Try.underlying52 h
  have hc : Try.prog.cellsOf 52 = 3 := by kernel_rfl
  have hc3 : Try.prog.cellsOf 3 = 1 := by kernel_rfl
  have hc9 : Try.prog.cellsOf 9 = 1 := by kernel_rfl
  have hc22 : Try.prog.cellsOf 22 = 1 := by kernel_rfl
  rw [hc] at hlen
  have hget : ∀ i, i < 3 → xs[i]? = some (xs.getD i (.nil, [])) := fun i hi => by
    rw [List.getD_eq_getElem?_getD, List.getElem?_eq_getElem (by rw [hxs]; exact hi)]
    rfl
  match cs, hlen with
  | [c0, c1, c2], _ =>
    have f0 : DataW.trod enc Try.prog w base spare held n 9 (([c0, c1, c2].drop 0).take (Try.prog.cellsOf 9)) = some (xs.getD 0 (.nil, [])) := (hf 0 _ rfl).trans (hget 0 (by decide))
    rw [hc9] at f0
    replace f0 : DataW.trod enc Try.prog w base spare held n 9 [c0] = some (xs.getD 0 (.nil, [])) := f0
    have f1 : DataW.trod enc Try.prog w base spare held n 22 (([c0, c1, c2].drop 1).take (Try.prog.cellsOf 22)) = some (xs.getD 1 (.nil, [])) := (hf 1 _ rfl).trans (hget 1 (by decide))
    rw [hc22] at f1
    replace f1 : DataW.trod enc Try.prog w base spare held n 22 [c1] = some (xs.getD 1 (.nil, [])) := f1
    have f2 : DataW.trod enc Try.prog w base spare held n 3 (([c0, c1, c2].drop 2).take (Try.prog.cellsOf 3)) = some (xs.getD 2 (.nil, [])) := (hf 2 _ rfl).trans (hget 2 (by decide))
    rw [hc3] at f2
    replace f2 : DataW.trod enc Try.prog w base spare held n 3 [c2] = some (xs.getD 2 (.nil, [])) := f2
    obtain ⟨n0, h0, w0⟩ := el_str Try.underlying9 f0
    obtain ⟨n1, h1⟩ := el_u32 Try.underlying22 f1
    obtain ⟨n2, h2, w2⟩ := el_int Try.underlying3 f2
    cases h0; cases h1; cases h2
    refine ⟨⟨⟨n0, n1, n2⟩, w0⟩, fun j hj => ?_⟩
    match j with
    | 0 => exact ⟨.str _ _ w0, rfl⟩
    | 1 => exact ⟨.int _ _ _ (inR_u32 n1), rfl⟩
    | 2 => exact ⟨.int _ _ _ w2, rfl⟩
    | j + 3 => exact absurd hj (by simp)

set_option maxRecDepth 100000 in
theorem open_rel {fuel : Nat} {cs : List Value} {y : DataW HH × List MemPlace} (h : DataW.trod enc Try.prog w base spare held fuel 54 cs = some y) : ∃ r : Rel, ElOk w L cs r.cells := by
  obtain ⟨xs, n, rfl, rfl, hlen, hxs, hf⟩ := DataW.trod_struct Try.underlying54 h
  have hc : Try.prog.cellsOf 54 = 5 := by kernel_rfl
  have hc3 : Try.prog.cellsOf 3 = 1 := by kernel_rfl
  have hc9 : Try.prog.cellsOf 9 = 1 := by kernel_rfl
  have hc21 : Try.prog.cellsOf 21 = 1 := by kernel_rfl
  rw [hc] at hlen
  have hget : ∀ i, i < 5 → xs[i]? = some (xs.getD i (.nil, [])) := fun i hi => by
    rw [List.getD_eq_getElem?_getD, List.getElem?_eq_getElem (by rw [hxs]; exact hi)]
    rfl
  match cs, hlen with
  | [c0, c1, c2, c3, c4], _ =>
    have f0 : DataW.trod enc Try.prog w base spare held n 3 (([c0, c1, c2, c3, c4].drop 0).take (Try.prog.cellsOf 3)) = some (xs.getD 0 (.nil, [])) := (hf 0 _ rfl).trans (hget 0 (by decide))
    rw [hc3] at f0
    replace f0 : DataW.trod enc Try.prog w base spare held n 3 [c0] = some (xs.getD 0 (.nil, [])) := f0
    have f1 : DataW.trod enc Try.prog w base spare held n 3 (([c0, c1, c2, c3, c4].drop 1).take (Try.prog.cellsOf 3)) = some (xs.getD 1 (.nil, [])) := (hf 1 _ rfl).trans (hget 1 (by decide))
    rw [hc3] at f1
    replace f1 : DataW.trod enc Try.prog w base spare held n 3 [c1] = some (xs.getD 1 (.nil, [])) := f1
    have f2 : DataW.trod enc Try.prog w base spare held n 3 (([c0, c1, c2, c3, c4].drop 2).take (Try.prog.cellsOf 3)) = some (xs.getD 2 (.nil, [])) := (hf 2 _ rfl).trans (hget 2 (by decide))
    rw [hc3] at f2
    replace f2 : DataW.trod enc Try.prog w base spare held n 3 [c2] = some (xs.getD 2 (.nil, [])) := f2
    have f3 : DataW.trod enc Try.prog w base spare held n 9 (([c0, c1, c2, c3, c4].drop 3).take (Try.prog.cellsOf 9)) = some (xs.getD 3 (.nil, [])) := (hf 3 _ rfl).trans (hget 3 (by decide))
    rw [hc9] at f3
    replace f3 : DataW.trod enc Try.prog w base spare held n 9 [c3] = some (xs.getD 3 (.nil, [])) := f3
    have f4 : DataW.trod enc Try.prog w base spare held n 21 (([c0, c1, c2, c3, c4].drop 4).take (Try.prog.cellsOf 21)) = some (xs.getD 4 (.nil, [])) := (hf 4 _ rfl).trans (hget 4 (by decide))
    rw [hc21] at f4
    replace f4 : DataW.trod enc Try.prog w base spare held n 21 [c4] = some (xs.getD 4 (.nil, [])) := f4
    obtain ⟨n0, h0, w0⟩ := el_int Try.underlying3 f0
    obtain ⟨n1, h1, w1⟩ := el_int Try.underlying3 f1
    obtain ⟨n2, h2, w2⟩ := el_int Try.underlying3 f2
    obtain ⟨n3, h3, w3⟩ := el_str Try.underlying9 f3
    obtain ⟨n4, h4, w4⟩ := el_int Try.underlying21 f4
    cases h0; cases h1; cases h2; cases h3; cases h4
    refine ⟨⟨n0, n1, n2, n3, n4⟩, fun j hj => ?_⟩
    match j with
    | 0 => exact ⟨.int _ _ _ w0, rfl⟩
    | 1 => exact ⟨.int _ _ _ w1, rfl⟩
    | 2 => exact ⟨.int _ _ _ w2, rfl⟩
    | 3 => exact ⟨.str _ _ w3, rfl⟩
    | 4 => exact ⟨.int _ _ _ w4, rfl⟩
    | j + 5 => exact absurd hj (by simp)

/-- What is known of an object that came in. -/
structure Bin.came (o : Bin) : Prop where
  secs : ∀ s ∈ o.secs, s.okN
  syms : ∀ s ∈ o.syms, s.ok

set_option maxRecDepth 100000 in
theorem open_bin {fuel : Nat} {cs : List Value} {y : DataW HH × List MemPlace} (h : DataW.trod enc Try.prog w base spare held fuel 27 cs = some y) : ∃ o : Bin, o.came ∧ cs.length = 4 ∧ ElOk w L cs o.cells ∧ ∀ j, j < 4 → ∀ ι, VR w L ι (cs.getD j undef) (o.cells.getD j .undef) := by
  obtain ⟨xs, n, rfl, rfl, hlen, hxs, hf⟩ := DataW.trod_struct Try.underlying27 h
  have hc : Try.prog.cellsOf 27 = 4 := by kernel_rfl
  have hc22 : Try.prog.cellsOf 22 = 1 := by kernel_rfl
  have hc23 : Try.prog.cellsOf 23 = 1 := by kernel_rfl
  have hc24 : Try.prog.cellsOf 24 = 1 := by kernel_rfl
  have hc25 : Try.prog.cellsOf 25 = 1 := by kernel_rfl
  have hc43 : Try.prog.cellsOf 43 = 5 := by kernel_rfl
  have hc52 : Try.prog.cellsOf 52 = 3 := by kernel_rfl
  have hc54 : Try.prog.cellsOf 54 = 5 := by kernel_rfl
  rw [hc] at hlen
  have hget : ∀ i, i < 4 → xs[i]? = some (xs.getD i (.nil, [])) := fun i hi => by
    rw [List.getD_eq_getElem?_getD, List.getElem?_eq_getElem (by rw [hxs]; exact hi)]
    rfl
  match cs, hlen with
  | [c0, c1, c2, c3], _ =>
    have f0 : DataW.trod enc Try.prog w base spare held n 22 (([c0, c1, c2, c3].drop 0).take (Try.prog.cellsOf 22)) = some (xs.getD 0 (.nil, [])) := (hf 0 _ rfl).trans (hget 0 (by decide))
    rw [hc22] at f0
    replace f0 : DataW.trod enc Try.prog w base spare held n 22 [c0] = some (xs.getD 0 (.nil, [])) := f0
    have f1 : DataW.trod enc Try.prog w base spare held n 23 (([c0, c1, c2, c3].drop 1).take (Try.prog.cellsOf 23)) = some (xs.getD 1 (.nil, [])) := (hf 1 _ rfl).trans (hget 1 (by decide))
    rw [hc23] at f1
    replace f1 : DataW.trod enc Try.prog w base spare held n 23 [c1] = some (xs.getD 1 (.nil, [])) := f1
    have f2 : DataW.trod enc Try.prog w base spare held n 24 (([c0, c1, c2, c3].drop 2).take (Try.prog.cellsOf 24)) = some (xs.getD 2 (.nil, [])) := (hf 2 _ rfl).trans (hget 2 (by decide))
    rw [hc24] at f2
    replace f2 : DataW.trod enc Try.prog w base spare held n 24 [c2] = some (xs.getD 2 (.nil, [])) := f2
    have f3 : DataW.trod enc Try.prog w base spare held n 25 (([c0, c1, c2, c3].drop 3).take (Try.prog.cellsOf 25)) = some (xs.getD 3 (.nil, [])) := (hf 3 _ rfl).trans (hget 3 (by decide))
    rw [hc25] at f3
    replace f3 : DataW.trod enc Try.prog w base spare held n 25 [c3] = some (xs.getD 3 (.nil, [])) := f3
    obtain ⟨n0, h0⟩ := el_u32 Try.underlying22 f0
    obtain ⟨l1, v1, h1, o1, w1⟩ := vr_slice (α := {s : Sec // s.okN}) (cells := fun s => s.1.cells) (L := L) Try.underlying23 hc43 hL (fun _ _ _ h _ => open_sec hL h) f1
    obtain ⟨l2, v2, h2, o2, w2⟩ := vr_slice (α := {s : Sym // s.ok}) (cells := fun s => s.1.cells) (L := L) Try.underlying24 hc52 hL (fun _ _ _ h _ => open_sym hL h) f2
    obtain ⟨l3, v3, h3, o3, w3⟩ := vr_slice (α := Rel) (cells := Rel.cells) (L := L) Try.underlying25 hc54 hL (fun _ _ _ h _ => open_rel hL h) f3
    cases h0; cases h1; cases h2; cases h3
    have e1 := encL_sub (n := 5) (f := Sec.cells) l1
    have e2 := encL_sub (n := 3) (f := Sym.cells) l2
    rw [e1] at w1
    rw [e2] at w2
    refine ⟨⟨n0, l1.map (·.1), l2.map (·.1), l3⟩, ⟨fun s hs => ?_, fun s hs => ?_⟩, rfl, fun j hj => ?_, fun j hj ι => ?_⟩
    · obtain ⟨m, _, rfl⟩ := List.mem_map.1 hs
      exact m.2
    · obtain ⟨m, _, rfl⟩ := List.mem_map.1 hs
      exact m.2
    · match j with
      | 0 => exact ⟨.int _ _ _ (inR_u32 n0), rfl⟩
      | 1 => exact ⟨w1 _, o1⟩
      | 2 => exact ⟨w2 _, o2⟩
      | 3 => exact ⟨w3 _, o3⟩
      | j + 4 => exact absurd hj (by simp)
    · match j with
      | 0 => exact .int _ _ _ (inR_u32 n0)
      | 1 => exact w1 _
      | 2 => exact w2 _
      | 3 => exact w3 _
      | j + 4 => omega

set_option maxRecDepth 100000 in
theorem open_object {v : Value} {d : DataW HH} {ps : List MemPlace} (hv : Value.okWide Try.prog w .any base 27 v) {b2 : Nat} (h : DataW.Trod enc Try.prog w b2 spare held 27 v d ps) : ∃ o : Bin, o.came ∧ ∀ ι, VR w L ι v (.agg o.cells) := by
  obtain ⟨fuel, hf⟩ := h
  unfold Value.okWide at hv
  rw [Try.underlying27] at hv
  simp only at hv
  obtain ⟨cs, rfl, _, _⟩ := hv
  have hf' : DataW.trod enc Try.prog w b2 spare held fuel 27 cs.toList = some (d, ps) := hf
  obtain ⟨o, hk, h1, h2, h3⟩ := open_bin hL hf'
  refine ⟨o, hk, fun ι => .agg ι cs _ (by
    have : cs.size = 4 := by simpa using h1
    rw [this]; rfl) (fun i v hi => ?_) (fun i v a hi ha => ?_)⟩
  · have hi2 : i < cs.size := by
      rcases Nat.lt_or_ge i cs.size with h | h
      · exact h
      · rw [Array.getElem?_eq_none h] at hi; cases hi
    have := (h2 i (by simpa using hi2)).2
    rw [List.getD_eq_getElem?_getD, Array.getElem?_toList, hi] at this
    exact this
  · have hi2 : i < cs.size := by
      rcases Nat.lt_or_ge i cs.size with h | h
      · exact h
      · rw [Array.getElem?_eq_none h] at hi; cases hi
    have hi3 : i < 4 := by rw [← h1]; simpa using hi2
    have := h3 i hi3 ι
    rw [List.getD_eq_getElem?_getD, Array.getElem?_toList, hi, List.getD_eq_getElem?_getD, ha] at this
    exact this
end

end Go.Ab

namespace Go.Ab
open Go.RowKit Go.Proofs Go.Proofs.Ytpinnphfnmnjlaa

theorem frz_true {H : AH} {v : AV} {b : Bool} (h : Frz H v (.bool b)) : v = .bool b := by
  unfold Frz at h
  generalize he : AV.bool b = x at h
  cases h <;> first | (cases he; done) | (cases he; rfl)

theorem row_true {P : Program} {f : FuncId} {args : List AV} {vs : Array Value} {w : World} (h : PureFn P f args (· = .bool true)) (hv : ∀ L : Nat → Prop, (∀ b, ¬ L b) → VRs w L noI vs.toList args) :
    Calls P f vs w fun e w' => e = .returned (.bool true) ∧ Below w.heap.size w w' := by
  have hno : ∀ b, ¬ Lt (fun _ => False) noI [] b := fun b hb => hb.elim (fun h => h) (no_live b)
  refine (h w (fun _ => False) noI vs (.empty (fun b hb => hb.elim)) (hv _ hno)).mono fun e w' ⟨v, ι', H', nx', a, h1, h2, _, h4, a2, h5, h6⟩ => ?_
  subst h1 h6
  have := frz_true h5
  subst this
  cases h4
  exact ⟨rfl, h2.ext.os, h2.ext.tape, h2.ext.output, h2.ext.size, fun k hk => h2.ext.block k hk (no_live k)⟩

end Go.Ab
