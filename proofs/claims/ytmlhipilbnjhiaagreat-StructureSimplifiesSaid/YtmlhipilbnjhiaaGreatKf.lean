/-
  Part 6 of the proof: how the calls of this program run, over values instead of memory, and what each function computes.
-/
import Derived.LoopN
import Derived.Test.YtmlhipilbnjhiaaGreatRows
import Derived.WalkKit
import Derived.OpenShut
import Derived.ShutString
import Derived.ChangeOld
import Derived.Below
import Derived.Test.YtmlhipilbnjhiaaGreatProg
import Derived.Test.YtmlhipilbnjhiaaGreatKe
set_option linter.unusedVariables false
set_option linter.unusedSimpArgs false
set_option linter.unnecessarySimpa false
set_option linter.unusedSectionVars false

namespace Go.Ab
open Go.RowKit

def loadS (n : Nat) (p : AV) (H : AH) : Bool :=
  match p with
  | .ptr r q g i f => match H.get r q with
    | some (.row sz els g') => Nat.beq g g' && (Nat.blt i els.length && Nat.ble (f + n) sz)
    | _ => false
  | .iptr m _ => Nat.ble n m
  | _ => false
def storeS (n : Nat) (p v : AV) (H : AH) : Bool :=
  match p with
  | .ptr r q g i f => match H.get r q with
    | some (.row sz els g') => Nat.beq g g' && (Nat.blt i els.length && (Nat.ble (f + n) sz && (v.solid && Nat.beq v.cells.length n)))
    | _ => false
  | _ => false
def idxS (sz : Nat) (x i : AV) (H : AH) : Bool :=
  match x, i with
  | .sl sz' n _, .int _ k => Nat.beq sz' sz && (decide (0 ≤ k) && decide (k < n))
  | .own r q g _ n, .int _ k => match H.get r q with
    | some (.row sz' _ g') => Nat.beq sz' sz && (Nat.beq g g' && (decide (0 ≤ k) && decide (k < n)))
    | _ => false
  | _, _ => false
def fldaddrS (off n : Nat) (x : AV) : Bool :=
  match x with
  | .ptr .. => true
  | .iptr m _ => Nat.ble (off + n) m
  | _ => false
def fldS (off n : Nat) (x : AV) : Bool :=
  match x with
  | .agg cs => Nat.ble (off + n) cs.length
  | _ => false
def lenS (x : AV) : Bool :=
  match x with
  | .sl .. | .own .. | .nilsl | .cut => true
  | _ => false
def slenS (x : AV) : Bool :=
  match x with
  | .str _ => true
  | _ => false
def binS (op : BinOp) (x y : AV) : Bool :=
  match x, y with
  | .int k _, .int k' b => match op with
    | .quo | .rem => decide (k = k') && decide (b ≠ 0)
    | .shl | .shr => decide (0 ≤ b)
    | _ => decide (k = k')
  | _, _ => false
def eqbS (x y : AV) : Bool :=
  match x, y with
  | .bool _, .bool _ => true
  | _, _ => false
def unS (op : UnOp) (x : AV) : Bool :=
  match op, x with
  | .not, .bool _ => true
  | .neg, .int _ _ => true
  | _, _ => false
def convS (x : AV) : Bool :=
  match x with
  | .int _ _ => true
  | _ => false
def pickS (c : AV) : Bool :=
  match c with
  | .bool _ => true
  | _ => false
def fillS (n : Nat) : List (Nat × Nat × AV) → Bool
  | [] => true
  | (off, size, v) :: r => (v.solid && (Nat.beq v.cells.length size && Nat.ble (off + size) n)) && fillS n r
def setS (n sz : Nat) : List (Nat × AV) → Bool
  | [] => true
  | (i, v) :: r => (v.solid && (Nat.beq v.cells.length sz && Nat.blt i n)) && setS n sz r
def mkslS (bytes : Nat) (l c : AV) : Bool :=
  match l, c with
  | .int k n, .int k' m => decide (k = .i64) && (decide (k' = .i64) && (decide (0 ≤ n) && (decide (n ≤ m) && (decide (bytes * m ≤ 140737488355328) && Nat.blt 0 bytes))))
  | _, _ => false
def loI : Option AV → Option Int
  | none => some 0
  | some (.int _ k) => some k
  | _ => none
def hiI (n : Nat) : Option AV → Option Int
  | none => some n
  | some (.int _ k) => some k
  | _ => none
def sliceS (sz : Nat) (x : AV) (lo hi : Option AV) (H : AH) : Bool :=
  match x with
  | .sl sz' n _ => match loI lo, hiI n hi with
    | some a, some b => Nat.beq sz' sz && (decide (0 ≤ a) && (decide (a ≤ b) && decide (b ≤ n)))
    | _, _ => false
  | .own r q g _ n => match H.get r q, loI lo, hiI n hi with
    | some (.row sz' _ g'), some a, some b => Nat.beq sz' sz && (Nat.beq g g' && (decide (0 ≤ a) && (decide (a ≤ b) && decide (b ≤ n))))
    | _, _, _ => false
  | .nilsl => match loI lo, hiI 0 hi with
    | some a, some b => decide (a = 0) && decide (b = 0)
    | _, _ => false
  | _ => false
def cutS (x : AV) : Bool :=
  match x with
  | .sl _ _ _ | .own _ _ _ _ _ | .nilsl | .cut => true
  | _ => false
def fitsS (H : AH) : AV → Bool
  | .own r q _ off n => match H.get r q with
    | some (.row _ els _) => Nat.ble (off + n) els.length
    | _ => false
  | _ => true
def appendS (sz bytes : Nat) (x y : AV) (H : AH) : Bool :=
  match elsOf sz y H, lenV y with
  | some _, some m => match x with
    | .own r q g off n => match H.get r q with
      | some (.row sz' els g') => Nat.beq sz' sz && (Nat.beq g g' && (Nat.ble (off + n) els.length && (fitsS H y && Nat.ble ((n + m) * bytes) 140737488355328)))
      | _ => false
    | .nilsl | .cut => fitsS H y && Nat.ble (m * bytes) 140737488355328
    | _ => false
  | _, _ => false
def clearS (sz : Nat) (x : AV) (H : AH) : Bool :=
  match x with
  | .own r q g off n => match H.get r q with
    | some (.row sz' els g') => Nat.beq sz' sz && (Nat.beq g g' && Nat.ble (off + n) els.length)
    | _ => false
  | _ => false
def extS (i : Nat) (x : AV) : Bool :=
  match x with
  | .tup vs => Nat.blt i vs.length
  | _ => false

def keyS : Option IntKind → AV → Bool
  | some q, .int k _ => decide (q = k)
  | none, .str _ => true
  | _, _ => false
def xopS : XOp → List AV → AH → Bool
  | .mark, [.own r q g _ n], H => match H.get r q with
    | some (.row sz _ g') => Nat.beq sz 1 && (Nat.beq g g' && Nat.blt 0 n)
    | _ => false
  | .nilck, [.ptr ..], _ => true
  | .nilck, [.iptr ..], _ => true
  | .seq _, [.str _, .str _], _ => true
  | .sidx, [.str s, .int _ k], _ => decide (0 ≤ k) && decide (k < s.size)
  | .b2s, [x], H => match elsOf 1 x H with
    | some els => (bytesOf els).isSome && (fitsS H x && (lenV x).isSome)
    | none => false
  | .s2b, [.str _], _ => true
  | .sapp, [.own r q g off n, .str s], H => match H.get r q with
    | some (.row sz' els g') => Nat.beq sz' 1 && (Nat.beq g g' && (Nat.ble (off + n) els.length && Nat.ble (n + s.size) 140737488355328))
    | _ => false
  | .sapp, [.nilsl, .str s], _ => Nat.ble s.size 140737488355328
  | .sapp, [.cut, .str s], _ => Nat.ble s.size 140737488355328
  | .min, [.int k _, .int k' _], _ => decide (k = k')
  | .max, [.int k _, .int k' _], _ => decide (k = k')
  | .eqs _ ss, [.agg a, .agg b], _ => (eqCells ss a b).isSome
  | .sl3 sz, [.sl sz' n _, .int _ b, .int _ c], _ => Nat.beq sz' sz && (decide (0 ≤ b) && (decide (b ≤ c) && decide (c ≤ n)))
  | .sl3 sz, [.own r q g _ n, .int _ b, .int _ c], H => match H.get r q with
    | some (.row sz' _ g') => Nat.beq sz' sz && (Nat.beq g g' && (decide (0 ≤ b) && (decide (b ≤ c) && decide (c ≤ n))))
    | _ => false
  | .sl3 _, [.nilsl, .int _ b, .int _ c], _ => decide (b = 0) && decide (c = 0)
  | .capn, [.nilsl], _ => true
  | .apz sz bytes _, [.nilsl, .int _ n], _ => decide (0 ≤ n) && (decide (n * bytes ≤ 140737488355328) && (Nat.blt 0 sz && Nat.blt 0 bytes))
  | .mkmap, [], _ => true
  | .mlook str _ _, [.nilmp, k], _ => keyS str k
  | .mlook str _ _, [.mp r, k], H => match H.get r 0 with
    | some (.row sz (_ :: es) g) => (mfind k es 0).isSome && (Nat.beq sz 3 && (Nat.beq g 0 && keyS str k))
    | _ => false
  | .mset str, [.mp r, k, _], H => match H.get r 0 with
    | some (.row sz ([.int .i64 c, _, _] :: es) g) => (mfind k es 0).isSome && (Nat.beq sz 3 && (Nat.beq g 0 && (keyS str k && decide (c < 1152921504606846976))))
    | _ => false
  | .mlen, [.nilmp], _ => true
  | .mlen, [.mp r], H => match H.get r 0 with
    | some (.row sz (_ :: es) g) => Nat.beq sz 3 && (Nat.beq g 0 && Nat.ble es.length big)
    | _ => false
  | .mdel str, [.nilmp, k], _ => keyS str k
  | .mdel str, [.mp r, k], H => match H.get r 0 with
    | some (.row sz (_ :: es) g) => (mfind k es 0).isSome && (Nat.beq sz 3 && (Nat.beq g 0 && keyS str k))
    | _ => false
  | .mrange, [.nilmp], _ => true
  | .mrange, [.mp r], H => match H.get r 0 with
    | some (.row sz ([.int .i64 _, _, _] :: _) g) => Nat.beq sz 3 && Nat.beq g 0
    | _ => false
  | .aidx len sz _, [.agg cs, .int _ k], _ => decide (0 ≤ k) && (decide (k < len) && Nat.ble (len * sz) cs.length)
  | .aaddr len _, [.ptr .., .int _ k], _ => decide (0 ≤ k) && decide (k < len)
  | .aaddr len sz, [.iptr m _, .int _ k], _ => decide (0 ≤ k) && (decide (k < len) && Nat.ble (len * sz) m)
  | _, _, _ => false

/-- May the operation be done? -/
def sideB : AOp → (Nat → AV) → AH → Bool
  | .mov _, _, _ => true
  | .mknil _, _, _ => true
  | .pick c _ _, K, _ => pickS (ev K c)
  | .load _ n p, K, H => loadS n (ev K p) H
  | .store n p v, K, H => storeS n (ev K p) (ev K v) H
  | .idx sz x i, K, H => idxS sz (ev K x) (ev K i) H
  | .fldaddr off n x, K, _ => fldaddrS off n (ev K x)
  | .fld off n _ x, K, _ => fldS off n (ev K x)
  | .len x, K, _ => lenS (ev K x)
  | .slen x, K, _ => slenS (ev K x)
  | .bin op x y, K, _ => binS op (ev K x) (ev K y)
  | .eqb _ x y, K, _ => eqbS (ev K x) (ev K y)
  | .un op x, K, _ => unS op (ev K x)
  | .conv _ x, K, _ => convS (ev K x)
  | .build zero parts, K, _ => fillS zero.length (evParts K parts)
  | .buildSl sz len _ parts, K, _ => setS len sz (evEls K parts)
  | .box x, K, _ => (ev K x).solid
  | .rbox x, K, _ => (ev K x).solid && allFlat (ev K x).cells
  | .rbuildSl sz len z parts, K, _ => setS len sz (evEls K parts) && (setEls (List.replicate len z) (evEls K parts)).all allFlat
  | .alloc _, _, _ => true
  | .mksl _ bytes _ l c, K, _ => mkslS bytes (ev K l) (ev K c)
  | .slice sz x lo hi, K, H => sliceS sz (ev K x) (evO K lo) (evO K hi) H
  | .cut x, K, _ => cutS (ev K x)
  | .mkfn _ _, _, _ => true
  | .append sz bytes x y, K, H => appendS sz bytes (ev K x) (ev K y) H
  | .clear sz _ x, K, H => clearS sz (ev K x) H
  | .ext i x, K, _ => extS i (ev K x)
  | .xop x args, K, H => xopS x (evs K args) H
  | _, _, _ => false

theorem beqT {a b : Nat} (h : Nat.beq a b = true) : a = b := beq_true h
theorem bltT {a b : Nat} (h : Nat.blt a b = true) : a < b := Nat.le_of_ble_eq_true h
theorem bleT {a b : Nat} (h : Nat.ble a b = true) : a ≤ b := Nat.le_of_ble_eq_true h

theorem fitsS_ok {H : AH} {y : AV} (h : fitsS H y = true) : fits H y := by
  unfold fitsS at h
  unfold fits
  split at h
  · split at h
    · rename_i e
      simp only [e]
      exact bleT h
    · cases h
  · rename_i hne
    split
    · rename_i r q g off n
      exact absurd rfl (hne r q g off n)
    · trivial
theorem fillS_ok {n : Nat} : ∀ {l : List (Nat × Nat × AV)}, fillS n l = true → fillOk n l
  | [], _ => trivial
  | (off, size, v) :: r, h => by
    simp only [fillS, Bool.and_eq_true] at h
    exact ⟨⟨h.1.1, beqT h.1.2.1, bleT h.1.2.2⟩, fillS_ok h.2⟩
theorem setS_ok {n sz : Nat} : ∀ {l : List (Nat × AV)}, setS n sz l = true → setOk n sz l
  | [], _ => trivial
  | (i, v) :: r, h => by
    simp only [setS, Bool.and_eq_true] at h
    exact ⟨⟨h.1.1, beqT h.1.2.1, bltT h.1.2.2⟩, setS_ok h.2⟩
theorem keyS_ok {k : Option IntKind} {v : AV} (h : keyS k v = true) : keyOk k v := by
  unfold keyS at h
  split at h
  · rename_i q k n
    exact (of_decide_eq_true h : q = k)
  · trivial
  · cases h

theorem loadS_ok {agg : Bool} {n : Nat} {p : AV} {H : AH} {nx : Nat} (h : loadS n p H = true) : (loadR agg n p H nx).side := by
  unfold loadS at h
  unfold loadR
  split at h
  · split at h
    · rename_i e
      simp only [e]
      simp only [Bool.and_eq_true] at h
      exact ⟨beqT h.1, bltT h.2.1, bleT h.2.2⟩
    · cases h
  · exact bleT h
  · cases h
theorem storeS_ok {n : Nat} {p v : AV} {H : AH} {nx : Nat} (h : storeS n p v H = true) : (storeR n p v H nx).side := by
  unfold storeS at h
  unfold storeR
  split at h
  · split at h
    · rename_i e
      simp only [e]
      simp only [Bool.and_eq_true] at h
      exact ⟨beqT h.1, bltT h.2.1, bleT h.2.2.1, h.2.2.2.1, beqT h.2.2.2.2⟩
    · cases h
  · cases h
theorem idxS_ok {sz : Nat} {x i : AV} {H : AH} {nx : Nat} (h : idxS sz x i H = true) : (idxR sz x i H nx).side := by
  unfold idxS at h
  unfold idxR
  split at h
  · simp only [Bool.and_eq_true, decide_eq_true_eq] at h
    exact ⟨beqT h.1, h.2.1, h.2.2⟩
  · split at h
    · rename_i e
      simp only [e]
      simp only [Bool.and_eq_true, decide_eq_true_eq] at h
      exact ⟨beqT h.1, beqT h.2.1, h.2.2.1, h.2.2.2⟩
    · cases h
  · cases h
theorem binS_ok {op : BinOp} {x y : AV} {H : AH} {nx : Nat} (h : binS op x y = true) : (binI op x y H nx).side := by
  unfold binS at h
  unfold binI
  split at h
  · cases op <;> simp only [Bool.and_eq_true, decide_eq_true_eq] at h <;> exact h
  · cases h
theorem sliceS_ok {sz : Nat} {x : AV} {lo hi : Option AV} {H : AH} {nx : Nat} (h : sliceS sz x lo hi H = true) : (sliceR sz x lo hi H nx).side := by
  unfold sliceS at h
  cases x with
  | sl sz' n f =>
    simp only at h
    split at h
    · rename_i a b e1 e2
      simp only [Bool.and_eq_true, decide_eq_true_eq] at h
      have : (sliceR sz (.sl sz' n f) lo hi H nx).side = (match loI lo, hiI n hi with | some a, some b => (⟨sz' = sz ∧ 0 ≤ a ∧ a ≤ b ∧ b ≤ n, True, .sl sz (b - a).toNat (fun i j => f (a.toNat + i) j), H, nx⟩ : ORes) | _, _ => bad H nx).side := rfl
      rw [this, e1, e2]
      exact ⟨beqT h.1, h.2.1, h.2.2.1, h.2.2.2⟩
    · cases h
  | own r q g off n =>
    simp only at h
    split at h
    · rename_i sz' els g' a b e1 e2 e3
      simp only [Bool.and_eq_true, decide_eq_true_eq] at h
      have : (sliceR sz (.own r q g off n) lo hi H nx).side = (match H.get r q, loI lo, hiI n hi with | some (.row sz' _ g'), some a, some b => (⟨sz' = sz ∧ g = g' ∧ 0 ≤ a ∧ a ≤ b ∧ b ≤ n, True, .own r q g (off + a.toNat) (b - a).toNat, H, nx⟩ : ORes) | _, _, _ => bad H nx).side := rfl
      rw [this, e1, e2, e3]
      exact ⟨beqT h.1, beqT h.2.1, h.2.2.1, h.2.2.2.1, h.2.2.2.2⟩
    · cases h
  | nilsl =>
    simp only at h
    split at h
    · rename_i a b e1 e2
      simp only [Bool.and_eq_true, decide_eq_true_eq] at h
      have : (sliceR sz .nilsl lo hi H nx).side = (match loI lo, hiI 0 hi with | some a, some b => (⟨a = 0 ∧ b = 0, True, .nilsl, H, nx⟩ : ORes) | _, _ => bad H nx).side := rfl
      rw [this, e1, e2]
      exact ⟨h.1, h.2⟩
    · cases h
  | _ => cases h

theorem appendS_ok {sz bytes : Nat} {x y : AV} {H : AH} {nx : Nat} (h : appendS sz bytes x y H = true) : (appendR sz bytes x y H nx).side := by
  unfold appendS at h
  unfold appendR
  split at h
  · rename_i e1 e2
    simp only [e1, e2]
    split at h
    · split at h
      · rename_i e3
        simp only [e3]
        simp only [Bool.and_eq_true] at h
        exact ⟨beqT h.1, beqT h.2.1, bleT h.2.2.1, fitsS_ok h.2.2.2.1, bleT h.2.2.2.2⟩
      · cases h
    · simp only [Bool.and_eq_true] at h
      exact ⟨fitsS_ok h.1, bleT h.2⟩
    · simp only [Bool.and_eq_true] at h
      exact ⟨fitsS_ok h.1, bleT h.2⟩
    · cases h
  · cases h
theorem clearS_ok {sz : Nat} {zero : List AV} {x : AV} {H : AH} {nx : Nat} (h : clearS sz x H = true) : (clearR sz zero x H nx).side := by
  unfold clearS at h
  unfold clearR
  split at h
  · split at h
    · rename_i e
      simp only [e]
      simp only [Bool.and_eq_true] at h
      exact ⟨beqT h.1, beqT h.2.1, bleT h.2.2⟩
    · cases h
  · cases h

theorem xopS_ok {x : XOp} {l : List AV} {H : AH} {nx : Nat} (h : xopS x l H = true) : (xopR x l H nx).side := by
  unfold xopS at h
  split at h
  · split at h
    · rename_i e
      simp only [Bool.and_eq_true] at h
      simp only [xopR, markR, e]
      exact ⟨beqT h.1, beqT h.2.1, bltT h.2.2⟩
    · cases h
  · trivial
  · trivial
  · trivial
  · simp only [Bool.and_eq_true, decide_eq_true_eq] at h
    exact ⟨h.1, h.2⟩
  · split at h
    · rename_i e
      simp only [Bool.and_eq_true] at h
      obtain ⟨l, hl⟩ := Option.isSome_iff_exists.1 h.1
      simp only [xopR, b2sR, e, hl]
      exact ⟨fitsS_ok h.2.1, h.2.2⟩
    · cases h
  · trivial
  · split at h
    · rename_i e
      simp only [Bool.and_eq_true] at h
      simp only [xopR, sappR, e]
      exact ⟨beqT h.1, beqT h.2.1, bleT h.2.2.1, bleT h.2.2.2⟩
    · cases h
  · exact bleT h
  · exact bleT h
  · rename_i k a k' b
    exact (of_decide_eq_true h : k = k')
  · rename_i k a k' b
    exact (of_decide_eq_true h : k = k')
  · obtain ⟨t, ht⟩ := Option.isSome_iff_exists.1 h
    simp only [xopR, eqsR, ht]
  · simp only [Bool.and_eq_true, decide_eq_true_eq] at h
    exact ⟨beqT h.1, h.2.1, h.2.2.1, h.2.2.2⟩
  · split at h
    · rename_i e
      simp only [Bool.and_eq_true, decide_eq_true_eq] at h
      simp only [xopR, sl3R, e]
      exact ⟨beqT h.1, beqT h.2.1, h.2.2.1, h.2.2.2.1, h.2.2.2.2⟩
    · cases h
  · simp only [Bool.and_eq_true, decide_eq_true_eq] at h
    exact ⟨h.1, h.2⟩
  · trivial
  · simp only [Bool.and_eq_true, decide_eq_true_eq] at h
    exact ⟨h.1, h.2.1, bltT h.2.2.1, bltT h.2.2.2⟩
  · trivial
  · exact keyS_ok h
  · split at h
    · rename_i e
      simp only [Bool.and_eq_true] at h
      obtain ⟨t, ht⟩ := Option.isSome_iff_exists.1 h.1
      simp only [xopR, mlookR, e, ht]
      exact ⟨beqT h.2.1, beqT h.2.2.1, keyS_ok h.2.2.2⟩
    · cases h
  · split at h
    · rename_i e
      simp only [Bool.and_eq_true, decide_eq_true_eq] at h
      obtain ⟨t, ht⟩ := Option.isSome_iff_exists.1 h.1
      simp only [xopR, msetR, e, ht]
      cases t with
      | none => exact ⟨beqT h.2.1, beqT h.2.2.1, keyS_ok h.2.2.2.1, h.2.2.2.2⟩
      | some p => exact ⟨beqT h.2.1, beqT h.2.2.1, keyS_ok h.2.2.2.1⟩
    · cases h
  · trivial
  · split at h
    · rename_i e
      simp only [Bool.and_eq_true] at h
      simp only [xopR, mlenR, e]
      exact ⟨beqT h.1, beqT h.2.1, bleT h.2.2⟩
    · cases h
  · exact keyS_ok h
  · split at h
    · rename_i e
      simp only [Bool.and_eq_true] at h
      obtain ⟨t, ht⟩ := Option.isSome_iff_exists.1 h.1
      simp only [xopR, mdelR, e, ht]
      cases t with
      | none => exact ⟨beqT h.2.1, beqT h.2.2.1, keyS_ok h.2.2.2⟩
      | some p => exact ⟨beqT h.2.1, beqT h.2.2.1, keyS_ok h.2.2.2⟩
    · cases h
  · trivial
  · split at h
    · rename_i e
      simp only [Bool.and_eq_true] at h
      simp only [xopR, mrangeR, e]
      exact ⟨beqT h.1, beqT h.2⟩
    · cases h
  · simp only [Bool.and_eq_true, decide_eq_true_eq] at h
    exact ⟨h.1, h.2.1, bleT h.2.2⟩
  · simp only [Bool.and_eq_true, decide_eq_true_eq] at h
    exact h
  · simp only [Bool.and_eq_true, decide_eq_true_eq] at h
    exact ⟨h.1, h.2.1, bleT h.2.2⟩
  · cases h

theorem sideB_ok {op : AOp} {K : Nat → AV} {H : AH} {nx : Nat} (h : sideB op K H = true) : (aop op K H nx).side := by
  cases op with
  | mov | mknil | alloc | mkfn => trivial
  | load a n p => exact loadS_ok h
  | store n p v => exact storeS_ok h
  | idx s x i => exact idxS_ok h
  | slice s x lo hi => exact sliceS_ok h
  | append s b x y => exact appendS_ok h
  | clear s z x => exact clearS_ok h
  | bin op x y => exact binS_ok h
  | xop x xs => exact xopS_ok h
  | build z ps => exact fillS_ok h
  | buildSl s l z ps => exact setS_ok h
  | rbuildSl s l z ps =>
    simp only [sideB, Bool.and_eq_true] at h
    exact ⟨setS_ok h.1, h.2⟩
  | box x => exact h
  | rbox x =>
    simp only [sideB, Bool.and_eq_true] at h
    exact h
  | mksl s b z l c =>
    simp only [sideB, mkslS] at h
    simp only [aop, mkslR]
    generalize ev K l = ul at h ⊢
    generalize ev K c = uc at h ⊢
    split at h
    · simp only [Bool.and_eq_true, decide_eq_true_eq] at h
      exact ⟨h.1, h.2.1, h.2.2.1, h.2.2.2.1, h.2.2.2.2.1, bltT h.2.2.2.2.2⟩
    · cases h
  | pick c x y =>
    simp only [sideB, pickS] at h
    simp only [aop, pickR]
    generalize ev K c = uc at h ⊢
    split at h
    · trivial
    · cases h
  | fldaddr o n x =>
    simp only [sideB, fldaddrS] at h
    simp only [aop, fldaddrR]
    generalize ev K x = ux at h ⊢
    split at h
    · trivial
    · exact bleT h
    · cases h
  | fld o n a x =>
    simp only [sideB, fldS] at h
    simp only [aop, fldR]
    generalize ev K x = ux at h ⊢
    split at h
    · exact bleT h
    · cases h
  | len x =>
    simp only [sideB, lenS] at h
    simp only [aop, lenR]
    generalize ev K x = ux at h ⊢
    split at h <;> first | trivial | cases h
  | slen x =>
    simp only [sideB, slenS] at h
    simp only [aop, slenR]
    generalize ev K x = ux at h ⊢
    split at h <;> first | trivial | cases h
  | eqb n x y =>
    simp only [sideB, eqbS] at h
    simp only [aop, eqB]
    generalize ev K x = ux at h ⊢
    generalize ev K y = uy at h ⊢
    split at h <;> first | trivial | cases h
  | un o x =>
    simp only [sideB, unS] at h
    simp only [aop, unR]
    generalize ev K x = ux at h ⊢
    split at h <;> first | trivial | cases h
  | conv k x =>
    simp only [sideB, convS] at h
    simp only [aop, convI]
    generalize ev K x = ux at h ⊢
    split at h <;> first | trivial | cases h
  | cut x =>
    simp only [sideB, cutS] at h
    simp only [aop, cutR]
    generalize ev K x = ux at h ⊢
    split at h <;> first | trivial | cases h
  | ext i x =>
    simp only [sideB, extS] at h
    simp only [aop, extR]
    generalize ev K x = ux at h ⊢
    split at h
    · exact bltT h
    · cases h
  | _ => cases h

end Go.Ab

namespace Go.Ab
open Go.RowKit

/-! ### Rows seen as memory that is only read -/

def frzV : Nat → AH → AV → AV
  | 0, _, _ => .undef
  | d + 1, H, v => match v with
    | .own r q g off n => match H.get r q with
      | some (.row sz els g') => bif Nat.beq g g' && (Nat.ble n big && Nat.ble (off + n) els.length) then .sl sz n (fun i j => frzV d H ((els.getD (off + i) []).getD j .undef)) else .undef
      | _ => .undef
    | .ptr r q g i o => match H.get r q with
      | some (.row sz els g') => bif Nat.beq g g' && (Nat.blt i els.length && Nat.ble o sz) then .iptr (sz - o) (fun j => frzV d H ((els.getD i []).getD (o + j) .undef)) else .undef
      | _ => .undef
    | .agg l => .agg (l.map (frzV d H))
    | .tup l => .tup (l.map (frzV d H))
    | .fn f l => .fn f (l.map (frzV d H))
    | .mp _ => .undef
    | .it _ => .undef
    | .nilmp => .undef
    | v => v

theorem frzV_ok {H : AH} : ∀ (d : Nat) (v : AV), Frz H v (frzV d H v)
  | 0, v => .undef _ _
  | d + 1, v => by
    unfold frzV
    cases v with
    | own r q g off n =>
      simp only
      split
      · rename_i sz els g' e
        cases hb : Nat.beq g g' && (Nat.ble n big && Nat.ble (off + n) els.length) with
        | false => exact .undef _ _
        | true =>
          simp only [Bool.and_eq_true] at hb
          have hg := beqT hb.1
          subst hg
          exact .frz _ r q g off n sz els _ trivial e (bleT hb.2.1) (bleT hb.2.2) fun i j _ _ => frzV_ok d _
      · exact .undef _ _
    | ptr r q g i o =>
      simp only
      split
      · rename_i sz els g' e
        cases hb : Nat.beq g g' && (Nat.blt i els.length && Nat.ble o sz) with
        | false => exact .undef _ _
        | true =>
          simp only [Bool.and_eq_true] at hb
          have hg := beqT hb.1
          subst hg
          have h2 := bleT hb.2.2
          exact .frzp _ r q g i o (sz - o) sz els _ trivial e (bltT hb.2.1) (by omega) fun j _ => frzV_ok d _
      · exact .undef _ _
    | agg l =>
      refine .agg _ _ _ (by simp) fun i a b h1 h2 => ?_
      rw [List.getElem?_map, h1] at h2
      cases h2
      exact frzV_ok d a
    | tup l =>
      refine .tup _ _ _ (by simp) fun i a b h1 h2 => ?_
      rw [List.getElem?_map, h1] at h2
      cases h2
      exact frzV_ok d a
    | fn f l =>
      refine .fn _ _ _ _ (by simp) fun i a b h1 h2 => ?_
      rw [List.getElem?_map, h1] at h2
      cases h2
      exact frzV_ok d a
    | undef => exact .undef _ _
    | int => exact .int _ _ _
    | bool => exact .bool _ _
    | str => exact .str _ _
    | nilp => exact .nilp _
    | iptr n c => exact .iptr _ _ _
    | sl sz n f => exact .sl _ _ _ _
    | nilsl => exact .nilsl _
    | cut => exact .cut _
    | nilfn => exact .nilfn _
    | mp | it | nilmp => exact .undef _ _

abbrev CallX := FuncId → List AV → AH → Nat → Option (AV × AH × Nat)

def CallX.Sound (P : Program) (call : CallX) : Prop := ∀ f args H nx r, call f args H nx = some r → CallOk P f args H nx (fun v H' nx' => (v, H', nx') = r)

/-- A call in a region that draws: it must leave all rows as they are. -/
def quietX (call : CallX) (f : FuncId) (args : List AV) (H : AH) : Option AV :=
  bif args.all AV.flat then
    match call f args [] 0 with
    | some (v, H', _) => some (frzV 9 H' v)
    | none => none
  else
    match call f (args.map (frzV 9 H)) [] 0 with
    | some (v, H', _) => bif (frzV 9 H' v).scal then some (frzV 9 H' v) else none
    | none => none

def bodyX (P : Program) (call : CallX) (op : AOp) (ρ : Nat → AV) (H : AH) (nx : Nat) : Option (AV × AH × Nat) :=
  match op with
  | .call f args => call f (evs ρ args) H nx
  | .callq f args => match quietX call f (evs ρ args) H with
    | some v => some (v, H, nx)
    | none => none
  | .isnil neg p x => match nilB p (ev ρ x) with
    | some (some b) => some (.bool (b != neg), H, nx)
    | _ => none
  | .mnext _ => none
  | .callv x args => match ev ρ x with
    | .fn (.func f) caps => bif fnGood P f then call f (evs ρ args ++ caps) H nx else none
    | _ => none
  | op => bif sideB op ρ H then some ((aop op ρ H nx).v, (aop op ρ H nx).H, (aop op ρ H nx).nx) else none

theorem lend_frz {H : AH} : ∀ (l : List AV), Lend H allR l (l.map (frzV 9 H))
  | [] => .nil
  | a :: l => .cons (frzV_ok 9 a) (lend_frz l)

theorem quietX_ok {P : Program} {call : CallX} (hs : call.Sound P) {f : FuncId} {args : List AV} {H : AH} {nx : Nat} {v : AV} (h : quietX call f args H = some v) : CallFix P f args H nx v := by
  unfold quietX at h
  cases hb : args.all AV.flat with
  | true =>
    rw [hb] at h
    simp only [cond_true] at h
    split at h
    · rename_i v0 H' nx' e
      cases h
      refine call_flat ?_ hb
      exact (hs f args [] 0 _ e).mono fun v1 H1 nx1 e1 => by
        cases e1
        exact ⟨_, frzV_ok 9 _, rfl⟩
    · cases h
  | false =>
    rw [hb] at h
    simp only [cond_false] at h
    split at h
    · rename_i v0 H' nx' e
      cases hc : (frzV 9 H' v0).scal with
      | false => rw [hc] at h; cases h
      | true =>
        rw [hc] at h
        cases h
        refine call_fix (D := allR) ?_ (lend_frz args) (.inl hc)
        exact (hs f _ [] 0 _ e).mono fun v1 H1 nx1 e1 => by
          cases e1
          exact ⟨_, frzV_ok 9 _, rfl⟩
    · cases h

theorem bodyX_ok {P : Program} {call : CallX} (hs : call.Sound P) {fx : Bool} {op : AOp} {ρ : Nat → AV} {H : AH} {nx : Nat} {r : AV × AH × Nat} {k : AV → AH → Nat → Prop} (h : bodyX P call op ρ H nx = some r) (hk : k r.1 r.2.1 r.2.2) :
    bodyK P fx op ρ H nx k := by
  have key : ∀ op' : AOp, (bif sideB op' ρ H then some ((aop op' ρ H nx).v, (aop op' ρ H nx).H, (aop op' ρ H nx).nx) else none) = some r → useRes fx (aop op' ρ H nx) k := fun op' h => by
    cases hb : sideB op' ρ H with
    | false => rw [hb] at h; cases h
    | true =>
      rw [hb] at h
      simp only [cond_true, Option.some.injEq] at h
      subst h
      exact ⟨sideB_ok hb, fun _ => hk⟩
  cases op with
  | call f args => exact (hs f _ H nx r h).mono fun v H' nx' e _ => by subst e; exact hk
  | callq f args =>
    simp only [bodyX] at h
    split at h
    · rename_i v e
      cases h
      exact ⟨v, quietX_ok hs e, hk⟩
    · cases h
  | mnext x => cases h
  | isnil neg p x =>
    simp only [bodyX] at h
    simp only [bodyK]
    split at h
    · rename_i b e
      cases h
      rw [e]
      exact hk
    · cases h
  | callv x args =>
    simp only [bodyX] at h
    simp only [bodyK]
    split at h
    · rename_i f caps e
      cases hg : fnGood P f with
      | false => rw [hg] at h; cases h
      | true =>
        rw [hg] at h
        rw [e]
        exact ⟨hg, (hs f _ H nx r h).mono fun v H' nx' e _ => by subst e; exact hk⟩
    · cases h
  | _ => exact key _ h

/-! ### Regions -/

abbrev St3 := Kn × AH × Nat

def oneX (P : Program) (call : CallX) (o : AOper) (K : Kn) (H : AH) (nx : Nat) : Option St3 :=
  match o.guard with
  | none => match bodyX P call o.op K.get H nx with
    | some (v, H', nx') => some (setO K o.dst v, H', nx')
    | none => none
  | some (t, want) => match grd want (K.get t) with
    | some true => match bodyX P call o.op K.get H nx with
      | some (v, H', nx') => some (setO K o.dst v, H', nx')
      | none => none
    | some false => some (setO K o.dst (.tup []), H, nx)
    | none => none

theorem oneX_ok {P : Program} {call : CallX} (hs : call.Sound P) {fx : Bool} {o : AOper} {K : Kn} {H : AH} {nx : Nat} {r : St3} {k : Kn → AH → Nat → Prop} (h : oneX P call o K H nx = some r) (hk : k r.1 r.2.1 r.2.2) : ExK P fx o K H nx k := by
  unfold oneX at h
  unfold ExK
  cases hg : o.guard with
  | none =>
    rw [hg] at h
    simp only at h ⊢
    split at h
    · rename_i v H' nx' e
      cases h
      exact bodyX_ok hs e hk
    · cases h
  | some p =>
    obtain ⟨t, want⟩ := p
    rw [hg] at h
    simp only at h ⊢
    cases hw : grd want (K.get t) with
    | none => rw [hw] at h; cases h
    | some b =>
      rw [hw] at h
      cases b with
      | true =>
        simp only at h
        split at h
        · rename_i v H' nx' e
          cases h
          exact ⟨fun _ => bodyX_ok hs e hk, fun hf => (by cases hf)⟩
        · cases h
      | false =>
        cases h
        exact ⟨fun hf => (by cases hf), fun _ => hk⟩

def opsX' (P : Program) (call : CallX) : List AOper → Kn → AH → Nat → Option St3
  | [], K, H, nx => some (K, H, nx)
  | o :: os, K, H, nx => match oneX P call o K H nx with
    | some (K', H', nx') => opsX' P call os K' H' nx'
    | none => none

theorem opsX'_ok {P : Program} {call : CallX} (hs : call.Sound P) {drop : List Nat} {Q : QT} : ∀ {os : List AOper} {K : Kn} {H : AH} {nx : Nat} {r : St3}, opsX' P call os K H nx = some r → Q .normal (r.1.drop drop) r.2.1 r.2.2 → aops P os drop Q K H nx
  | [], K, H, nx, r, h, hq => by
    cases h
    exact hq
  | o :: os, K, H, nx, r, h, hq => by
    simp only [opsX'] at h
    split at h
    · rename_i K' H' nx' e
      exact oneX_ok hs e (opsX'_ok hs h hq)
    · cases h

def treeX' (P : Program) (call : CallX) : DTree → Kn → AH → Nat → Option St3
  | .done, K, H, nx => some (K, H, nx)
  | .stop, _, _, _ => none
  | .step o t, K, H, nx => match oneX P call o K H nx with
    | some (K', H', nx') => treeX' P call t K' H' nx'
    | none => none
  | .alt o t .stop, K, H, nx => match oneX P call o K H nx with
    | some (K', H', nx') => treeX' P call t K' H' nx'
    | none => none
  | .alt _ _ _, _, _, _ => none

theorem treeX'_ok {P : Program} {call : CallX} (hs : call.Sound P) {drop : List Nat} {Q : QT} : ∀ {t : DTree} {K : Kn} {H : AH} {nx : Nat} {r : St3}, treeX' P call t K H nx = some r → Q .normal (r.1.drop drop) r.2.1 r.2.2 → awpT P t drop Q K H nx
  | .done, K, H, nx, r, h, hq => by
    cases h
    exact hq
  | .stop, _, _, _, _, h, _ => by cases h
  | .step o t, K, H, nx, r, h, hq => by
    simp only [treeX'] at h
    split at h
    · rename_i K' H' nx' e
      exact oneX_ok hs e (treeX'_ok hs h hq)
    · cases h
  | .alt o t .stop, K, H, nx, r, h, hq => by
    simp only [treeX'] at h
    split at h
    · rename_i K' H' nx' e
      exact ⟨oneX_ok hs e (treeX'_ok hs h hq), trivial⟩
    · cases h
  | .alt _ _ .done, _, _, _, _, h, _ => by cases h
  | .alt _ _ (.step _ _), _, _, _, _, h, _ => by cases h
  | .alt _ _ (.alt _ _ _), _, _, _, _, h, _ => by cases h

/-! ### The run -/

abbrev Out := AExit × Kn × AH × Nat

def retS (K : Kn) (H : AH) : List ARet → Bool
  | [] => true
  | .tmp _ :: r => retS K H r
  | .cell t _ n :: r => loadS n (K.get t) H && retS K H r
theorem retS_ok {K : Kn} {H : AH} {nx : Nat} : ∀ {rs : List ARet}, retS K H rs = true → retSide K H nx rs
  | [], _ => trivial
  | .tmp _ :: r, h => retS_ok (rs := r) h
  | .cell t a n :: r, h => by
    simp only [retS, Bool.and_eq_true] at h
    exact ⟨loadS_ok h.1, retS_ok h.2⟩

end Go.Ab

namespace Go.Ab
open Go.RowKit

section
variable {P : Program} {qf : FuncId → Nat → List Nat} {orc : CallX}

def QX (r : Out) : QT := fun e K H nx => (e, K, H, nx) = r

end
end Go.Ab

namespace Go.Ab
open Go.RowKit

inductive Ex where
  | mk (op n var width : Int) (l : List Ex)

structure NdF where
  kind : Int
  block : Int
  label : Int

inductive Nd where
  | mk (f : NdF) (cond : List Ex) (l : List Nd)

def Ex.l : Ex → List Ex
  | .mk _ _ _ _ l => l
def Nd.f : Nd → NdF
  | .mk f _ _ => f
def Nd.cond : Nd → List Ex
  | .mk _ c _ => c
def Nd.l : Nd → List Nd
  | .mk _ _ l => l

mutual
def encX : Ex → List AV
  | .mk op n v w l => [.int .i64 op, .int .u32 n, .int .i64 v, .int .i64 w, .sl 5 l.length (fun i j => ((encXs l).getD i []).getD j .undef)]
def encXs : List Ex → List (List AV)
  | [] => []
  | e :: l => encX e :: encXs l
end

theorem encXs_map : ∀ l : List Ex, encXs l = l.map encX
  | [] => by rw [encXs]; rfl
  | e :: l => by rw [encXs, encXs_map l]; rfl

theorem encX_eq (op n v w : Int) (l : List Ex) : encX (.mk op n v w l) = [.int .i64 op, .int .u32 n, .int .i64 v, .int .i64 w, encL 5 encX l] := by
  rw [encX, encXs_map]
  rfl

mutual
def encN : Nd → List AV
  | .mk f c l => [.int .i64 f.kind, .int .i64 f.block, .int .i64 f.label, encL 5 encX c, .sl 5 l.length (fun i j => ((encNs l).getD i []).getD j .undef)]
def encNs : List Nd → List (List AV)
  | [] => []
  | e :: l => encN e :: encNs l
end

theorem encNs_map : ∀ l : List Nd, encNs l = l.map encN
  | [] => by rw [encNs]; rfl
  | e :: l => by rw [encNs, encNs_map l]; rfl

theorem encN_eq (f : NdF) (c : List Ex) (l : List Nd) : encN (.mk f c l) = [.int .i64 f.kind, .int .i64 f.block, .int .i64 f.label, encL 5 encX c, encL 5 encN l] := by
  rw [encN, encNs_map]
  rfl

/-! What the functions compute. -/

mutual
def nodesX : Ex → Int → Int → Int
  | .mk _ _ _ _ l, most, left => if most < 1 ∨ left < 1 ∨ 4 < l.length then -1 else nodesXs l (most - 1) (left - 1)
def nodesXs : List Ex → Int → Int → Int
  | [], _, n => n
  | e :: l, most, n => if n < 0 then n else nodesXs l most (nodesX e most n)
end

def condsOk : List Ex → Bool
  | [] => true
  | e :: l => if nodesX e 70 200 < 0 then false else condsOk l

mutual
def weightN : Nd → Int → Int
  | .mk _ c l, left => if 3 < c.length ∨ condsOk c = false then -1 else weightNs l (left - 1)
def weightNs : List Nd → Int → Int
  | [], n => n
  | e :: l, n => if n < 0 then n else weightNs l (weightN e n)
end

/-! All nodes, each before those in it. -/
mutual
def allN : Nd → List Nd
  | .mk f c l => .mk f c l :: allNs l
def allNs : List Nd → List Nd
  | [] => []
  | e :: l => allN e ++ allNs l
end

mutual
def sizeN : Nd → Nat
  | .mk _ _ l => 1 + sizeNs l
def sizeNs : List Nd → Nat
  | [] => 0
  | e :: l => sizeN e + sizeNs l
end

mutual
theorem weight_size : ∀ (n : Nd) (left : Int), 0 ≤ weightN n left → (sizeN n : Int) + weightN n left ≤ left
  | .mk f c l, left, h => by
    rw [weightN] at h ⊢
    split at h
    · omega
    · rename_i hc
      rw [if_neg hc]
      have := weights_size l (left - 1) h
      rw [sizeN]
      omega
theorem weights_size : ∀ (l : List Nd) (left : Int), 0 ≤ weightNs l left → (sizeNs l : Int) + weightNs l left ≤ left
  | [], left, h => by
    rw [weightNs, sizeNs]
    omega
  | e :: l, left, h => by
    rw [weightNs] at h ⊢
    split at h
    · omega
    · rename_i hn
      rw [if_neg hn]
      have h2 := weights_size l _ h
      have h3 : 0 ≤ weightN e left := by
        apply Classical.byContradiction
        intro hc
        have hlt : weightN e left < 0 := by omega
        have : weightNs l (weightN e left) = weightN e left := by
          cases l with
          | nil => rw [weightNs]
          | cons a l => rw [weightNs, if_pos hlt]
        omega
      have h1 := weight_size e left h3
      rw [sizeNs]
      omega
end

mutual
theorem allN_len : ∀ n : Nd, (allN n).length = sizeN n
  | .mk f c l => by rw [allN, sizeN, List.length_cons, allNs_len l]; omega
theorem allNs_len : ∀ l : List Nd, (allNs l).length = sizeNs l
  | [] => by rw [allNs, sizeNs]; rfl
  | e :: l => by rw [allNs, sizeNs, List.length_append, allN_len e, allNs_len l]
end

end Go.Ab

namespace Go.Ab
open Go.RowKit Go.Proofs Go.Proofs.YtmlhipilbnjhiaaGreat

section
variable {HH : Type} {enc : TypeId × Value → HH} {w : World} {base : Nat} {spare : Nat → Bool} {held : Bool} {L : Nat → Prop} (hL : ∀ b, ¬ L b)
include hL

theorem vr_sliceF {P : Program} {α : Type} {cells : α → List AV} {t e : TypeId} {sz : Nat} {fuel : Nat} (ht : P.underlying t = some (.slice e)) (hs : P.cellsOf e = sz)
    (hel : ∀ fuel', fuel' < fuel → ∀ cs y, DataW.trod enc P w base spare held fuel' e cs = some y → cs.length = sz → ∃ x : α, ElOk w L cs (cells x)) {cs : List Value} {y : DataW HH × List MemPlace}
    (h : DataW.trod enc P w base spare held fuel t cs = some y) : ∃ (l : List α) (v : Value), cs = [v] ∧ v.oneCell' = true ∧ ∀ ι, VR w L ι v (encL sz cells l) := by
  rcases DataW.trod_slice ht h with ⟨rfl, rfl⟩ | ⟨a, len, cap, elems, rest, n, rfl, rfl, rfl, hb, hl, hc, he, hi, _, _⟩
  · exact ⟨[], _, rfl, rfl, fun ι => .sl0 _ _ _⟩
  · rw [hs] at hi
    have key : ∀ i : Fin len, ∃ p : α × List Value, p.2.length = sz ∧ (∀ j, j < sz → w.cell? ((a.add (i.1 * sz)).add j) = some (p.2.getD j undef)) ∧ ElOk w L p.2 (cells p.1) := by
      intro i
      have h1 := hi i.1 i.2
      rw [List.getElem?_eq_getElem (by omega), Option.bind_eq_some_iff] at h1
      obtain ⟨cs', h2, h3⟩ := h1
      obtain ⟨h4, h5⟩ := cells_get h2
      obtain ⟨x, hx⟩ := hel _ (Nat.lt_succ_self _) _ _ h3 h4
      exact ⟨(x, cs'), h4, h5, hx⟩
    obtain ⟨F, hF⟩ := Classical.axiomOfChoice key
    refine ⟨List.ofFn fun i => (F i).1, _, rfl, rfl, fun ι => ?_⟩
    have hlen : (List.ofFn fun i => (F i).1).length = len := List.length_ofFn
    unfold encL
    rw [hlen]
    refine .sl ι a sz len cap _ (fun i j => if hi : i < len then (F ⟨i, hi⟩).2.getD j undef else undef) hl (by unfold maxLen at hc; unfold big; omega) (fun i j hi hj => ?_) (fun _ => hL _) (fun i j hi hj => ?_)
    · obtain ⟨h1, h2, h3⟩ := hF ⟨i, hi⟩
      rw [dif_pos hi]
      exact ⟨h2 j hj, (h3 j (by omega)).2⟩
    · obtain ⟨h1, h2, h3⟩ := hF ⟨i, hi⟩
      rw [dif_pos hi]
      have e : ((List.ofFn fun i => (F i).1).map cells).getD i [] = cells (F ⟨i, hi⟩).1 := by
        rw [map_getD (a := (F ⟨i, hi⟩).1)]
        rw [List.getElem?_eq_getElem (by rw [hlen]; exact hi), List.getElem_ofFn]
      rw [e]
      exact (h3 j (by omega)).1

set_option maxRecDepth 100000 in
theorem open_ex : ∀ (k fuel : Nat), fuel ≤ k → ∀ (cs : List Value) (y : DataW HH × List MemPlace), DataW.trod enc Tryz.prog w base spare held fuel 60 cs = some y → ∃ e : Ex, ElOk w L cs (encX e) := by
  intro k
  induction k with
  | zero =>
    intro fuel hk cs y h
    obtain ⟨xs, n, h0, _⟩ := DataW.trod_struct Tryz.underlying60 h
    omega
  | succ k ih =>
  intro fuel hk cs y h
  obtain ⟨xs, n, rfl, rfl, hlen, hxs, hf⟩ := DataW.trod_struct Tryz.underlying60 h
  have hc : Tryz.prog.cellsOf 60 = 5 := by kernel_rfl
  have hc3 : Tryz.prog.cellsOf 3 = 1 := by kernel_rfl
  have hc22 : Tryz.prog.cellsOf 22 = 1 := by kernel_rfl
  have hc28 : Tryz.prog.cellsOf 28 = 1 := by kernel_rfl
  rw [hc] at hlen
  have hget : ∀ i, i < 5 → xs[i]? = some (xs.getD i (.nil, [])) := fun i hi => by
    rw [List.getD_eq_getElem?_getD, List.getElem?_eq_getElem (by rw [hxs]; exact hi)]
    rfl
  match cs, hlen with
  | [c0, c1, c2, c3, c4], _ =>
    have f0 : DataW.trod enc Tryz.prog w base spare held n 3 (([c0, c1, c2, c3, c4].drop 0).take (Tryz.prog.cellsOf 3)) = some (xs.getD 0 (.nil, [])) := (hf 0 _ rfl).trans (hget 0 (by decide))
    rw [hc3] at f0
    replace f0 : DataW.trod enc Tryz.prog w base spare held n 3 [c0] = some (xs.getD 0 (.nil, [])) := f0
    have f1 : DataW.trod enc Tryz.prog w base spare held n 22 (([c0, c1, c2, c3, c4].drop 1).take (Tryz.prog.cellsOf 22)) = some (xs.getD 1 (.nil, [])) := (hf 1 _ rfl).trans (hget 1 (by decide))
    rw [hc22] at f1
    replace f1 : DataW.trod enc Tryz.prog w base spare held n 22 [c1] = some (xs.getD 1 (.nil, [])) := f1
    have f2 : DataW.trod enc Tryz.prog w base spare held n 3 (([c0, c1, c2, c3, c4].drop 2).take (Tryz.prog.cellsOf 3)) = some (xs.getD 2 (.nil, [])) := (hf 2 _ rfl).trans (hget 2 (by decide))
    rw [hc3] at f2
    replace f2 : DataW.trod enc Tryz.prog w base spare held n 3 [c2] = some (xs.getD 2 (.nil, [])) := f2
    have f3 : DataW.trod enc Tryz.prog w base spare held n 3 (([c0, c1, c2, c3, c4].drop 3).take (Tryz.prog.cellsOf 3)) = some (xs.getD 3 (.nil, [])) := (hf 3 _ rfl).trans (hget 3 (by decide))
    rw [hc3] at f3
    replace f3 : DataW.trod enc Tryz.prog w base spare held n 3 [c3] = some (xs.getD 3 (.nil, [])) := f3
    have f4 : DataW.trod enc Tryz.prog w base spare held n 28 (([c0, c1, c2, c3, c4].drop 4).take (Tryz.prog.cellsOf 28)) = some (xs.getD 4 (.nil, [])) := (hf 4 _ rfl).trans (hget 4 (by decide))
    rw [hc28] at f4
    replace f4 : DataW.trod enc Tryz.prog w base spare held n 28 [c4] = some (xs.getD 4 (.nil, [])) := f4
    obtain ⟨n0, h0, w0⟩ := el_int Tryz.underlying3 f0
    obtain ⟨n1, h1, w1⟩ := el_int Tryz.underlying22 f1
    obtain ⟨n2, h2, w2⟩ := el_int Tryz.underlying3 f2
    obtain ⟨n3, h3, w3⟩ := el_int Tryz.underlying3 f3
    obtain ⟨l4, v4, h4, o4, w4⟩ := vr_sliceF (L := L) (α := Ex) (cells := encX) hL Tryz.underlying28 hc (fun fuel' hf' cs y h _ => ih fuel' (by omega) cs y h) f4
    cases h0; cases h1; cases h2; cases h3; cases h4
    refine ⟨.mk n0 n1 n2 n3 l4, fun j hj => ?_⟩
    rw [encX_eq]
    match j with
    | 0 => exact ⟨.int _ _ _ w0, rfl⟩
    | 1 => exact ⟨.int _ _ _ w1, rfl⟩
    | 2 => exact ⟨.int _ _ _ w2, rfl⟩
    | 3 => exact ⟨.int _ _ _ w3, rfl⟩
    | 4 => exact ⟨w4 _, o4⟩
    | j + 5 => exact absurd hj (by simp)

set_option maxRecDepth 100000 in
theorem open_nd : ∀ (k fuel : Nat), fuel ≤ k → ∀ (cs : List Value) (y : DataW HH × List MemPlace), DataW.trod enc Tryz.prog w base spare held fuel 31 cs = some y → ∃ e : Nd, cs.length = 5 ∧ ElOk w L cs (encN e) ∧ ∀ j, j < 5 → ∀ ι, VR w L ι (cs.getD j undef) ((encN e).getD j .undef) := by
  intro k
  induction k with
  | zero =>
    intro fuel hk cs y h
    obtain ⟨xs, n, h0, _⟩ := DataW.trod_struct Tryz.underlying31 h
    omega
  | succ k ih =>
  intro fuel hk cs y h
  have hcx : Tryz.prog.cellsOf 60 = 5 := by kernel_rfl
  obtain ⟨xs, n, rfl, rfl, hlen, hxs, hf⟩ := DataW.trod_struct Tryz.underlying31 h
  have hc : Tryz.prog.cellsOf 31 = 5 := by kernel_rfl
  have hc3 : Tryz.prog.cellsOf 3 = 1 := by kernel_rfl
  have hc28 : Tryz.prog.cellsOf 28 = 1 := by kernel_rfl
  have hc29 : Tryz.prog.cellsOf 29 = 1 := by kernel_rfl
  rw [hc] at hlen
  have hget : ∀ i, i < 5 → xs[i]? = some (xs.getD i (.nil, [])) := fun i hi => by
    rw [List.getD_eq_getElem?_getD, List.getElem?_eq_getElem (by rw [hxs]; exact hi)]
    rfl
  match cs, hlen with
  | [c0, c1, c2, c3, c4], _ =>
    have f0 : DataW.trod enc Tryz.prog w base spare held n 3 (([c0, c1, c2, c3, c4].drop 0).take (Tryz.prog.cellsOf 3)) = some (xs.getD 0 (.nil, [])) := (hf 0 _ rfl).trans (hget 0 (by decide))
    rw [hc3] at f0
    replace f0 : DataW.trod enc Tryz.prog w base spare held n 3 [c0] = some (xs.getD 0 (.nil, [])) := f0
    have f1 : DataW.trod enc Tryz.prog w base spare held n 3 (([c0, c1, c2, c3, c4].drop 1).take (Tryz.prog.cellsOf 3)) = some (xs.getD 1 (.nil, [])) := (hf 1 _ rfl).trans (hget 1 (by decide))
    rw [hc3] at f1
    replace f1 : DataW.trod enc Tryz.prog w base spare held n 3 [c1] = some (xs.getD 1 (.nil, [])) := f1
    have f2 : DataW.trod enc Tryz.prog w base spare held n 3 (([c0, c1, c2, c3, c4].drop 2).take (Tryz.prog.cellsOf 3)) = some (xs.getD 2 (.nil, [])) := (hf 2 _ rfl).trans (hget 2 (by decide))
    rw [hc3] at f2
    replace f2 : DataW.trod enc Tryz.prog w base spare held n 3 [c2] = some (xs.getD 2 (.nil, [])) := f2
    have f3 : DataW.trod enc Tryz.prog w base spare held n 28 (([c0, c1, c2, c3, c4].drop 3).take (Tryz.prog.cellsOf 28)) = some (xs.getD 3 (.nil, [])) := (hf 3 _ rfl).trans (hget 3 (by decide))
    rw [hc28] at f3
    replace f3 : DataW.trod enc Tryz.prog w base spare held n 28 [c3] = some (xs.getD 3 (.nil, [])) := f3
    have f4 : DataW.trod enc Tryz.prog w base spare held n 29 (([c0, c1, c2, c3, c4].drop 4).take (Tryz.prog.cellsOf 29)) = some (xs.getD 4 (.nil, [])) := (hf 4 _ rfl).trans (hget 4 (by decide))
    rw [hc29] at f4
    replace f4 : DataW.trod enc Tryz.prog w base spare held n 29 [c4] = some (xs.getD 4 (.nil, [])) := f4
    obtain ⟨n0, h0, w0⟩ := el_int Tryz.underlying3 f0
    obtain ⟨n1, h1, w1⟩ := el_int Tryz.underlying3 f1
    obtain ⟨n2, h2, w2⟩ := el_int Tryz.underlying3 f2
    obtain ⟨l3, v3, h3, o3, w3⟩ := vr_sliceF (L := L) (α := Ex) (cells := encX) hL Tryz.underlying28 hcx (fun fuel' hf' cs y h _ => open_ex hL fuel' fuel' (Nat.le_refl _) cs y h) f3
    obtain ⟨l4, v4, h4, o4, w4⟩ := vr_sliceF (L := L) (α := Nd) (cells := encN) hL Tryz.underlying29 hc (fun fuel' hf' cs y h _ => let ⟨e, _, h, _⟩ := ih fuel' (by omega) cs y h; ⟨e, h⟩) f4
    cases h0; cases h1; cases h2; cases h3; cases h4
    refine ⟨.mk ⟨n0, n1, n2⟩ l3 l4, rfl, fun j hj => ?_, fun j hj ι => ?_⟩
    · rw [encN_eq]
      match j with
      | 0 => exact ⟨.int _ _ _ w0, rfl⟩
      | 1 => exact ⟨.int _ _ _ w1, rfl⟩
      | 2 => exact ⟨.int _ _ _ w2, rfl⟩
      | 3 => exact ⟨w3 _, o3⟩
      | 4 => exact ⟨w4 _, o4⟩
      | j + 5 => exact absurd hj (by simp)
    · rw [encN_eq]
      match j with
      | 0 => exact .int _ _ _ w0
      | 1 => exact .int _ _ _ w1
      | 2 => exact .int _ _ _ w2
      | 3 => exact w3 _
      | 4 => exact w4 _
      | j + 5 => exact absurd hj (by omega)

set_option maxRecDepth 100000 in
theorem open_node {v : Value} {d : DataW HH} {ps : List MemPlace} (hv : Value.okWide Tryz.prog w .any base 31 v) {b2 : Nat} (h : DataW.Trod enc Tryz.prog w b2 spare held 31 v d ps) : ∃ e : Nd, True ∧ ∀ ι, VR w L ι v (.agg (encN e)) := by
  obtain ⟨fuel, hf⟩ := h
  unfold Value.okWide at hv
  rw [Tryz.underlying31] at hv
  simp only at hv
  obtain ⟨cs, rfl, _, _⟩ := hv
  have hf' : DataW.trod enc Tryz.prog w b2 spare held fuel 31 cs.toList = some (d, ps) := hf
  obtain ⟨o, h1, h2, h3⟩ := open_nd hL fuel fuel (Nat.le_refl _) _ _ hf'
  have hlen : (encN o).length = 5 := by obtain ⟨_, _, _⟩ := o; rw [encN_eq]; rfl
  refine ⟨o, trivial, fun ι => .agg ι cs _ (by rw [hlen]; simpa using h1) (fun i v hi => ?_) (fun i v a hi ha => ?_)⟩
  · have hi' : i < cs.toList.length := by have := (Array.getElem?_eq_some_iff.1 hi).1; simpa using this
    have e : cs.toList.getD i undef = v := by
      rw [List.getD_eq_getElem?_getD, Array.getElem?_toList, hi]; rfl
    have := (h2 i hi').2
    rwa [e] at this
  · have hi' : i < cs.toList.length := by have := (Array.getElem?_eq_some_iff.1 hi).1; simpa using this
    have e : cs.toList.getD i undef = v := by
      rw [List.getD_eq_getElem?_getD, Array.getElem?_toList, hi]; rfl
    have e2 : (encN o).getD i .undef = a := by
      rw [List.getD_eq_getElem?_getD, ha]; rfl
    have := h3 i (by omega) ι
    rwa [e, e2] at this

end
end Go.Ab

namespace Go.Ab
open Go.RowKit Go.Proofs Go.Proofs.YtmlhipilbnjhiaaGreat

theorem frz_true {H : AH} {v : AV} {b : Bool} (h : Frz H v (.bool b)) : v = .bool b := by
  unfold Frz at h
  generalize he : AV.bool b = x at h
  cases h <;> first | (cases he; done) | (cases he; rfl)

theorem row_true {P : Program} {f : FuncId} {args : List AV} {vs : Array Value} {w : World} (h : PureFn P f args (· = .bool true)) (hv : ∀ L : Nat → Prop, (∀ b, ¬ L b) → VRs w L noI vs.toList args) :
    Calls P f vs w fun e w' => e = .returned (.bool true) ∧ Below w.heap.size w w' := by
  have hno : ∀ b, ¬ Lt (fun _ => False) noI [] b := fun b hb => hb.elim (fun h => h) (no_live b)
  refine (h w (fun _ => False) noI vs (.empty (fun b hb => hb.elim)) (hv _ hno)).mono fun e w' ⟨v, ι', H', nx', a, h1, h2, _, h4, a2, h5, h6⟩ => ?_
  subst h1 h6
  have := frz_true h5
  subst this
  cases h4
  exact ⟨rfl, h2.ext.os, h2.ext.tape, h2.ext.output, h2.ext.size, fun k hk => h2.ext.block k hk (no_live k)⟩

end Go.Ab

namespace Go.Ab

def f_gosem_cut_init : Nat := 2
def f_L36_StructureOnce : Nat := 3
def f_L36_StructureBuilds : Nat := 4
def f_L36_StructureChecks : Nat := 5
def f_L36_StructureCounts : Nat := 6
def f_L36_StructureSimplifies : Nat := 7
def f_L36_StructureGotos : Nat := 8
def f_L36_StructureLoops : Nat := 9
def f_L36_few : Nat := 10
def f_L36_exampleHolds : Nat := 11
def f_structure_Build : Nat := 12
def f_R19_CheckGraph : Nat := 13
def f_structure_Blocks : Nat := 14
def f_R24_Reachable : Nat := 15
def f_R24_Has : Nat := 16
def f_structure_Check : Nat := 17
def f_structure_Simplify : Nat := 18
def f_R36_Build : Nat := 19
def f_R36_Same : Nat := 20
def f_L36_small : Nat := 21
def f_R36_Check : Nat := 22
def f_structure_Gotos : Nat := 23
def f_R36_Gotos : Nat := 24
def f_R24_Ints : Nat := 25
def f_structure_Labels : Nat := 26
def f_R36_Labels : Nat := 27
def f_R36_Blocks : Nat := 28
def f_L36_leaves : Nat := 29
def f_R36_Simplify : Nat := 30
def f_R24_Order : Nat := 31
def f_R24_Edges : Nat := 32
def f_R24_Tree : Nat := 33
def f_R24_Predecessors : Nat := 34
def f_R24_Dominates : Nat := 35
def f_L36_loopsIn : Nat := 36
def f_L36_conditions : Nat := 37
def f_L19_Nodes : Nat := 38
def f_L36_jump : Nat := 39
def f_L36_seq : Nat := 40
def f_L36_block : Nat := 41
def f_il_CheckGraph : Nat := 42
def f_structure_newBuilder : Nat := 43
def f_structure_builder_code : Nat := 44
def f_structure_all : Nat := 45
def f_structure_prune : Nat := 46
def f_R19_isClosed : Nat := 47
def f_R19_CheckStmt : Nat := 48
def f_R24_from : Nat := 49
def f_slices_ContainsFunc_api_Node_api_Node : Nat := 50
def f_structure_Check_1 : Nat := 51
def f_structure_formed : Nat := 52
def f_structure_covers : Nat := 53
def f_structure_inLoops : Nat := 54
def f_structure_Check_2 : Nat := 55
def f_slices_Contains_int_int : Nat := 56
def f_slices_Sort_int_int : Nat := 57
def f_slices_Compact_int_int : Nat := 58
def f_slices_Clone_int_int : Nat := 59
def f_slices_Clone_api_Node_api_Node : Nat := 60
def f_structure_flatten : Nat := 61
def f_structure_trim : Nat := 62
def f_slices_Clone_api_Expr_api_Expr : Nat := 63
def f_structure_copyExpr : Nat := 64
def f_structure_flat : Nat := 65
def f_R36_code : Nat := 66
def f_R36_strip : Nat := 67
def f_R36_targets : Nat := 68
def f_R19_Same : Nat := 69
def f_L36_weight : Nat := 70
def f_R36_formed : Nat := 71
def f_R36_covers : Nat := 72
def f_R36_stray : Nat := 73
def f_R24_Lists : Nat := 74
def f_R36_again : Nat := 75
def f_R36_cut : Nat := 76
def f_R36_flat : Nat := 77
def f_R24_visit : Nat := 78
def f_R24_targets : Nat := 79
def f_R24_strict : Nat := 80
def f_R24_nearest : Nat := 81
def f_il_shaped : Nat := 82
def f_il_checkStmt : Nat := 83
def f_dominator_Tree : Nat := 84
def f_dominator_Order : Nat := 85
def f_il_Successors : Nat := 86
def f_loops_Find : Nat := 87
def f_structure_builder_loop : Nat := 88
def f_structure_builder_split : Nat := 89
def f_structure_builder_transfer : Nat := 90
def f_structure_first : Nat := 91
def f_structure_seq : Nat := 92
def f_structure_builder_chain : Nat := 93
def f_R19_Ends : Nat := 94
def f_R19_targets : Nat := 95
def f_R19_exprs : Nat := 96
def f_R19_CheckExpr : Nat := 97
def f_R19_unused : Nat := 98
def f_R19_IsVar : Nat := 99
def f_slices_IndexFunc_api_Node_api_Node : Nat := 100
def f_il_CheckExpr : Nat := 101
def f_dominator_Reachable : Nat := 102
def f_structure_inLoops_1 : Nat := 103
def f_slices_Index_int_int : Nat := 104
def f_slices_pdqsortOrdered_int : Nat := 105
def f_math_bits_Len : Nat := 106
def f_slices_Concat_api_Node_api_Node : Nat := 107
def f_R36_beyond : Nat := 108
def f_R36_kids : Nat := 109
def f_R36_edgesTo : Nat := 110
def f_R36_natural : Nat := 111
def f_R36_inside : Nat := 112
def f_R36_seq : Nat := 113
def f_R36_loopOf : Nat := 114
def f_R36_after : Nat := 115
def f_R36_fields : Nat := 116
def f_R36_whiles : Nat := 117
def f_il_terminator : Nat := 118
def f_slices_ContainsFunc_api_Stmt_api_Stmt : Nat := 119
def f_slices_ContainsFunc_int_int : Nat := 120
def f_il_shaped_1 : Nat := 121
def f_il_expressions : Nat := 122
def f_il_fields : Nat := 123
def f_dominator_tree : Nat := 124
def f_dominator_all : Nat := 125
def f_dominator_order : Nat := 126
def f_loops_BackEdges : Nat := 127
def f_loops_edges : Nat := 128
def f_slices_ContainsFunc_2_int_2_int : Nat := 129
def f_loops_Find_1 : Nat := 130
def f_loops_body : Nat := 131
def f_loops_exits : Nat := 132
def f_slices_Clone_loops_Loop_loops_Loop : Nat := 133
def f_loops_Nest : Nat := 134
def f_structure_builder_last : Nat := 135
def f_structure_builder_transfer_1 : Nat := 136
def f_structure_builder_way : Nat := 137
def f_R19_isDeep : Nat := 138
def f_R19_isFormed : Nat := 139
def f_il_shallow : Nat := 140
def f_il_formed : Nat := 141
def f_slices_insertionSortOrdered_int : Nat := 142
def f_slices_heapSortOrdered_int : Nat := 143
def f_slices_breakPatternsOrdered_int : Nat := 144
def f_slices_choosePivotOrdered_int : Nat := 145
def f_slices_reverseRangeOrdered_int : Nat := 146
def f_slices_partialInsertionSortOrdered_int : Nat := 147
def f_cmp_Less_int : Nat := 148
def f_slices_partitionEqualOrdered_int : Nat := 149
def f_slices_partitionOrdered_int : Nat := 150
def f_math_bits_Len32 : Nat := 151
def f_math_bits_Len64 : Nat := 152
def f_slices_Grow_api_Node_api_Node : Nat := 153
def f_R36_reached : Nat := 154
def f_R36_transfer : Nat := 155
def f_slices_IndexFunc_api_Stmt_api_Stmt : Nat := 156
def f_slices_IndexFunc_int_int : Nat := 157
def f_il_variable : Nat := 158
def f_il_access : Nat := 159
def f_dominator_turned : Nat := 160
def f_dominator_tree_1 : Nat := 161
def f_dominator_edges : Nat := 162
def f_dominator_order_1 : Nat := 163
def f_slices_Reverse_int_int : Nat := 164
def f_dominator_Dominates : Nat := 165
def f_dominator_Predecessors : Nat := 166
def f_slices_IndexFunc_2_int_2_int : Nat := 167
def f_slices_Sorted_int : Nat := 168
def f_maps_Keys_map_int_bool_int_bool : Nat := 169
def f_slices_ContainsFunc_api_Expr_api_Expr : Nat := 170
def f_il_shallow_1 : Nat := 171
def f_il_formed_1 : Nat := 172
def f_slices_siftDownOrdered_int : Nat := 173
def f_slices_nextPowerOfTwo : Nat := 174
def f_slices_xorshift_Next : Nat := 175
def f_slices_medianAdjacentOrdered_int : Nat := 176
def f_slices_medianOrdered_int : Nat := 177
def f_cmp_isNaN_int : Nat := 178
def f_R36_way : Nat := 179
def f_slices_DeleteFunc_int_int : Nat := 180
def f_dominator_edges_1 : Nat := 181
def f_slices_Collect_int : Nat := 182
def f_maps_Keys_map_int_bool_int_bool_1 : Nat := 183
def f_slices_IndexFunc_api_Expr_api_Expr : Nat := 184
def f_slices_order2Ordered_int : Nat := 185
def f_slices_AppendSeq_int_int : Nat := 186
end Go.Ab

namespace Go.Ab
open Go.RowKit

/-! ### Rows numbered anew, as truth values -/

abbrev Sg := Nat → Option Nat
def Sg.two (σ : Sg) : Nat → Nat → Option (Nat × Nat × Nat) := fun r' q' => match σ r' with
  | some r => some (r, q', 0)
  | none => none
theorem Sg.two_some {σ : Sg} {r' q' r : Nat} (h : σ r' = some r) : σ.two r' q' = some (r, q', 0) := by unfold Sg.two; rw [h]
theorem Sg.of_two {σ : Sg} {r' q' : Nat} {x : Nat × Nat × Nat} (h : σ.two r' q' = some x) : σ r' = some x.1 ∧ x = (x.1, q', 0) := by
  unfold Sg.two at h
  split at h
  · rename_i r e; cases h; exact ⟨e, rfl⟩
  · cases h

def isS (σ : Sg) (r' r : Nat) : Bool := match σ r' with
  | some x => Nat.beq x r
  | none => false
theorem isS_ok {σ : Sg} {r' r : Nat} (h : isS σ r' r = true) : σ r' = some r := by
  unfold isS at h
  split at h
  · rename_i x e; rw [e, beq_true h]
  · cases h

/-- Is the value seen as it is? -/
def okB (σ : Sg) : Nat → AV → Bool
  | 0, _ => false
  | d + 1, v => match v with
    | .own r _ _ _ _ => isS σ r r
    | .ptr r _ _ _ _ => isS σ r r
    | .mp r => isS σ r r
    | .it r => isS σ r r
    | .agg l => l.all (okB σ d)
    | .tup l => l.all (okB σ d)
    | .fn _ l => l.all (okB σ d)
    | _ => true

def noD : Nat → Nat → Prop := fun _ _ => False

theorem okB_ok {H H2 : AH} {σ : Sg} : ∀ (d : Nat) (v : AV), okB σ d v = true → Vw H H2 σ.two noD true v v
  | 0, _, h => by cases h
  | d + 1, v, h => by
    unfold okB at h
    have inl : ∀ l : List AV, l.all (okB σ d) = true → ∀ (i : Nat) (a b : AV), l[i]? = some a → l[i]? = some b → Vw H H2 σ.two noD true a b := fun l hl i a b h1 h2 => by
      rw [h1] at h2
      cases h2
      exact okB_ok d a (List.all_eq_true.1 hl a (List.mem_of_getElem? h1))
    cases v with
    | own r q g o n => exact .own _ _ _ 0 _ _ _ _ g (Sg.two_some (isS_ok h)) rfl
    | ptr r q g i f => exact .ptr _ _ _ 0 _ _ _ _ g (Sg.two_some (isS_ok h)) rfl
    | mp r => exact .mp _ _ (Sg.two_some (isS_ok h))
    | it r => exact .it _ _ (Sg.two_some (isS_ok h))
    | agg l => exact .agg _ _ _ rfl (inl l h)
    | tup l => exact .tup _ _ _ rfl (inl l h)
    | fn f l => exact .fn _ _ _ _ rfl (inl l h)
    | undef => exact .undef _ _
    | int => exact .int _ _ _
    | bool => exact .bool _ _
    | str => exact .str _ _
    | nilp => exact .nilp _
    | iptr => exact .iptr _ _ _
    | sl => exact .sl _ _ _ _
    | nilsl => exact .nilsl _
    | cut => exact .cut _
    | nilfn => exact .nilfn _
    | nilmp => exact .nilmp _

def all2B {α β : Type} (p : α → β → Bool) : List α → List β → Bool
  | [], [] => true
  | a :: l, b :: m => p a b && all2B p l m
  | _, _ => false
theorem all2B_len {α β : Type} {p : α → β → Bool} : ∀ {l : List α} {m : List β}, all2B p l m = true → l.length = m.length
  | [], [], _ => rfl
  | a :: l, b :: m, h => by
    simp only [all2B, Bool.and_eq_true] at h
    rw [List.length_cons, List.length_cons, all2B_len h.2]
  | [], _ :: _, h => by cases h
  | _ :: _, [], h => by cases h
theorem all2B_get {α β : Type} {p : α → β → Bool} : ∀ {l : List α} {m : List β}, all2B p l m = true → ∀ (i : Nat) (a : α) (b : β), l[i]? = some a → m[i]? = some b → p a b = true
  | [], [], _, i, a, b, h, _ => by simp at h
  | a :: l, b :: m, h, i, x, y, hx, hy => by
    simp only [all2B, Bool.and_eq_true] at h
    cases i with
    | zero => simp at hx hy; subst hx hy; exact h.1
    | succ i => exact all2B_get h.2 i x y (by simpa using hx) (by simpa using hy)
  | [], _ :: _, h, _, _, _, _, _ => by cases h
  | _ :: _, [], h, _, _, _, _, _ => by cases h

def kindN : IntKind → Nat
  | .i8 => 0 | .i16 => 1 | .i32 => 2 | .i64 => 3 | .u8 => 4 | .u16 => 5 | .u32 => 6 | .u64 => 7
theorem kindN_inj {k k' : IntKind} (h : kindN k = kindN k') : k = k' := by
  cases k <;> cases k' <;> first | rfl | cases h

def beqI : Int → Int → Bool
  | .ofNat a, .ofNat b => Nat.beq a b
  | .negSucc a, .negSucc b => Nat.beq a b
  | _, _ => false
theorem beqI_ok : ∀ {a b : Int}, beqI a b = true → a = b
  | .ofNat a, .ofNat b, h => by rw [beq_true h]
  | .negSucc a, .negSucc b, h => by rw [beq_true (a := a) (b := b) h]
  | .ofNat _, .negSucc _, h => by cases h
  | .negSucc _, .ofNat _, h => by cases h

def beqU : List UInt8 → List UInt8 → Bool
  | [], [] => true
  | a :: l, b :: m => Nat.beq a.toNat b.toNat && beqU l m
  | _, _ => false
theorem beqU_ok : ∀ {l m : List UInt8}, beqU l m = true → l = m
  | [], [], _ => rfl
  | a :: l, b :: m, h => by
    simp only [beqU, Bool.and_eq_true] at h
    rw [UInt8.toNat_inj.1 (beq_true h.1), beqU_ok h.2]
  | [], _ :: _, h => by cases h
  | _ :: _, [], h => by cases h
def beqS (s t : ByteArray) : Bool := beqU s.data.toList t.data.toList
theorem beqS_ok {s t : ByteArray} (h : beqS s t = true) : s = t := by
  obtain ⟨⟨l⟩⟩ := s
  obtain ⟨⟨m⟩⟩ := t
  have := beqU_ok h
  simp only at this
  rw [this]

def fnN : Fn → Option Nat
  | .func f => some f
  | _ => none
theorem fnN_ok {f g : Fn} {n : Nat} (h : fnN f = some n) (h' : fnN g = some n) : f = g := by
  cases f <;> cases g <;> simp_all [fnN]

/-- Is a seen as b, where no rows occur? -/
def vw0B : Nat → AV → AV → Bool
  | 0, _, _ => false
  | d + 1, a, b => match a, b with
    | _, .undef => true
    | .int k n, .int k' n' => Nat.beq (kindN k) (kindN k') && beqI n n'
    | .bool x, .bool y => x == y
    | .str s, .str t => beqS s t
    | .nilp, .nilp => true
    | .nilsl, .nilsl => true
    | .nilfn, .nilfn => true
    | .nilmp, .nilmp => true
    | .cut, .cut => true
    | .sl sz n f, .sl sz' n' f' => Nat.beq sz sz' && (Nat.beq n n' && allB n fun i => allB sz fun j => vw0B d (f i j) (f' i j))
    | .iptr n c, .iptr n' c' => Nat.beq n n' && allB n fun j => vw0B d (c j) (c' j)
    | .agg l, .agg m => all2B (vw0B d) l m
    | .tup l, .tup m => all2B (vw0B d) l m
    | .fn f l, .fn g m => (match fnN f, fnN g with | some x, some y => Nat.beq x y | _, _ => false) && all2B (vw0B d) l m
    | _, _ => false

theorem vw0B_ok {H H2 : AH} {σ : Sg} : ∀ (d : Nat) (a b : AV), vw0B d a b = true → ∀ t, Vw H H2 σ.two noD t a b
  | 0, _, _, h, _ => by cases h
  | d + 1, a, b, h, t => by
    have inl : ∀ l m : List AV, all2B (vw0B d) l m = true → ∀ (i : Nat) (a b : AV), l[i]? = some a → m[i]? = some b → Vw H H2 σ.two noD t a b := fun l m hl i a b h1 h2 =>
      vw0B_ok d a b (all2B_get hl i a b h1 h2) t
    unfold vw0B at h
    split at h
    · exact .undef _ _
    · simp only [Bool.and_eq_true] at h
      rw [kindN_inj (beq_true h.1), beqI_ok h.2]
      exact .int _ _ _
    · rw [beq_iff_eq] at h
      subst h
      exact .bool _ _
    · rw [beqS_ok h]
      exact .str _ _
    · exact .nilp _
    · exact .nilsl _
    · exact .nilfn _
    · exact .nilmp _
    · exact .cut _
    · simp only [Bool.and_eq_true] at h
      obtain ⟨h1, h2, h3⟩ := h
      cases beq_true h1; cases beq_true h2
      exact .slf _ _ _ _ _ fun i j hi hj => vw0B_ok d _ _ (allB_spec (allB_spec h3 hi) hj) false
    · simp only [Bool.and_eq_true] at h
      obtain ⟨h1, h2⟩ := h
      cases beq_true h1
      exact .iptrf _ _ _ _ fun j hj => vw0B_ok d _ _ (allB_spec h2 hj) false
    · exact .agg _ _ _ (all2B_len h) (inl _ _ h)
    · exact .tup _ _ _ (all2B_len h) (inl _ _ h)
    · rename_i f l g m
      simp only [Bool.and_eq_true] at h
      obtain ⟨h1, h2⟩ := h
      cases e1 : fnN f with
      | none => rw [e1] at h1; cases h1
      | some x =>
        cases e2 : fnN g with
        | none => rw [e1, e2] at h1; cases h1
        | some y =>
          rw [e1, e2] at h1
          cases beq_true h1
          rw [fnN_ok e1 e2]
          exact .fn _ _ _ _ (all2B_len h2) (inl _ _ h2)
    · cases h

/-- Is a seen as b? -/
def vwB (σ : Sg) : Nat → AV → AV → Bool
  | 0, _, _ => false
  | d + 1, a, b => match a, b with
    | _, .undef => true
    | .int k n, .int k' n' => Nat.beq (kindN k) (kindN k') && beqI n n'
    | .bool x, .bool y => x == y
    | .str s, .str t => beqS s t
    | .nilp, .nilp => true
    | .nilsl, .nilsl => true
    | .nilfn, .nilfn => true
    | .nilmp, .nilmp => true
    | .cut, .cut => true
    | .own r q g o n, .own r' q' g' o' n' => isS σ r' r && (Nat.beq q q' && (Nat.beq g g' && (Nat.beq o o' && Nat.beq n n')))
    | .ptr r q g o n, .ptr r' q' g' o' n' => isS σ r' r && (Nat.beq q q' && (Nat.beq g g' && (Nat.beq o o' && Nat.beq n n')))
    | .mp r, .mp r' => isS σ r' r
    | .it r, .it r' => isS σ r' r
    | .sl sz n f, .sl sz' n' f' => vw0B (d + 1) (.sl sz n f) (.sl sz' n' f')
    | .iptr n c, .iptr n' c' => vw0B (d + 1) (.iptr n c) (.iptr n' c')
    | .agg l, .agg m => all2B (vwB σ d) l m
    | .tup l, .tup m => all2B (vwB σ d) l m
    | .fn f l, .fn g m => (match fnN f, fnN g with | some x, some y => Nat.beq x y | _, _ => false) && all2B (vwB σ d) l m
    | _, _ => false

theorem vwB_ok {H H2 : AH} {σ : Sg} : ∀ (d : Nat) (a b : AV), vwB σ d a b = true → Vw H H2 σ.two noD true a b
  | 0, _, _, h => by cases h
  | d + 1, a, b, h => by
    have inl : ∀ l m : List AV, all2B (vwB σ d) l m = true → ∀ (i : Nat) (a b : AV), l[i]? = some a → m[i]? = some b → Vw H H2 σ.two noD true a b := fun l m hl i a b h1 h2 =>
      vwB_ok d a b (all2B_get hl i a b h1 h2)
    unfold vwB at h
    split at h
    · exact .undef _ _
    · simp only [Bool.and_eq_true] at h
      rw [kindN_inj (beq_true h.1), beqI_ok h.2]
      exact .int _ _ _
    · rw [beq_iff_eq] at h
      subst h
      exact .bool _ _
    · rw [beqS_ok h]
      exact .str _ _
    · exact .nilp _
    · exact .nilsl _
    · exact .nilfn _
    · exact .nilmp _
    · exact .cut _
    · simp only [Bool.and_eq_true] at h
      obtain ⟨h1, h2, h3, h4, h5⟩ := h
      cases beq_true h2; cases beq_true h3; cases beq_true h4; cases beq_true h5
      exact .own _ _ _ 0 _ _ _ _ _ (Sg.two_some (isS_ok h1)) rfl
    · simp only [Bool.and_eq_true] at h
      obtain ⟨h1, h2, h3, h4, h5⟩ := h
      cases beq_true h2; cases beq_true h3; cases beq_true h4; cases beq_true h5
      exact .ptr _ _ _ 0 _ _ _ _ _ (Sg.two_some (isS_ok h1)) rfl
    · exact .mp _ _ (Sg.two_some (isS_ok h))
    · exact .it _ _ (Sg.two_some (isS_ok h))
    · exact vw0B_ok _ _ _ h _
    · exact vw0B_ok _ _ _ h _
    · exact .agg _ _ _ (all2B_len h) (inl _ _ h)
    · exact .tup _ _ _ (all2B_len h) (inl _ _ h)
    · rename_i f l g m
      simp only [Bool.and_eq_true] at h
      obtain ⟨h1, h2⟩ := h
      cases e1 : fnN f with
      | none => rw [e1] at h1; cases h1
      | some x =>
        cases e2 : fnN g with
        | none => rw [e1, e2] at h1; cases h1
        | some y =>
          rw [e1, e2] at h1
          cases beq_true h1
          rw [fnN_ok e1 e2]
          exact .fn _ _ _ _ (all2B_len h2) (inl _ _ h2)
    · cases h

/-- New rows (cnt of them) from number lo on, which came as top, top + 1 …; the others stay. -/
def sgR (lo cnt top nx2 : Nat) : Sg := fun r' =>
  bif Nat.ble lo r' && Nat.blt r' (lo + cnt) then some (r' - lo + top) else bif Nat.blt r' top && Nat.blt r' nx2 then some r' else none

def rowB (σ : Sg) : List AV → List AV → Bool := all2B (vwB σ 30)

def rowsB (σ : Sg) (nx2 : Nat) (H : AH) : AH → Bool
  | [] => true
  | (r', o) :: t => (Nat.blt r' nx2 && (match o with
      | .row sz els2 g2 => match σ r' with
        | some r => match H.look r with
          | some (.row sz' els g) => Nat.beq sz sz' && (Nat.beq g g2 && all2B (rowB σ) els els2)
          | _ => false
        | none => false
      | _ => false)) && rowsB σ nx2 H t

theorem look_mem : ∀ {H : AH} {r : Nat} {o : AObj}, H.look r = some o → (r, o) ∈ H
  | [], r, o, h => by cases h
  | (j, u) :: t, r, o, h => by
    simp only [AH.look] at h
    cases hb : Nat.beq j r with
    | true =>
      rw [hb] at h
      cases h
      rw [beq_true hb]
      simp
    | false =>
      rw [hb] at h
      exact List.mem_cons_of_mem _ (look_mem h)

theorem rowsB_mem {σ : Sg} {nx2 : Nat} {H : AH} : ∀ {H2 : AH}, rowsB σ nx2 H H2 = true → ∀ {r' : Nat} {o : AObj}, (r', o) ∈ H2 → r' < nx2 ∧ ∃ sz els2 g r els, o = .row sz els2 g ∧ σ r' = some r ∧ H.look r = some (.row sz els g) ∧ all2B (rowB σ) els els2 = true
  | [], _, _, _, hm => by simp at hm
  | (j, u) :: t, h, r', o, hm => by
    simp only [rowsB, Bool.and_eq_true] at h
    obtain ⟨⟨h1, h2⟩, h3⟩ := h
    rcases List.mem_cons.1 hm with e | hm
    · cases e
      refine ⟨bltT h1, ?_⟩
      split at h2
      · rename_i sz els2 g2
        split at h2
        · rename_i r hr
          split at h2
          · rename_i sz' els g hl
            simp only [Bool.and_eq_true] at h2
            obtain ⟨a1, a2, a3⟩ := h2
            cases beq_true a1; cases beq_true a2
            exact ⟨_, _, _, r, els, rfl, hr, hl, a3⟩
          · cases h2
        · cases h2
      · cases h2
    · exact rowsB_mem h3 hm

theorem sgR_view {B lo cnt top nx2 : Nat} {H H2 : AH} (hB : B ≤ lo) (hBt : B ≤ top) (hB2 : B ≤ nx2) (hlo : lo + cnt ≤ nx2) (hr : rowsB (sgR lo cnt top nx2) nx2 H H2 = true) : View B H H2 nx2 (sgR lo cnt top nx2).two noD := by
  have cases' : ∀ {r' r : Nat}, sgR lo cnt top nx2 r' = some r → (lo ≤ r' ∧ r' < lo + cnt ∧ r = r' - lo + top) ∨ (r' < top ∧ r' < nx2 ∧ r = r') := fun {r' r} h => by
    unfold sgR at h
    cases hb : Nat.ble lo r' && Nat.blt r' (lo + cnt) with
    | true =>
      rw [hb] at h
      simp only [Bool.and_eq_true] at hb
      cases h
      exact .inl ⟨bleT hb.1, bltT hb.2, rfl⟩
    | false =>
      rw [hb] at h
      cases hc : Nat.blt r' top && Nat.blt r' nx2 with
      | true =>
        rw [hc] at h
        simp only [Bool.and_eq_true] at hc
        cases h
        exact .inr ⟨bltT hc.1, bltT hc.2, rfl⟩
      | false => rw [hc] at h; cases h
  refine ⟨hB2, fun r q h => ?_, ?_, fun _ _ _ _ _ _ h => h, ?_, fun r o h => (rowsB_mem hr (look_mem h)).1, fun r' q' sz els2 g2 h => ?_⟩
  · refine Sg.two_some ?_
    unfold sgR
    have h1 : Nat.ble lo r = false := by
      cases hb : Nat.ble lo r with
      | false => rfl
      | true => have := bleT hb; omega
    have h2 : Nat.blt r top = true := by
      cases hb : Nat.blt r top with
      | true => rfl
      | false =>
        have := Nat.le_of_not_lt (fun h : r < top => by
          have : Nat.blt r top = true := by simpa [Nat.blt_eq] using h
          rw [hb] at this
          cases this)
        omega
    have h3 : Nat.blt r nx2 = true := by
      cases hb : Nat.blt r nx2 with
      | true => rfl
      | false =>
        have := Nat.le_of_not_lt (fun h : r < nx2 => by
          have : Nat.blt r nx2 = true := by simpa [Nat.blt_eq] using h
          rw [hb] at this
          cases this)
        omega
    rw [h1, h2, h3]
    rfl
  · intro r1 q1 r2 q2 r q d1 d2 h1 h2
    obtain ⟨a1, a2⟩ := Sg.of_two h1
    obtain ⟨b1, b2⟩ := Sg.of_two h2
    cases a2
    cases b2
    refine ⟨?_, rfl⟩
    rcases cases' a1 with ⟨x1, x2, x3⟩ | ⟨x1, x2, x3⟩ <;> rcases cases' b1 with ⟨y1, y2, y3⟩ | ⟨y1, y2, y3⟩ <;> simp only at x3 y3 <;> omega
  · intro r' q' x h
    obtain ⟨a1, _⟩ := Sg.of_two h
    rcases cases' a1 with ⟨x1, x2, _⟩ | ⟨_, x2, _⟩ <;> omega
  · unfold AH.get at h
    cases hl : H2.look r' with
    | none => rw [hl] at h; cases h
    | some o =>
      rw [hl] at h
      obtain ⟨_, sz', els2', g', r, els, rfl, h2, h3, h4⟩ := rowsB_mem hr (look_mem hl)
      cases q' with
      | succ q' => cases h
      | zero =>
        cases h
        refine .inl ⟨r, 0, 0, els, Sg.two_some h2, ?_, ?_⟩
        · unfold AH.get
          rw [h3]
          rfl
        · refine ⟨(all2B_len h4).symm, fun i c2 hi => ?_⟩
          have hi' : i < els.length := by rw [all2B_len h4]; exact (List.getElem?_eq_some_iff.1 hi).1
          have hc := all2B_get h4 i _ _ (List.getElem?_eq_getElem hi') hi
          exact ⟨_, List.getElem?_eq_getElem hi', (all2B_len hc).symm, fun j a b h5 h6 => vwB_ok 30 a b (all2B_get hc j a b h5 h6)⟩

end Go.Ab

namespace Go.Ab
open Go.RowKit

section
variable {P : Program}

/-! ### In whatever order, by states -/

theorem any_sem {ops : Array Oper} {bs : List AOper} {Qc : Exit → Act → World → Prop} (hlen : bs.length = ops.size) (J : List Bool → Act → World → Prop)
    (hend : ∀ l a w, l.length = bs.length → J l a w → (∀ i, i < bs.length → readyA (ops.toList.map depsOf) l i = false) → Qc .normal a w)
    (hstep : ∀ l i a w, l.length = bs.length → i < bs.length → readyA (ops.toList.map depsOf) l i = true → J l a w → ∀ o, ops[i]? = some o →
      if Region.wanted o (yielded ops a.tmps) then o.wp P a w (J (l.set i true)) Qc else J (l.set i true) (a.put o.dst undef) w) :
    ∀ (fuel : Nat) (l : List Bool) (a : Act) (w : World), l.length = bs.length → toCome l ≤ fuel → J l a w → wpAny P .any ops Qc fuel l.toArray a w
  | 0, l, a, w, hl, hc, hj => by
    have hno : ∀ i, i < bs.length → readyA (ops.toList.map depsOf) l i = false := fun i hi => by
      have := toCome_zero (l := l) (by omega) i (by omega)
      unfold readyA
      rw [this]
      rfl
    refine ⟨?_, hend l a w hl hj hno⟩
    rw [List.eq_nil_iff_forall_not_mem]
    intro j hj
    obtain ⟨h1, h2⟩ := (ready_iff (by omega)).1 hj
    rw [hno j (by omega)] at h2
    cases h2
  | fuel + 1, l, a, w, hl, hc, hj => by
    refine ⟨fun h0 => hend l a w hl hj fun i hi => ?_, fun i hi => ?_⟩
    · cases hb : readyA (ops.toList.map depsOf) l i with
      | false => rfl
      | true =>
        have : i ∈ Region.ready .any ops l.toArray := (ready_iff (by omega)).2 ⟨by omega, hb⟩
        rw [h0] at this
        simp at this
    · obtain ⟨h1, h2⟩ := (ready_iff (by omega)).1 hi
      have ho : ops[i]? = some ops[i] := Array.getElem?_eq_getElem h1
      have hset := toCome_set (l := l) (i := i) (by omega) (readyA_spec.1 h2).1
      have next : ∀ a w, J (l.set i true) a w → wpAny P .any ops Qc fuel (l.toArray.setIfInBounds i true) a w := fun a w hj => by
        have := any_sem hlen J hend hstep fuel (l.set i true) a w (by simpa using hl) (by omega) hj
        simpa using this
      have := hstep l i a w hl (by omega) h2 hj ops[i] ho
      unfold wpOp
      rw [ho]
      simp only
      split
      · rename_i hw
        rw [if_pos hw] at this
        exact .inl (Oper.wp_mono (fun a w h => next a w h) this)
      · rename_i hw
        rw [if_neg hw] at this
        exact next _ _ this

/-! ### One operation on known values -/

def valX (P : Program) (call : CallX) (o : AOper) (ρ : Nat → AV) (H : AH) (nx : Nat) : Option (AV × AH × Nat) :=
  match o.guard with
  | none => bodyX P call o.op ρ H nx
  | some (t, want) => match grd want (ρ t) with
    | some true => bodyX P call o.op ρ H nx
    | some false => some (.tup [], H, nx)
    | none => none

theorem valX_ok {call : CallX} (hs : call.Sound P) {o : AOper} {ρ ρ2 : Nat → AV} (hl : ∀ t ∈ o.looks, ρ2 t = ρ t) {H : AH} {nx : Nat} {r : AV × AH × Nat} (h : valX P call o ρ H nx = some r) {k : (Nat → AV) → AH → Nat → Prop} (hk : k (upd ρ2 o.dst r.1) r.2.1 r.2.2) : ExF P false o ρ2 H nx k := by
  have body : bodyX P call o.op ρ H nx = some r → bodyK P false o.op ρ2 H nx (fun v H' nx' => k (upd ρ2 o.dst v) H' nx') := fun h => by
    rw [bodyK_congr (P := P) (fx := false) (ρ' := ρ) fun t ht => hl t (looks_op ht)]
    exact bodyX_ok hs h hk
  unfold valX at h
  unfold ExF
  cases hg : o.guard with
  | none => rw [hg] at h; exact body h
  | some p =>
    obtain ⟨t, want⟩ := p
    rw [hg] at h
    simp only at h ⊢
    rw [hl t (looks_guard hg)]
    cases hw : grd want (ρ t) with
    | none => rw [hw] at h; cases h
    | some b =>
      rw [hw] at h
      cases b with
      | true => exact ⟨fun _ => body h, fun hf => (by cases hf)⟩
      | false => cases h; exact ⟨fun hf => (by cases hf), fun _ => hk⟩

/-! ### The run of a region, its states, the checks -/

def seqV (P : Program) (call : CallX) : List AOper → Kn → AH → Nat → Option (List (Nat × AV) × List (Nat × Nat) × Nat)
  | [], _, _, nx => some ([], [], nx)
  | o :: os, K, H, nx => match valX P call o K.get H nx with
    | some (v, H', nx') => match seqV P call os (setO K o.dst v) H' nx' with
      | some (vs, rs, top) => some ((match o.dst with
        | some d => (d, v) :: vs
        | none => vs), (nx, nx' - nx) :: rs, top)
      | none => none
    | none => none

def closA : List (List Nat) → List (List Nat) → List (List Nat)
  | acc, [] => acc
  | acc, ds :: r => closA (acc ++ [(ds ++ ds.flatMap fun d => acc.getD d []).eraseDups]) r

/-- Rows renamed (as the kernel computes it). -/
def renV (ρ : Nat → Nat) : Nat → AV → AV
  | 0, v => v
  | d + 1, v => match v with
    | .ptr r q g i f => .ptr (ρ r) q g i f
    | .own r q g off n => .own (ρ r) q g off n
    | .fn f caps => .fn f (caps.map (renV ρ d))
    | .agg l => .agg (l.map (renV ρ d))
    | .tup l => .tup (l.map (renV ρ d))
    | .mp r => .mp (ρ r)
    | .it r => .it (ρ r)
    | v => v
def renH (ρ : Nat → Nat) : AH → AH
  | [] => []
  | (r, o) :: t => (ρ r, match o with
    | .row sz els g => .row sz (els.map fun c => c.map (renV ρ 30)) g
    | .fam sz ins => .fam sz ins) :: renH ρ t

abbrev STab := List (List Nat × AH)
def lookT : STab → List Nat → AH
  | [], _ => []
  | (S, H) :: t, S' => bif beqL S S' then H else lookT t S'

/-- The slots of operation i and of what must come behind it. -/
def forbS (ops : List AOper) (A : List (List Nat)) (i : Nat) : List Nat :=
  (List.range ops.length).filterMap fun j => bif Nat.beq j i || memN (A.getD j []) i then (ops.getD j default).dst else none

/-- The slots as operation i sees them. -/
def seenK (ops : List AOper) (A : List (List Nat)) (K0 Kf : Kn) (i : Nat) : Kn := setAll Kf ((forbS ops A i).map fun t => (t, K0.get t))

def growI (P : Program) (call : CallX) (ops : List AOper) (Ls : List Nat) (A : List (List Nat)) (K0 Kf : Kn) (rs : List (Nat × Nat)) (top : Nat) (S : List Nat) (H : AH) : List Nat → STab → List (List Nat) → Option (STab × List (List Nat))
  | [], tab, todo => some (tab, todo)
  | i :: r, tab, todo =>
    bif compat Ls A i S && !memS (tab.map (·.1)) (nextS Ls i S) then
      match valX P call (ops.getD i default) (seenK ops A K0 Kf i).get H top with
      | some (_, H', _) => growI P call ops Ls A K0 Kf rs top S H r (tab ++ [(nextS Ls i S, renH (fun x => bif Nat.blt x top then x else x - top + (rs.getD i (0, 0)).1) H')]) (todo ++ [nextS Ls i S])
      | none => none
    else growI P call ops Ls A K0 Kf rs top S H r tab todo

def growT (P : Program) (call : CallX) (ops : List AOper) (Ls : List Nat) (A : List (List Nat)) (K0 Kf : Kn) (rs : List (Nat × Nat)) (top : Nat) : Nat → List (List Nat) → STab → Option STab
  | 0, _, tab => some tab
  | _ + 1, [], tab => some tab
  | n + 1, S :: todo, tab => match growI P call ops Ls A K0 Kf rs top S (lookT tab S) Ls tab todo with
    | some (tab', todo') => growT P call ops Ls A K0 Kf rs top n todo' tab'
    | none => none

def idS : Sg := fun r => some r

def dstB (σ : Sg) (Kf : Kn) : Option Nat → AV → Bool
  | none, _ => true
  | some d, v => vwB σ 30 v (Kf.get d)

def chkE (P : Program) (call : CallX) (ops : List AOper) (A : List (List Nat)) (K0 Kf : Kn) (rs : List (Nat × Nat)) (nx top : Nat) (tab : STab) (e : Nat × List Nat × List Nat) : Bool :=
  match valX P call (ops.getD e.1 default) (seenK ops A K0 Kf e.1).get (lookT tab e.2.1) top with
  | some (v, H', _) =>
    bif (ops.getD e.1 default).fixed then dstB idS Kf (ops.getD e.1 default).dst v
    else Nat.ble nx (rs.getD e.1 (0, 0)).1 && (Nat.ble ((rs.getD e.1 (0, 0)).1 + (rs.getD e.1 (0, 0)).2) top &&
      (rowsB (sgR (rs.getD e.1 (0, 0)).1 (rs.getD e.1 (0, 0)).2 top top) top H' (lookT tab e.2.2) &&
      (dstB (sgR (rs.getD e.1 (0, 0)).1 (rs.getD e.1 (0, 0)).2 top top) Kf (ops.getD e.1 default).dst v &&
      ((Kf.all fun p => memN (forbS ops A e.1) p.1 || okB (sgR (rs.getD e.1 (0, 0)).1 (rs.getD e.1 (0, 0)).2 top top) 30 p.2) &&
      K0.all fun p => okB (sgR (rs.getD e.1 (0, 0)).1 (rs.getD e.1 (0, 0)).2 top top) 30 p.2))))
  | none => false

def planX (ops : List AOper) (Ls : List Nat) (A : List (List Nat)) (St : List (List Nat)) : Plan :=
  (List.range ops.length).flatMap fun i =>
    bif memN Ls i then (St.filter (compat Ls A i)).map fun S => (i, S, nextS Ls i S)
    else bif (ops.getD i default).sees then (St.filter (compat Ls A i)).map fun S => (i, S, S)
    else ((St.filter (compat Ls A i)).take 1).map fun S => (i, S, S)

structure DR where
  Kf : Kn
  H : AH
  top : Nat

/-- What operation i looks at is written before it, or by nothing before it. -/
def lookB (ops : List AOper) (A : List (List Nat)) (i t : Nat) : Bool :=
  ((A.getD i []).any fun j => match (ops.getD j default).dst with | some d => Nat.beq d t | none => false) ||
  allB ops.length fun j => match (ops.getD j default).dst with | some d => !Nat.beq d t || (Nat.beq j i || memN (A.getD j []) i) | none => true

def plainO (o : AOper) : AOper := { o with op := bif o.fixed && !o.sees then .mov (.c .undef) else .mknil 0, guard := none }

/-- 'drawOk' without its word on what is looked at. -/
def drawOk1 (ops : List AOper) (deps : List (List Nat)) (Ls : List Nat) (A : List (List Nat)) (St : List (List Nat)) (plan : Plan) (ks : List Nat) : Bool :=
  drawOk (ops.map plainO) deps Ls A St plan ks

def drawR (P : Program) (call : CallX) (ops : List AOper) (deps : List (List Nat)) (Ls : List Nat) (A : List (List Nat)) (vs : List (Nat × AV)) (rs : List (Nat × Nat)) (tab : STab) (K : Kn) (nx top : Nat) : Option (Kn × AH × Nat) :=
  bif Nat.ble nx top && (drawOk1 ops deps Ls A (tab.map (·.1)) (planX ops Ls A (tab.map (·.1))) (vs.map (·.1)) && ((allB ops.length fun i => (ops.getD i default).looks.all (lookB ops A i)) && (planX ops Ls A (tab.map (·.1))).all (chkE P call ops A K (setAll K vs) rs nx top tab)))
  then some (setAll K vs, lookT tab Ls, top) else none

def drawX (P : Program) (call : CallX) (ops : List AOper) (deps : List (List Nat)) (K : Kn) (H : AH) (nx : Nat) : Option (Kn × AH × Nat) :=
  match seqV P call ops K H nx with
  | some (vs, rs, top) =>
    match growT P call ops ((List.range ops.length).filter fun i => !(ops.getD i default).fixed) (closA [] deps) K (setAll K vs) rs top 5000 [[]] [([], H)] with
    | some tab0 => drawR P call ops deps ((List.range ops.length).filter fun i => !(ops.getD i default).fixed) (closA [] deps) vs rs (([], H) :: tab0.tail) K nx top
    | none => none
  | none => none

/-! ### It is sound -/

theorem viewI_id (H : AH) (ι : Inj) : viewI H idS.two ι = ι := by
  funext r q g
  simp [viewI, Sg.two, idS]

theorem vr_id {w : World} {L : Nat → Prop} {ι : Inj} {H : AH} {nx : Nat} (rel : RelH w L ι H nx) {a b : AV} (h : Vw H H idS.two noD true a b) {v : Value} (hv : VR w (Lt L ι H) ι v a) : VR w (Lt L ι H) ι v b := by
  have := h.sound rel (M := Lt L ι H) (fun _ h => h) (fun _ _ _ _ _ _ h => h.elim) v hv
  rw [viewI_id] at this
  exact this

theorem RelH.up {w : World} {L : Nat → Prop} {ι : Inj} {H : AH} {nx nx' : Nat} (rel : RelH w L ι H nx) (h : nx ≤ nx') : RelH w L ι H nx' :=
  ⟨rel.row, rel.apart, rel.out, fun r q g l hi => Nat.lt_of_lt_of_le (rel.idx r q g l hi) h, fun r o hi => Nat.lt_of_lt_of_le (rel.dom r o hi) h, rel.gen, rel.Lsz⟩

/-- The slots whose operations are done. -/
def vsD (ops : List AOper) (Kf : Kn) (l : List Bool) : List (Nat × AV) := (List.range ops.length).filterMap fun i => bif getB l i then (ops.getD i default).dst.map fun d => (d, Kf.get d) else none
theorem vsD_mem {ops : List AOper} {Kf : Kn} {l : List Bool} {p : Nat × AV} : p ∈ vsD ops Kf l ↔ ∃ i, i < ops.length ∧ getB l i = true ∧ (ops.getD i default).dst = some p.1 ∧ p.2 = Kf.get p.1 := by
  unfold vsD
  rw [List.mem_filterMap]
  constructor
  · rintro ⟨i, hi, h⟩
    refine ⟨i, List.mem_range.1 hi, ?_⟩
    cases hb : getB l i with
    | false => rw [hb] at h; cases h
    | true =>
      rw [hb] at h
      obtain ⟨d, hd, rfl⟩ := Option.map_eq_some_iff.1 h
      exact ⟨rfl, hd, rfl⟩
  · rintro ⟨i, hi, hb, h, he⟩
    exact ⟨i, List.mem_range.2 hi, by rw [hb, cond_true, h, Option.map_some, ← he]⟩

theorem setAll_mem : ∀ {vs : List (Nat × AV)} {K : Kn} {t : Nat} {v : AV}, (∀ p ∈ vs, p.1 = t → p.2 = v) → t ∈ vs.map (·.1) → (setAll K vs).get t = v
  | [], _, _, _, _, h => by simp at h
  | (d, u) :: r, K, t, v, h, hm => by
    rw [setAll]
    by_cases hr : t ∈ r.map (·.1)
    · exact setAll_mem (fun p hp => h p (List.mem_cons_of_mem _ hp)) hr
    · rw [setAll_get hr, Kn.get_set]
      simp only [List.map_cons, List.mem_cons] at hm
      rcases hm with hm | hm
      · subst hm
        rw [if_pos rfl]
        exact h (t, u) (by simp) rfl
      · exact absurd hm hr

/-- The slots when the operations of l are done. -/
def doneK (ops : List AOper) (K0 Kf : Kn) (l : List Bool) : Kn := setAll K0 (vsD ops Kf l)
theorem doneK_yes {ops : List AOper} {K0 Kf : Kn} {l : List Bool} {i t : Nat} (hi : i < ops.length) (hb : getB l i = true) (hd : (ops.getD i default).dst = some t) : (doneK ops K0 Kf l).get t = Kf.get t := by
  unfold doneK
  refine setAll_mem (fun p hp e => ?_) (List.mem_map.2 ⟨(t, Kf.get t), vsD_mem.2 ⟨i, hi, hb, hd, rfl⟩, rfl⟩)
  obtain ⟨_, _, _, _, h⟩ := vsD_mem.1 hp
  rw [h, e]
theorem doneK_no {ops : List AOper} {K0 Kf : Kn} {l : List Bool} {t : Nat} (h : ∀ i, i < ops.length → getB l i = true → (ops.getD i default).dst ≠ some t) : (doneK ops K0 Kf l).get t = K0.get t := by
  unfold doneK
  refine setAll_get fun hm => ?_
  obtain ⟨p, hp, e⟩ := List.mem_map.1 hm
  obtain ⟨i, hi, hb, hd, _⟩ := vsD_mem.1 hp
  exact h i hi hb (by rw [hd, e])

theorem forbS_mem {ops : List AOper} {A : List (List Nat)} {i t : Nat} (h : t ∈ forbS ops A i) : ∃ j, j < ops.length ∧ (j = i ∨ i ∈ A.getD j []) ∧ (ops.getD j default).dst = some t := by
  unfold forbS at h
  obtain ⟨j, hj, h⟩ := List.mem_filterMap.1 h
  refine ⟨j, List.mem_range.1 hj, ?_⟩
  cases hb : Nat.beq j i || memN (A.getD j []) i with
  | false => rw [hb] at h; cases h
  | true =>
    rw [hb] at h
    refine ⟨?_, h⟩
    rcases Bool.or_eq_true_iff.1 hb with hb | hb
    · exact .inl (beq_true hb)
    · exact .inr ((memN_iff _ _).1 hb)

theorem Kn.get_mem {K : Kn} {t : Nat} : K.get t = .undef ∨ (t, K.get t) ∈ K := by
  induction K with
  | nil => exact .inl rfl
  | cons p r ih =>
    obtain ⟨j, u⟩ := p
    simp only [Kn.get]
    cases hb : Nat.beq j t with
    | true => rw [beq_true hb]; exact .inr (by simp)
    | false =>
      rcases ih with h | h
      · exact .inl h
      · exact .inr (List.mem_cons_of_mem _ h)

theorem seenK_yes {ops : List AOper} {A : List (List Nat)} {K0 Kf : Kn} {i t : Nat} (h : t ∈ forbS ops A i) : (seenK ops A K0 Kf i).get t = K0.get t := by
  unfold seenK
  refine setAll_mem (fun p hp e => ?_) ?_
  · obtain ⟨x, _, rfl⟩ := List.mem_map.1 hp
    simp only at e
    subst e
    rfl
  · rw [List.map_map]
    exact List.mem_map.2 ⟨t, h, rfl⟩
theorem seenK_no {ops : List AOper} {A : List (List Nat)} {K0 Kf : Kn} {i t : Nat} (h : t ∉ forbS ops A i) : (seenK ops A K0 Kf i).get t = Kf.get t := by
  unfold seenK
  refine setAll_get fun hm => ?_
  rw [List.map_map] at hm
  obtain ⟨x, hx, rfl⟩ := List.mem_map.1 hm
  exact h hx
theorem forbS_of {ops : List AOper} {A : List (List Nat)} {i j t : Nat} (hj : j < ops.length) (h : j = i ∨ i ∈ A.getD j []) (hd : (ops.getD j default).dst = some t) : t ∈ forbS ops A i := by
  unfold forbS
  refine List.mem_filterMap.2 ⟨j, List.mem_range.2 hj, ?_⟩
  have : (Nat.beq j i || memN (A.getD j []) i) = true := by
    rcases h with h | h
    · rw [h, beq_refl']; rfl
    · rw [(memN_iff _ _).2 h, Bool.or_true]
  rw [this]
  exact hd

/-- The checks over numbers. -/
structure DOk (ops : List AOper) (deps : List (List Nat)) (Ls : List Nat) (A : List (List Nat)) (St : List (List Nat)) (plan : Plan) (ks : List Nat) : Prop where
  low : ∀ (i : Nat), i < ops.length → ∀ j ∈ deps.getD i [], j < i
  clo : ∀ (i : Nat), i < ops.length → ∀ j ∈ A.getD i [], j ∈ deps.getD i [] ∨ ∃ d ∈ deps.getD i [], j ∈ A.getD d []
  one : ∀ (i j d : Nat), i < ops.length → j < ops.length → (ops.getD i default).dst = some d → (ops.getD j default).dst = some d → i = j
  keys : ∀ k ∈ ks, ∃ j, j < ops.length ∧ (ops.getD j default).dst = some k
  look : ∀ (i : Nat), i < ops.length → ∀ t ∈ (ops.getD i default).looks, (∃ j ∈ A.getD i [], (ops.getD j default).dst = some t) ∨ ∀ j, j < ops.length → (ops.getD j default).dst = some t → j = i ∨ i ∈ A.getD j []
  lin : ∀ i ∈ Ls, i < ops.length
  st0 : [] ∈ St
  stc : ∀ S ∈ St, ∀ i ∈ Ls, compat Ls A i S = true → nextS Ls i S ∈ St
  plan : ∀ (i : Nat), i < ops.length → ((ops.getD i default).fixed = true ∧ (ops.getD i default).sees = false ∧ i ∉ Ls ∧ anyP plan i = true) ∨
    (i ∉ Ls ∧ ∀ S ∈ St, compat Ls A i S = true → memP plan i S S = true) ∨ (i ∈ Ls ∧ ∀ S ∈ St, compat Ls A i S = true → memP plan i S (nextS Ls i S) = true)

theorem plainO_get {ops : List AOper} {i : Nat} (hi : i < ops.length) : (ops.map plainO).getD i default = plainO (ops.getD i default) := by
  rw [List.getD_eq_getElem?_getD, List.getElem?_map, List.getD_eq_getElem?_getD, List.getElem?_eq_getElem hi]
  rfl
theorem plainO_get' {ops : List AOper} {i : Nat} : ((ops.map plainO).getD i default).dst = (ops.getD i default).dst := by
  by_cases hi : i < ops.length
  · rw [plainO_get hi]; rfl
  · rw [List.getD_eq_getElem?_getD, List.getElem?_eq_none (by rw [List.length_map]; omega), List.getD_eq_getElem?_getD, List.getElem?_eq_none (by omega)]

theorem dok_of {ops : List AOper} {deps : List (List Nat)} {Ls : List Nat} {A : List (List Nat)} {St : List (List Nat)} {plan : Plan} {ks : List Nat} (h : drawOk1 ops deps Ls A St plan ks = true) (h2 : (allB ops.length fun i => (ops.getD i default).looks.all (lookB ops A i)) = true) : DOk ops deps Ls A St plan ks := by
  have ok := drawOk_ok h
  have hl : (ops.map plainO).length = ops.length := List.length_map _
  refine ⟨fun i hi => ok.low i (by omega), fun i hi => ok.clo i (by omega), fun i j d hi hj h1 h2 => ok.one i j d (by omega) (by omega) (by rw [plainO_get']; exact h1) (by rw [plainO_get']; exact h2), fun k hk => ?_, fun i hi t ht => ?_, fun i hi => by have := ok.lin i hi; omega, ok.st0, ok.stc, fun i hi => ?_⟩
  · obtain ⟨o, ho, hd⟩ := ok.keys k hk
    obtain ⟨j, hj, he⟩ := List.mem_iff_getElem.1 ho
    refine ⟨j, by omega, ?_⟩
    rw [← plainO_get', List.getD_eq_getElem?_getD, List.getElem?_eq_getElem hj, he]
    exact hd
  · have := List.all_eq_true.1 (allB_spec h2 hi) t ht
    unfold lookB at this
    rcases Bool.or_eq_true_iff.1 this with this | this
    · obtain ⟨j, hj, hd⟩ := List.any_eq_true.1 this
      refine .inl ⟨j, hj, ?_⟩
      cases e : (ops.getD j default).dst with
      | none => rw [e] at hd; cases hd
      | some d => rw [e] at hd; rw [beq_true hd]
    · refine .inr fun j hj hd => ?_
      have := allB_spec this hj
      rw [hd] at this
      simp only [beq_refl', Bool.not_true, Bool.false_or, Bool.or_eq_true] at this
      rcases this with this | this
      · exact .inl (beq_true this)
      · exact .inr ((memN_iff _ _).1 this)
  · rcases ok.plan i (by omega) with ⟨h1, h2, h3, h4⟩ | h | h
    · rw [plainO_get hi] at h1 h2
      refine .inl ⟨?_, ?_, h3, h4⟩
      · cases hf : (ops.getD i default).fixed with
        | true => rfl
        | false => unfold plainO at h1; rw [hf] at h1; cases h1
      · cases hs : (ops.getD i default).sees with
        | false => rfl
        | true => unfold plainO at h1; rw [hs, Bool.not_true, Bool.and_false] at h1; cases h1
    · exact .inr (.inl h)
    · exact .inr (.inr h)

theorem closed_B {ops : List AOper} {deps : List (List Nat)} {Ls : List Nat} {A : List (List Nat)} {St : List (List Nat)} {plan : Plan} {ks : List Nat} (ok : DOk ops deps Ls A St plan ks) {l : List Bool}
    (hc : ∀ i, i < ops.length → getB l i = true → ∀ j ∈ deps.getD i [], getB l j = true) : ∀ (i : Nat), i < ops.length → (∀ j ∈ deps.getD i [], getB l j = true) → ∀ j ∈ A.getD i [], getB l j = true := by
  intro i
  induction i using Nat.strongRecOn with
  | _ i ih =>
    intro hi hd j hj
    rcases ok.clo i hi j hj with h | ⟨d, h1, h2⟩
    · exact hd j h
    · have hlt := ok.low i hi d h1
      exact ih d hlt (by omega) (hc d (by omega) (hd d h1)) j h2

structure DX (P : Program) (call : CallX) (ops : List AOper) (deps : List (List Nat)) (Ls : List Nat) (A : List (List Nat)) (St : List (List Nat)) (plan : Plan) (ks : List Nat) (K0 Kf : Kn) (rs : List (Nat × Nat)) (nx top : Nat) (tab : STab) : Prop where
  ok : DOk ops deps Ls A St plan ks
  chk : ∀ e ∈ plan, chkE P call ops A K0 Kf rs nx top tab e = true
  lsF : ∀ i, i ∈ Ls → (ops.getD i default).fixed = false
  lsT : ∀ i, i < ops.length → i ∉ Ls → (ops.getD i default).fixed = true

theorem anyP_mem : ∀ {l : Plan} {a : Nat}, anyP l a = true → ∃ S, (a, S, S) ∈ l
  | [], _, h => by cases h
  | (i, k, k') :: r, a, h => by
    simp only [anyP, Bool.or_eq_true, Bool.and_eq_true] at h
    rcases h with ⟨h1, h2⟩ | h
    · rw [← beq_true h1, ← beqL_true h2]; exact ⟨k, by simp⟩
    · obtain ⟨S, hS⟩ := anyP_mem h
      exact ⟨S, List.mem_cons_of_mem _ hS⟩
theorem memP_mem : ∀ {l : Plan} {a : Nat} {b c : List Nat}, memP l a b c = true → (a, b, c) ∈ l
  | [], _, _, _, h => by cases h
  | (i, k, k') :: r, a, b, c, h => by
    simp only [memP, Bool.or_eq_true, Bool.and_eq_true] at h
    rcases h with ⟨h1, h2, h3⟩ | h
    · rw [← beq_true h1, ← beqL_true h2, ← beqL_true h3]; simp
    · exact List.mem_cons_of_mem _ (memP_mem h)

theorem setO_get_ne {K : Kn} {d : Option Nat} {v : AV} {t : Nat} (h : d ≠ some t) : (setO K d v).get t = K.get t := by
  rw [setO_get]
  exact upd_other h
theorem setO_get_eq {K : Kn} {d : Option Nat} {v : AV} {t : Nat} (h : d = some t) : (setO K d v).get t = v := by
  subst h
  simp [setO, Kn.get_set]

theorem upd_eq {ρ : Nat → AV} {d : Option Nat} {v : AV} {t : Nat} (h : d = some t) : upd ρ d v t = v := by
  subst h
  simp [upd]

/-- THE REGION does what the run finds. -/
theorem DX.sound {call : CallX} (hs : call.Sound P) {nt : Nat} {w0 : World} {L : Nat → Prop} {ι0 : Inj} {H0 : AH} {B : Nat} (base : RelH w0 L ι0 H0 B) {id : Nat} {ops : Array Oper} {bs : List AOper} (hlen : bs.length = ops.size)
    (hrel : ∀ (i : Nat) (o : Oper) (ao : AOper), ops.toList[i]? = some o → bs[i]? = some ao → OpRel P nt ops o ao) (hfol : P.follows .mixedOrders = true)
    {Ls : List Nat} {A St : List (List Nat)} {plan : Plan} {vs : List (Nat × AV)} {rs : List (Nat × Nat)} {tab : STab} {K : Kn} {H : AH} {nx top : Nat} (htop : nx ≤ top) (htab : lookT tab [] = H)
    (dx : DX P call bs (ops.toList.map depsOf) Ls A St plan (vs.map (·.1)) K (setAll K vs) rs nx top tab) {w : World} {ι : Inj} {a : Act} (hin : In nt w0 L ι0 H0 B w ι K.get H nx a) {Q : QT} (hq : Q .normal (setAll K vs) (lookT tab Ls) top) :
    (Code.region id ops true).wp P (QQ nt w0 L ι0 H0 B Q) a w := by
  obtain ⟨ok, hchk, hlsF, hlsT⟩ := dx
  have hBnx := hin.le
  refine wp_region_any hfol ?_
  have main := any_sem (P := P) (Qc := QQ nt w0 L ι0 H0 B Q) hlen (fun l a w => ∃ ι, In nt w0 L ι0 H0 B w ι (doneK bs K (setAll K vs) l).get (lookT tab (Ls.filter (getB l))) top a ∧ (∀ i, i < bs.length → getB l i = true → ∀ j ∈ (ops.toList.map depsOf).getD i [], getB l j = true) ∧ Ls.filter (getB l) ∈ St) ?_ ?_ bs.length (List.replicate bs.length false) a { w with drawn := w.drawn + 1 } (by simp) (by
    have : ∀ n, toCome (List.replicate n false) = n := fun n => by
      induction n with
      | zero => rfl
      | succ n ih => rw [List.replicate_succ, toCome, ih]; simp; omega
    rw [this]
    exact Nat.le_refl _) ?_
  · rw [hlen] at main
    simpa using main
  · -- the end
    rintro l a w hl ⟨ι, hin, hclo, hst⟩ hnone
    have hall : ∀ i, i < bs.length → getB l i = true := by
      intro i
      induction i using Nat.strongRecOn with
      | _ i ih =>
        intro hi
        have := hnone i hi
        cases hb : getB l i with
        | true => rfl
        | false =>
          have hr : readyA (ops.toList.map depsOf) l i = true := readyA_spec.2 ⟨hb, fun j hj => ih j (ok.low i hi j hj) (by have := ok.low i hi j hj; omega)⟩
          rw [this] at hr
          cases hr
    have hcnt : Ls.filter (getB l) = Ls := List.filter_eq_self.2 (fun m hm => hall m (ok.lin m hm))
    rw [hcnt] at hin
    have e : (doneK bs K (setAll K vs) l).get = (setAll K vs).get := funext fun t => by
      by_cases h : ∃ i, i < bs.length ∧ (bs.getD i default).dst = some t
      · obtain ⟨i, hi, hd⟩ := h
        exact doneK_yes hi (hall i hi) hd
      · rw [doneK_no fun i hi _ hd => h ⟨i, hi, hd⟩]
        exact (setAll_get fun hk => h (ok.keys t hk)).symm
    rw [e] at hin
    exact ⟨ι, _, _, _, hin, hq⟩
  · -- a step
    rintro l i a w hl hi hr ⟨ι, hin, hclo, hst⟩ o ho
    obtain ⟨hun, hdeps⟩ := readyA_spec.1 hr
    have hA := closed_B ok hclo i hi hdeps
    have hlt : ∀ j, getB l j = true → j < bs.length := fun j hj => by
      apply Classical.byContradiction
      intro hcon
      unfold getB at hj
      rw [List.getD_eq_getElem?_getD, List.getElem?_eq_none (by omega)] at hj
      cases hj
    have hgetD : ∀ {t : Nat} {o : AOper}, o ∈ bs → o.dst = some t → ∃ j, j < bs.length ∧ (bs.getD j default).dst = some t := fun {t o} ho hd => by
      obtain ⟨j, hj, he⟩ := List.mem_iff_getElem.1 ho
      exact ⟨j, hj, by rw [List.getD_eq_getElem?_getD, List.getElem?_eq_getElem hj, he]; exact hd⟩
    have hcomp : compat Ls A i (Ls.filter (getB l)) = true := by
      unfold compat
      simp only [Bool.and_eq_true, Bool.not_eq_true', List.all_eq_true, Bool.or_eq_true]
      refine ⟨?_, fun m hm => ?_, fun m hm => ?_⟩
      · cases hb : memN (Ls.filter (getB l)) i with
        | false => rfl
        | true =>
          have := (List.mem_filter.1 ((memN_iff _ _).1 hb)).2
          rw [hun] at this
          cases this
      · cases hb : memN (A.getD i []) m with
        | false => exact .inl rfl
        | true => exact .inr ((memN_iff _ _).2 (List.mem_filter.2 ⟨hm, hA m ((memN_iff _ _).1 hb)⟩))
      · obtain ⟨hmL, hml⟩ := List.mem_filter.1 hm
        cases hb : memN (A.getD m []) i with
        | false => rfl
        | true =>
          have := closed_B ok hclo m (ok.lin m hmL) (hclo m (ok.lin m hmL) hml) i ((memN_iff _ _).1 hb)
          rw [hun] at this
          cases this
    have hlk : ∀ t ∈ (bs.getD i default).looks, (doneK bs K (setAll K vs) l).get t = (seenK bs A K (setAll K vs) i).get t := fun t ht => by
      rcases ok.look i hi t ht with ⟨j, hj, hd⟩ | h
      · have hdone := hA j hj
        have hjn := hlt j hdone
        rw [doneK_yes hjn hdone hd, seenK_no fun hf => ?_]
        obtain ⟨j', hj', hc, hd'⟩ := forbS_mem hf
        have := ok.one j' j t hj' hjn hd' hd
        subst this
        rcases hc with hc | hc
        · subst hc; rw [hun] at hdone; cases hdone
        · have := closed_B ok hclo j' hjn (hclo j' hjn hdone) i hc
          rw [hun] at this
          cases this
      · rw [doneK_no fun j hj hb hd => ?_]
        · by_cases he : ∃ j, j < bs.length ∧ (bs.getD j default).dst = some t
          · obtain ⟨j, hj, hd⟩ := he
            rw [seenK_yes (forbS_of hj (h j hj hd) hd)]
          · rw [seenK_no fun hf => (by obtain ⟨j, hj, _, hd⟩ := forbS_mem hf; exact he ⟨j, hj, hd⟩)]
            exact (setAll_get fun hk => he (ok.keys t hk)).symm
        · rcases h j hj hd with hc | hc
          · subst hc; rw [hun] at hb; cases hb
          · have := closed_B ok hclo j hj (hclo j hj hb) i hc
            rw [hun] at this
            cases this
    -- what stays to come
    have hclo' : ∀ j, j < bs.length → getB (l.set i true) j = true → ∀ m ∈ (ops.toList.map depsOf).getD j [], getB (l.set i true) m = true := by
      intro j hj hjl m hm
      rw [getB_set (by omega)] at hjl ⊢
      by_cases hmi : m = i
      · rw [if_pos hmi]
      · rw [if_neg hmi]
        by_cases hji : j = i
        · subst hji; exact hdeps m hm
        · rw [if_neg hji] at hjl; exact hclo j hj hjl m hm
    have hset : ∀ j, getB (l.set i true) j = if j = i then true else getB l j := fun j => getB_set (by omega)
    have hsame : ∀ t, (bs.getD i default).dst ≠ some t → (doneK bs K (setAll K vs) (l.set i true)).get t = (doneK bs K (setAll K vs) l).get t := fun t ht => by
      by_cases h : ∃ j, j < bs.length ∧ getB l j = true ∧ (bs.getD j default).dst = some t
      · obtain ⟨j, hj, hb, hd⟩ := h
        rw [doneK_yes hj hb hd, doneK_yes hj (by rw [hset]; split <;> first | rfl | exact hb) hd]
      · rw [doneK_no fun j hj hb hd => h ⟨j, hj, hb, hd⟩, doneK_no fun j hj hb hd => ?_]
        rw [hset] at hb
        by_cases e : j = i
        · subst e; exact ht hd
        · rw [if_neg e] at hb; exact h ⟨j, hj, hb, hd⟩
    have hself : ∀ t, (bs.getD i default).dst = some t → (doneK bs K (setAll K vs) (l.set i true)).get t = (setAll K vs).get t := fun t ht => doneK_yes hi (by rw [hset, if_pos rfl]) ht
    have notin : i ∉ Ls → Ls.filter (getB (l.set i true)) = Ls.filter (getB l) := fun hni => by
      refine List.filter_congr fun m hm => ?_
      rw [getB_set (by omega), if_neg (fun e : m = i => hni (by rw [← e]; exact hm))]
    have hro := hrel i o (bs.getD i default) (by simp [ho]) (by rw [List.getD_eq_getElem?_getD, List.getElem?_eq_getElem hi]; rfl)
    have entry : ∃ e ∈ plan, e.1 = i ∧ ((i ∉ Ls ∧ ((bs.getD i default).sees = false ∨ e.2.1 = Ls.filter (getB l))) ∨ (i ∈ Ls ∧ e.2.1 = Ls.filter (getB l) ∧ e.2.2 = Ls.filter (getB (l.set i true)) ∧ Ls.filter (getB (l.set i true)) ∈ St)) := by
      rcases ok.plan i hi with ⟨hf, hse, hni, ha⟩ | ⟨hni, hk⟩ | ⟨hin', hk⟩
      · obtain ⟨S, hS⟩ := anyP_mem ha
        exact ⟨_, hS, rfl, .inl ⟨hni, .inl hse⟩⟩
      · exact ⟨_, memP_mem (hk _ hst hcomp), rfl, .inl ⟨hni, .inr rfl⟩⟩
      · have hnx : nextS Ls i (Ls.filter (getB l)) = Ls.filter (getB (l.set i true)) := by
          unfold nextS
          refine List.filter_congr fun m hm => ?_
          rw [getB_set (by omega)]
          by_cases hmi : m = i
          · subst hmi; simp [beq_refl']
          · rw [if_neg hmi, beq_ne hmi, Bool.false_or]
            cases hb : getB l m with
            | true => exact (memN_iff _ _).2 (List.mem_filter.2 ⟨hm, hb⟩)
            | false =>
              cases hb2 : memN (Ls.filter (getB l)) m with
              | false => rfl
              | true =>
                have := (List.mem_filter.1 ((memN_iff _ _).1 hb2)).2
                rw [hb] at this
                cases this
        have h2 := ok.stc _ hst i hin' hcomp
        rw [hnx] at h2
        exact ⟨_, memP_mem (hk _ hst hcomp), rfl, .inr ⟨hin', rfl, hnx, h2⟩⟩
    obtain ⟨e, hep, he1, hcase⟩ := entry
    have hc := hchk e hep
    unfold chkE at hc
    rw [he1] at hc
    split at hc
    · rename_i v H' nx' hv
      rcases hcase with ⟨hni, hsee⟩ | ⟨hil, hS, hS', hst'⟩
      · -- an operation of one result
        have hf := hlsT i hi hni
        rw [hf] at hc
        simp only [cond_true] at hc
        have hex0 : ExF P false (bs.getD i default) (doneK bs K (setAll K vs) l).get (lookT tab e.2.1) top (fun ρ' _ _ => ρ' = upd (doneK bs K (setAll K vs) l).get (bs.getD i default).dst v) := valX_ok hs hlk hv rfl
        obtain ⟨v1, hy, hv1⟩ := yld_of_ex hf hex0
        have hy' : Yld P (bs.getD i default) (doneK bs K (setAll K vs) l).get (lookT tab (Ls.filter (getB l))) top v1 := by
          rcases hsee with hse | hse
          · exact yld_rows hse hy
          · rw [← hse]; exact hy
        have hex : ExF P false (bs.getD i default) (doneK bs K (setAll K vs) l).get (lookT tab (Ls.filter (getB l))) top (fun ρ' H2 nx2 => ρ' = upd (doneK bs K (setAll K vs) l).get (bs.getD i default).dst v ∧ H2 = lookT tab (Ls.filter (getB l)) ∧ nx2 = top) := ex_of_yld hy' ⟨hv1, rfl, rfl⟩
        refine exF_sound hro hin hex fun w' ι' ρ' H2 nx2 a' hin' ⟨e1, e2, e3⟩ => ?_
        subst e1 e2 e3
        refine ⟨ι', ?_, hclo', by rw [notin hni]; exact hst⟩
        rw [notin hni]
        refine ⟨hin'.size, hin'.defers, hin'.st, hin'.le, fun t => ?_⟩
        by_cases hd : (bs.getD i default).dst = some t
        · have h1 := hin'.kn t
          rw [upd_eq hd] at h1
          rw [hd] at hc
          rw [hself t hd]
          exact vr_id hin'.st.rel (vwB_ok 30 _ _ hc) h1
        · have h1 := hin'.kn t
          rw [upd_other hd] at h1
          rw [hsame t hd]
          exact h1
      · -- an operation that changes rows
        have hf := hlsF i hil
        rw [hf] at hc
        simp only [cond_false, Bool.and_eq_true] at hc
        obtain ⟨hc1, hc2, hc3, hc4, hc5, hc6⟩ := hc
        rw [hS] at hv
        rw [hS'] at hc3
        have hex : ExF P false (bs.getD i default) (doneK bs K (setAll K vs) l).get (lookT tab (Ls.filter (getB l))) top (fun ρ' H2 nx2 => ρ' = upd (doneK bs K (setAll K vs) l).get (bs.getD i default).dst v ∧ H2 = H' ∧ nx2 = nx') := valX_ok hs hlk hv ⟨rfl, rfl, rfl⟩
        refine exF_sound hro hin hex fun w' ι' ρ' H2 nx2 a' hin' ⟨e1, e2, e3⟩ => ?_
        subst e1 e2 e3
        have hB := hin.le
        have hlo := bleT hc1
        have hle := bleT hc2
        have vw := sgR_view (B := B) (top := top) (nx2 := top) (H := H2) (H2 := lookT tab (Ls.filter (getB (l.set i true)))) (Nat.le_trans hBnx hlo) hB hB hle hc3
        rw [← setO_get] at hin'
        obtain ⟨ι2, hin2⟩ := hin'.ent base (K2 := doneK bs K (setAll K vs) (l.set i true)) (Ent.view _ _ vw fun t => by
          by_cases hd : (bs.getD i default).dst = some t
          · rw [setO_get_eq hd, hself t hd]
            rw [hd] at hc4
            exact vwB_ok 30 _ _ hc4
          · rw [setO_get_ne hd, hsame t hd]
            by_cases h : ∃ j, j < bs.length ∧ getB l j = true ∧ (bs.getD j default).dst = some t
            · obtain ⟨j, hj, hb, hdj⟩ := h
              rw [doneK_yes hj hb hdj]
              rcases Kn.get_mem (K := setAll K vs) (t := t) with h | h
              · rw [h]; exact .undef _ _
              · have := List.all_eq_true.1 hc5 _ h
                rcases Bool.or_eq_true_iff.1 this with h2 | h2
                · exfalso
                  obtain ⟨j', hj', hji, hdj'⟩ := forbS_mem ((memN_iff _ _).1 h2)
                  have := ok.one j' j t hj' hj hdj' hdj
                  subst this
                  rcases hji with hji | hji
                  · subst hji; exact hd hdj
                  · have := closed_B ok hclo j' hj (hclo j' hj hb) i hji
                    rw [hun] at this
                    cases this
                · exact okB_ok 30 _ h2
            · rw [doneK_no fun j hj hb hdj => h ⟨j, hj, hb, hdj⟩]
              rcases Kn.get_mem (K := K) (t := t) with h | h
              · rw [h]; exact .undef _ _
              · exact okB_ok 30 _ (List.all_eq_true.1 hc6 _ h))
        exact ⟨ι2, hin2, hclo', hst'⟩
    · cases hc
  · -- the start
    refine ⟨ι, ?_, fun i hi h => ?_, ?_⟩
    · have h0 : Ls.filter (getB (List.replicate bs.length false)) = [] := by
        rw [List.filter_eq_nil_iff]
        intro i _
        have : getB (List.replicate bs.length false) i = false := by
          unfold getB
          rw [List.getD_eq_getElem?_getD, List.getElem?_replicate]
          split <;> rfl
        rw [this]
        simp
      rw [h0, htab]
      have hd := hin.drewW
      refine ⟨hd.size, hd.defers, ⟨hd.st.ext, hd.st.inj, hd.st.rel.up htop, hd.st.lv⟩, Nat.le_trans hd.le htop, fun t => ?_⟩
      rw [doneK_no fun i hi hb _ => ?_]
      · exact hd.kn t
      · have : getB (List.replicate bs.length false) i = false := by
          unfold getB
          rw [List.getD_eq_getElem?_getD, List.getElem?_replicate]
          split <;> rfl
        rw [this] at hb
        cases hb
    · have : getB (List.replicate bs.length false) i = false := by
        unfold getB
        rw [List.getD_eq_getElem?_getD, List.getElem?_replicate]
        split <;> rfl
      rw [this] at h
      cases h
    · have h0 : Ls.filter (getB (List.replicate bs.length false)) = [] := by
        rw [List.filter_eq_nil_iff]
        intro i _
        have : getB (List.replicate bs.length false) i = false := by
          unfold getB
          rw [List.getD_eq_getElem?_getD, List.getElem?_replicate]
          split <;> rfl
        rw [this]
        simp
      rw [h0]
      exact ok.st0

theorem drawX_ok {call : CallX} (hs : call.Sound P) {nt : Nat} {w0 : World} {L : Nat → Prop} {ι0 : Inj} {H0 : AH} {B : Nat} (base : RelH w0 L ι0 H0 B) {id : Nat} {ops : Array Oper} {bs : List AOper} (hlen : bs.length = ops.size)
    (hrel : ∀ (i : Nat) (o : Oper) (ao : AOper), ops.toList[i]? = some o → bs[i]? = some ao → OpRel P nt ops o ao) (hfol : P.follows .mixedOrders = true)
    {K : Kn} {H : AH} {nx : Nat} {w : World} {ι : Inj} {a : Act} (hin : In nt w0 L ι0 H0 B w ι K.get H nx a) {r : Kn × AH × Nat} (h : drawX P call bs (ops.toList.map depsOf) K H nx = some r) {Q : QT} (hq : Q .normal r.1 r.2.1 r.2.2) :
    (Code.region id ops true).wp P (QQ nt w0 L ι0 H0 B Q) a w := by
  unfold drawX at h
  split at h
  · rename_i vs rs top _
    split at h
    · rename_i tab htab
      unfold drawR at h
      generalize hb : (Nat.ble nx top && _) = b at h
      cases b with
      | false => cases h
      | true =>
        simp only [cond_true, Option.some.injEq] at h
        subst h
        simp only [Bool.and_eq_true] at hb
        obtain ⟨h1, h3, h5, h4⟩ := hb
        refine DX.sound hs base hlen hrel hfol (bleT h1) rfl ⟨dok_of h3 h5, fun e he => List.all_eq_true.1 h4 e he, fun i hi => ?_, fun i hi hni => ?_⟩ hin hq
        · have := (List.mem_filter.1 hi).2
          simpa using this
        · cases hf : (bs.getD i default).fixed with
          | true => rfl
          | false => exact (hni (List.mem_filter.2 ⟨List.mem_range.2 hi, by rw [hf]; rfl⟩)).elim
    · cases h
  · cases h

end
end Go.Ab

namespace Go.Ab
open Go.RowKit

/-! ### Rows that nothing names -/

/-- The rows from nx on that a value names. -/
def rowsOfV (nx : Nat) : Nat → AV → List Nat
  | 0, _ => []
  | d + 1, v => match v with
    | .own r _ _ _ _ => bif Nat.blt r nx then [] else [r]
    | .ptr r _ _ _ _ => bif Nat.blt r nx then [] else [r]
    | .mp r => bif Nat.blt r nx then [] else [r]
    | .it r => bif Nat.blt r nx then [] else [r]
    | .agg l => l.flatMap (rowsOfV nx d)
    | .tup l => l.flatMap (rowsOfV nx d)
    | .fn _ l => l.flatMap (rowsOfV nx d)
    | _ => []

def rowsOfC (nx : Nat) : List AV → List Nat → List Nat
  | [], acc => acc
  | v :: t, acc => match v with
    | .int _ _ => rowsOfC nx t acc
    | .sl _ _ _ => rowsOfC nx t acc
    | .nilsl => rowsOfC nx t acc
    | v => rowsOfC nx t (rowsOfV nx 30 v ++ acc)

def rowsOfE (nx : Nat) : List (List AV) → List Nat → List Nat
  | [], acc => acc
  | c :: t, acc => rowsOfE nx t (rowsOfC nx c acc)

def rowsOfO (nx : Nat) : Option AObj → List Nat → List Nat
  | some (.row _ els _), acc => rowsOfE nx els acc
  | some (.fam _ ins), acc => ins.foldl (fun acc p => rowsOfE nx p.1 acc) acc
  | none, acc => acc

/-- All rows from nx on that can be come by, as a mask. -/
def reachX (nx : Nat) (H : AH) : Nat → List Nat → Nat → Nat
  | 0, _, seen => seen
  | _ + 1, [], seen => seen
  | n + 1, r :: todo, seen => bif Nat.testBit seen r then reachX nx H n todo seen else reachX nx H n (rowsOfO nx (H.look r) todo) (Nat.lor seen (Nat.shiftLeft 1 r))

/-- What the old rows name. -/
def oldR (nx : Nat) : AH → List Nat → List Nat
  | [], acc => acc
  | (r, o) :: t, acc => bif Nat.blt r nx then oldR nx t (rowsOfO nx (some o) acc) else oldR nx t acc

def keepR (nx : Nat) (v : AV) (H : AH) : Nat := reachX nx H 3000 (oldR nx H (rowsOfV nx 30 v)) 0

def AH.keepM (nx m : Nat) : AH → AH
  | [] => []
  | (r, o) :: t => bif Nat.blt r nx || Nat.testBit m r then (r, o) :: AH.keepM nx m t else AH.keepM nx m t

theorem AH.look_keepM (nx m : Nat) (H : AH) (r : Nat) : (H.keepM nx m).look r = bif Nat.blt r nx || Nat.testBit m r then H.look r else none := by
  induction H with
  | nil => simp only [AH.keepM, AH.look]; cases (Nat.blt r nx || Nat.testBit m r) <;> rfl
  | cons p t ih =>
    obtain ⟨j, o⟩ := p
    simp only [AH.keepM]
    cases hm : (Nat.blt j nx || Nat.testBit m j) with
    | true =>
      simp only [cond_true, AH.look, ih]
      cases hb : Nat.beq j r with
      | true => rw [← beq_true hb, hm]; rfl
      | false => rfl
    | false =>
      simp only [cond_false, ih, AH.look]
      cases hb : Nat.beq j r with
      | true => rw [← beq_true hb, hm]; rfl
      | false => rfl

theorem AH.get_keepM (nx m : Nat) (H : AH) (r q : Nat) : (H.keepM nx m).get r q = bif Nat.blt r nx || Nat.testBit m r then H.get r q else none := by
  unfold AH.get
  rw [AH.look_keepM]
  cases (Nat.blt r nx || Nat.testBit m r) <;> rfl

/-- Rows that nothing names are dropped, if many have come. -/
def gcH (nx : Nat) (v : AV) (H : AH) (nx' : Nat) : AH := bif Nat.ble nx' (nx + 4) then H else H.keepM nx (keepR nx v H)

theorem gcH_get {nx : Nat} {v : AV} {H : AH} {nx' r q : Nat} {o : AObj} (h : (gcH nx v H nx').get r q = some o) : H.get r q = some o := by
  unfold gcH at h
  cases hb : Nat.ble nx' (nx + 4) with
  | true => rw [hb] at h; exact h
  | false =>
    rw [hb] at h
    simp only [cond_false, AH.get_keepM] at h
    cases hm : (Nat.blt r nx || Nat.testBit (keepR nx v H) r) with
    | true => rw [hm] at h; exact h
    | false => rw [hm] at h; cases h
theorem gcH_look {nx : Nat} {v : AV} {H : AH} {nx' r : Nat} {o : AObj} (h : (gcH nx v H nx').look r = some o) : H.look r = some o := by
  unfold gcH at h
  cases hb : Nat.ble nx' (nx + 4) with
  | true => rw [hb] at h; exact h
  | false =>
    rw [hb] at h
    simp only [cond_false, AH.look_keepM] at h
    cases hm : (Nat.blt r nx || Nat.testBit (keepR nx v H) r) with
    | true => rw [hm] at h; exact h
    | false => rw [hm] at h; cases h

section
variable {P : Program}

theorem RelH.sub {w : World} {L : Nat → Prop} {ι : Inj} {H H' : AH} {nx : Nat} (rel : RelH w L ι H nx) (hg : ∀ r q o, H'.get r q = some o → H.get r q = some o) (hd : ∀ r o, H'.look r = some o → r < nx) :
    (∀ b, live ι H' b → live ι H b) ∧ RelH w L ι H' nx := by
  have hl : ∀ b, live ι H' b → live ι H b := fun b ⟨r, q, sz, els, g, l, h1, h2, h3, h4⟩ => ⟨r, q, sz, els, g, l, hg _ _ _ h1, h2, h3, h4⟩
  have hLt : ∀ b, Lt L ι H' b → Lt L ι H b := fun b h => h.elim .inl fun h => .inr (hl b h)
  refine ⟨hl, fun r q sz els g h => ?_, fun r1 q1 r2 q2 s1 e1 g1 l1 s2 e2 g2 l2 h1 h2 => rel.apart _ _ _ _ _ _ _ _ _ _ _ _ (hg _ _ _ h1) (hg _ _ _ h2), fun b hb => rel.out b (hl b hb), rel.idx, hd, fun r q sz els g h => rel.gen _ _ _ _ _ (hg _ _ _ h), rel.Lsz⟩
  obtain ⟨l, h1, ok⟩ := rel.row _ _ _ _ _ (hg _ _ _ h)
  exact ⟨l, h1, ok.trans (fun _ => rfl) fun v a hv => hv.anti hLt⟩

theorem call_gc {f : FuncId} {args : List AV} {H : AH} {nx : Nat} {k : AV → AH → Nat → Prop} (h : CallOk P f args H nx (fun v H' nx' => k v (gcH nx v H' nx') nx')) : CallOk P f args H nx k := by
  intro w L ι vs h1 h2
  refine (h w L ι vs h1 h2).mono fun e w' ⟨v, ι', H', nx', a, h3, h4, h5, h6, h7⟩ => ?_
  obtain ⟨hl, hr⟩ := h4.rel.sub (fun r q o h => gcH_get h) (fun r o h => h4.rel.dom r o (gcH_look h))
  exact ⟨v, ι', _, nx', a, h3, ⟨h4.ext, h4.inj, hr, fun b hb => h4.lv b (hl b hb)⟩, h5, h6.anti fun b hb => hb.elim .inl fun hb => .inr (hl b hb), h7⟩

/-! ### The run -/

def callW (P : Program) (qf : FuncId → Nat → List Nat) (orc : CallX) (ex : Nat → (Nat → List Nat) → Code → Kn → AH → Nat → Option Out) : CallX := fun f args H nx =>
  match orc f args H nx with
  | some r => some r
  | none => match P.funcs[f]? with
    | some fn => match fn.body with
      | some c => match fn.results.toList.mapM (cret P) with
        | some rs => bif Nat.ble args.length fn.ntmps then
            match ex fn.ntmps (qf f) c (argsK 0 args) H nx with
            | some (e, K, H', nx') => match e with
              | .exit _ => none
              | .goto _ => none
              | _ => bif retS K H' rs then some (retOf (retVals K H' nx' rs), gcH nx (retOf (retVals K H' nx' rs)) H' nx', nx') else none
            | none => none
          else none
        | none => none
      | none => none
    | none => none

/-- What is known of the slots of a mask (each once). -/
def keepA : Nat → Kn → Kn
  | _, [] => []
  | m, (j, v) :: t => bif Nat.testBit m j then (j, v) :: keepA (Nat.xor m (Nat.shiftLeft 1 j)) t else keepA m t

theorem bit_flip {m j i : Nat} : Nat.testBit (Nat.xor m (Nat.shiftLeft 1 j)) i = (Nat.testBit m i ^^ Nat.beq j i) := by
  have h : Nat.shiftLeft 1 j = 2 ^ j := by
    show 1 <<< j = 2 ^ j
    rw [Nat.shiftLeft_eq, Nat.one_mul]
  rw [h]
  have h2 : Nat.xor m (2 ^ j) = m ^^^ 2 ^ j := rfl
  rw [h2, Nat.testBit_xor, Nat.testBit_two_pow]
  congr 1
  cases hb : Nat.beq j i with
  | true => exact decide_eq_true (beq_true hb)
  | false => exact decide_eq_false fun e => by rw [e, beq_refl'] at hb; cases hb

theorem keepA_get : ∀ (K : Kn) (m : Nat) (i : Nat), (keepA m K).get i = bif Nat.testBit m i then K.get i else .undef
  | [], m, i => by simp only [keepA, Kn.get]; cases Nat.testBit m i <;> rfl
  | (j, v) :: t, m, i => by
    unfold keepA
    cases hj : Nat.testBit m j with
    | true =>
      simp only [cond_true, Kn.get]
      cases hji : Nat.beq j i with
      | true =>
        rw [← beq_true hji, hj]
        rfl
      | false =>
        simp only [cond_false]
        rw [keepA_get t, bit_flip, hji, Bool.xor_false]
    | false =>
      simp only [cond_false, Kn.get]
      rw [keepA_get t]
      cases hji : Nat.beq j i with
      | true => rw [← beq_true hji, hj]; rfl
      | false => rfl

/-- A list of one number: a mask. -/
def mask1 : List Nat → Nat
  | m :: _ => m
  | [] => 0

/-! ### Operations, taken apart once -/

def outR (r : ORes) : AV × AH × Nat := (r.v, r.H, r.nx)

def bodyS (P : Program) (call : CallX) (op : AOp) (ρ : Nat → AV) (H : AH) (nx : Nat) : Option (AV × AH × Nat) :=
  match op with
  | .mov x => some (ev ρ x, H, nx)
  | .load g n p => bif loadS n (ev ρ p) H then some (outR (loadR g n (ev ρ p) H nx)) else none
  | .store n p v => bif storeS n (ev ρ p) (ev ρ v) H then some (outR (storeR n (ev ρ p) (ev ρ v) H nx)) else none
  | .idx sz x i => bif idxS sz (ev ρ x) (ev ρ i) H then some (outR (idxR sz (ev ρ x) (ev ρ i) H nx)) else none
  | .fldaddr off n x => bif fldaddrS off n (ev ρ x) then some (outR (fldaddrR off n (ev ρ x) H nx)) else none
  | .fld off n g x => bif fldS off n (ev ρ x) then some (outR (fldR off n g (ev ρ x) H nx)) else none
  | .len x => bif lenS (ev ρ x) then some (outR (lenR (ev ρ x) H nx)) else none
  | .bin o x y => bif binS o (ev ρ x) (ev ρ y) then some (outR (binI o (ev ρ x) (ev ρ y) H nx)) else none
  | .un o x => bif unS o (ev ρ x) then some (outR (unR o (ev ρ x) H nx)) else none
  | .pick c a b => bif pickS (ev ρ c) then some (outR (pickR (ev ρ c) (ev ρ a) (ev ρ b) H nx)) else none
  | .append sz bytes x y => bif appendS sz bytes (ev ρ x) (ev ρ y) H then some (outR (appendR sz bytes (ev ρ x) (ev ρ y) H nx)) else none
  | .ext i x => bif extS i (ev ρ x) then some (outR (extR i (ev ρ x) H nx)) else none
  | op => bodyX P call op ρ H nx

theorem bodyS_eq {P : Program} {call : CallX} {op : AOp} {ρ : Nat → AV} {H : AH} {nx : Nat} : bodyS P call op ρ H nx = bodyX P call op ρ H nx := by
  cases op <;> rfl

def valS (P : Program) (call : CallX) (o : AOper) (ρ : Nat → AV) (H : AH) (nx : Nat) : Option (AV × AH × Nat) :=
  match o.guard with
  | none => bodyS P call o.op ρ H nx
  | some (t, want) => match grd want (ρ t) with
    | some true => bodyS P call o.op ρ H nx
    | some false => some (.tup [], H, nx)
    | none => none

theorem valS_eq {P : Program} {call : CallX} {o : AOper} {ρ : Nat → AV} {H : AH} {nx : Nat} : valS P call o ρ H nx = valX P call o ρ H nx := by
  unfold valS valX
  simp only [bodyS_eq] <;> rcases o.guard with _ | ⟨t, want⟩ <;> first | rfl | (rcases hg : grd want (ρ t) with _ | (_ | _) <;> simp only [hg])

def pushO (K : Kn) : Option Nat → AV → Kn
  | none, _ => K
  | some d, v => (d, v) :: K

theorem pushO_get {K1 K : Kn} (h : K.get = K1.get) (d : Option Nat) (v : AV) : (setO K d v).get = (pushO K1 d v).get := by
  cases d with
  | none => exact h
  | some d =>
    funext i
    simp only [setO, pushO, Kn.get_set, Kn.get]
    by_cases hi : i = d
    · rw [if_pos hi, hi, beq_refl']; rfl
    · rw [if_neg hi, beq_ne (Ne.symm hi), h]; rfl

def opsP (P : Program) (call : CallX) : List AOper → Kn → AH → Nat → Option St3
  | [], K, H, nx => some (K, H, nx)
  | o :: os, K, H, nx => match valS P call o K.get H nx with
    | some (v, H', nx') => opsP P call os (pushO K o.dst v) H' nx'
    | none => none

def treeP (P : Program) (call : CallX) : DTree → Kn → AH → Nat → Option St3
  | .done, K, H, nx => some (K, H, nx)
  | .stop, _, _, _ => none
  | .step o t, K, H, nx => match valS P call o K.get H nx with
    | some (v, H', nx') => treeP P call t (pushO K o.dst v) H' nx'
    | none => none
  | .alt o t .stop, K, H, nx => match valS P call o K.get H nx with
    | some (v, H', nx') => treeP P call t (pushO K o.dst v) H' nx'
    | none => none
  | .alt _ _ _, _, _, _ => none

theorem oneX_val {call : CallX} {o : AOper} {K K1 : Kn} (hk : K.get = K1.get) {H : AH} {nx : Nat} {v : AV} {H' : AH} {nx' : Nat} (h : valS P call o K1.get H nx = some (v, H', nx')) : oneX P call o K H nx = some (setO K o.dst v, H', nx') := by
  rw [valS_eq] at h
  unfold valX at h
  unfold oneX
  rw [hk]
  cases hg : o.guard with
  | none =>
    rw [hg] at h
    simp only at h ⊢
    rw [h]
  | some p =>
    obtain ⟨t, want⟩ := p
    rw [hg] at h
    simp only at h ⊢
    split at h
    · rename_i e
      simp only [e, h]
    · rename_i e
      cases h
      simp only [e]
    · cases h

theorem opsP_ok {call : CallX} : ∀ {os : List AOper} {K1 K : Kn} {H : AH} {nx : Nat} {r : St3}, opsP P call os K1 H nx = some r → K.get = K1.get → ∃ K', opsX' P call os K H nx = some (K', r.2) ∧ K'.get = r.1.get
  | [], K1, K, H, nx, r, h, hk => by
    cases h
    exact ⟨K, rfl, hk⟩
  | o :: os, K1, K, H, nx, r, h, hk => by
    simp only [opsP] at h
    split at h
    · rename_i v H' nx' e
      obtain ⟨K', h1, h2⟩ := opsP_ok h (pushO_get hk o.dst v)
      refine ⟨K', ?_, h2⟩
      simp only [opsX', oneX_val hk e]
      exact h1
    · cases h

theorem treeP_ok {call : CallX} : ∀ {t : DTree} {K1 K : Kn} {H : AH} {nx : Nat} {r : St3}, treeP P call t K1 H nx = some r → K.get = K1.get → ∃ K', treeX' P call t K H nx = some (K', r.2) ∧ K'.get = r.1.get
  | .done, K1, K, H, nx, r, h, hk => by
    cases h
    exact ⟨K, rfl, hk⟩
  | .stop, _, _, _, _, _, h, _ => by cases h
  | .step o t, K1, K, H, nx, r, h, hk => by
    simp only [treeP] at h
    split at h
    · rename_i v H' nx' e
      obtain ⟨K', h1, h2⟩ := treeP_ok h (pushO_get hk o.dst v)
      refine ⟨K', ?_, h2⟩
      simp only [treeX', oneX_val hk e]
      exact h1
    · cases h
  | .alt o t .stop, K1, K, H, nx, r, h, hk => by
    simp only [treeP] at h
    split at h
    · rename_i v H' nx' e
      obtain ⟨K', h1, h2⟩ := treeP_ok h (pushO_get hk o.dst v)
      refine ⟨K', ?_, h2⟩
      simp only [treeX', oneX_val hk e]
      exact h1
    · cases h
  | .alt _ _ .done, _, _, _, _, _, h, _ => by cases h
  | .alt _ _ (.step _ _), _, _, _, _, _, h, _ => by cases h
  | .alt _ _ (.alt _ _ _), _, _, _, _, _, h, _ => by cases h

def outK (l : Nat) : Option St3 → Option Out
  | some (K, H, nx) => some (.normal, keepA l K, H, nx)
  | none => none

def regX (P : Program) (call : CallX) (nt : Nat) (q : Nat → List Nat) (id : Nat) (ops : Array Oper) (draw : Bool) (K : Kn) (H : AH) (nx : Nat) : Option Out :=
  match ops.toList.mapM (coper P nt ops) with
  | none => none
  | some as' => bif draw then
      (bif P.follows .mixedOrders && (List.range ops.size).all (fun j => ((ops.toList.map depsOf).getD j []).all fun i => Nat.blt i j) then
        match treeP P call (mkTree ((quietAt (q id) 0 as').map (AOper.ro (q 999999))) (ops.toList.map depsOf) ops.size (List.replicate ops.size false)) K H nx with
        | some r => outK (mask1 (q 999998)) (some r)
        | none => outK (mask1 (q 999998)) (drawX P call ((quietAt (q id) 0 as').map (AOper.ro (q 999999))) (ops.toList.map depsOf) K H nx)
      else none)
    else outK (mask1 (q 999998)) (opsP P call (as'.map (AOper.ro (q 999999))) K H nx)

/-- Rounds from a label on. -/
def jumpC (l : Nat) (ex : Kn → AH → Nat → Option Out) : Nat → Option Out → Option Out
  | 0, _ => none
  | m + 1, r => match r with
    | some (.goto l', K, H, nx) => bif Nat.beq l' l then jumpC l ex m (ex K H nx) else none
    | r => r

def execC (P : Program) (qf : FuncId → Nat → List Nat) (orc : CallX) : Nat → Nat → (Nat → List Nat) → Code → Kn → AH → Nat → Option Out
  | 0, _, _, _, _, _, _ => none
  | n + 1, nt, q, c, K, H, nx => match c with
    | .skip => some (.normal, K, H, nx)
    | .region id ops draw => regX P (callW P qf orc (execC P qf orc n)) nt q id ops draw K H nx
    | .seq a b => match execC P qf orc n nt q a K H nx with
      | some (.normal, K', H', nx') => execC P qf orc n nt q b K' H' nx'
      | r => r
    | .cond c a b => match copd c with
      | some x => match ev K.get x with
        | .bool true => execC P qf orc n nt q a K H nx
        | .bool false => execC P qf orc n nt q b K H nx
        | _ => none
      | none => none
    | .block id c => match execC P qf orc n nt q c K H nx with
      | some (.exit j, K', H', nx') => bif Nat.beq j id then some (.normal, K', H', nx') else some (.exit j, K', H', nx')
      | r => r
    | .loop c => match execC P qf orc n nt q c K H nx with
      | some (.normal, K', H', nx') => execC P qf orc n nt q (.loop c) K' H' nx'
      | r => r
    | .exit id => some (.exit id, K, H, nx)
    | .ret => some (.ret, K, H, nx)
    | .scope c => match execC P qf orc n nt q c K H nx with
      | some (.goto l, K', H', nx') => match findLabel c l with
        | some rest => jumpC l (execC P qf orc n nt q rest) n (execC P qf orc n nt q rest K' H' nx')
        | none => none
      | r => r
    | .label _ => some (.normal, K, H, nx)
    | .goto l => some (.goto l, K, H, nx)
    | _ => none

/-! ### It is sound -/

variable {qf : FuncId → Nat → List Nat} {orc : CallX}

def RunC (P : Program) (qf : FuncId → Nat → List Nat) (orc : CallX) (n : Nat) : Prop :=
  ∀ (nt : Nat) (L : Nat → Prop) (w0 : World) (ι0 : Inj) (H0 : AH) (B : Nat), RelH w0 L ι0 H0 B → ∀ (q : Nat → List Nat) (c : Code) (w : World) (ι : Inj) (K : Kn) (H : AH) (nx : Nat) (a : Act) (r : Out),
    In nt w0 L ι0 H0 B w ι K.get H nx a → execC P qf orc n nt q c K H nx = some r → c.wp P (QQ nt w0 L ι0 H0 B (QX r)) a w

def LoopRunC (P : Program) (qf : FuncId → Nat → List Nat) (orc : CallX) (n : Nat) : Prop :=
  ∀ (nt : Nat) (L : Nat → Prop) (w0 : World) (ι0 : Inj) (H0 : AH) (B : Nat), RelH w0 L ι0 H0 B → ∀ (q : Nat → List Nat) (c : Code) (w : World) (ι : Inj) (K : Kn) (H : AH) (nx : Nat) (a : Act) (r : Out),
    In nt w0 L ι0 H0 B w ι K.get H nx a → execC P qf orc n nt q (.loop c) K H nx = some r → Code.rounds P c (QQ nt w0 L ι0 H0 B (QX r)) n a w

theorem fn_runC {f : FuncId} {fn : Func} {c : Code} {rs : List ARet} (hf : P.funcs[f]? = some fn) (hb : fn.body = some c) (hr : fn.results.toList.mapM (cret P) = some rs) {args : List AV} {H : AH} {nx : Nat} {Post : AV → AH → Nat → Prop} (hn : args.length ≤ fn.ntmps)
    (h : ∀ (w : World) (L : Nat → Prop) (ι : Inj) (a : Act), RelH w L ι H nx → In fn.ntmps w L ι H nx w ι (argsK 0 args).get H nx a → c.wp P (QQ fn.ntmps w L ι H nx (retK rs Post)) a w) : CallOk P f args H nx Post := by
  intro w L ι vs rel hv
  have hlen : vs.size = args.length := by simpa using hv.length
  refine calls_of_wp hf hb ?_
  have hin : In fn.ntmps w L ι H nx w ι (argsK 0 args).get H nx { tmps := vs ++ Array.replicate (fn.ntmps - vs.size) undef, defers := [] } := by
    refine ⟨by simp; omega, rfl, .refl rel, Nat.le_refl _, fun i => ?_⟩
    rw [argsK_get, if_pos (Nat.zero_le _), Nat.sub_zero]
    rcases Nat.lt_or_ge i args.length with hi | hi
    · have h1 : i < vs.size := by omega
      refine hv.get i _ _ ?_ (by simp [List.getD, List.getElem?_eq_getElem hi])
      simp [Array.getD_eq_getD_getElem?, Array.getElem?_append, h1]
    · rw [show args.getD i .undef = .undef by simp [List.getD, List.getElem?_eq_none hi]]
      exact .undef _ _
  refine wp_mono (h w L ι _ rel hin) fun e a' w' ⟨ι', K, H', nx', hin', hq⟩ => ?_
  have fin : retSide K H' nx' rs ∧ Post (retOf (retVals K H' nx' rs)) H' nx' → a'.defers = [] ∧ ∃ v, (results fn a'.tmps).run P w' = .ok v w' ∧ ∃ v_1 ι' H' nx' a, Ending.returned v = .returned v_1 ∧ Step w L ι H nx w' ι' H' nx' ∧ nx ≤ nx' ∧ VR w' (Lt L ι' H') ι' v_1 a ∧ Post a H' nx' := by
    intro ⟨h1, h2⟩
    obtain ⟨us, h3, h4⟩ := ret_ok hin'.st.rel hin'.kn _ _ hr h1
    obtain ⟨v, h5, h6⟩ := results_ok h3 h4
    exact ⟨hin'.defers, v, h5, v, ι', H', nx', _, rfl, hin'.st, hin'.le, h6, h2⟩
  cases e with
  | normal => exact fin hq
  | ret => exact fin hq
  | exit id => exact hq.elim
  | _ => exact hq.elim

theorem callW_sound (ho : orc.Sound P) {n : Nat} (hr : RunC P qf orc n) : (callW P qf orc (execC P qf orc n)).Sound P := by
  intro f args H nx r h
  unfold callW at h
  split at h
  · rename_i r' e
    cases h
    exact ho f args H nx _ e
  · split at h
    · rename_i fn hf
      split at h
      · rename_i c hb
        split at h
        · rename_i rs hrs
          cases hble : Nat.ble args.length fn.ntmps with
          | false => rw [hble] at h; cases h
          | true =>
            rw [hble] at h
            simp only [cond_true] at h
            split at h
            · rename_i e K H' nx' he
              have key : (∀ id, e ≠ .exit id) → (∀ l, e ≠ .goto l) → (bif retS K H' rs then some (retOf (retVals K H' nx' rs), gcH nx (retOf (retVals K H' nx' rs)) H' nx', nx') else none) = some r → CallOk P f args H nx (fun v H' nx' => (v, H', nx') = r) := by
                intro hne hng h
                cases hs : retS K H' rs with
                | false => rw [hs] at h; cases h
                | true =>
                  rw [hs] at h
                  simp only [cond_true, Option.some.injEq] at h
                  subst h
                  refine call_gc (fn_runC hf hb hrs (bleT hble) fun w L ι a rel hin => ?_)
                  refine wp_mono (hr fn.ntmps L w ι H nx rel (qf f) c w ι _ H nx a _ hin he) fun e' a' w' ⟨ι', K', H2, nx2, hin', hq⟩ => ⟨ι', K', H2, nx2, hin', ?_⟩
                  have hk : retK rs (fun v H'' nx'' => (v, gcH nx v H'' nx'', nx'') = (retOf (retVals K H' nx' rs), gcH nx (retOf (retVals K H' nx' rs)) H' nx', nx')) e K H' nx' := by
                    cases e with
                    | exit id => exact absurd rfl (hne id)
                    | goto l => exact absurd rfl (hng l)
                    | normal => exact ⟨retS_ok hs, rfl⟩
                    | ret => exact ⟨retS_ok hs, rfl⟩
                  cases e' with
                  | normal => cases hq; exact hk
                  | exit id => cases hq; exact absurd rfl (hne id)
                  | ret => cases hq; exact hk
                  | goto l => cases hq; exact absurd rfl (hng l)
                  | _ => exact hq.elim
              cases e with
              | exit id => cases h
              | goto l => cases h
              | normal => exact key (by intro id e; cases e) (by intro id e; cases e) h
              | ret => exact key (by intro id e; cases e) (by intro id e; cases e) h
            · cases h
        · cases h
      · cases h
    · cases h

theorem Kn.drop_nil : ∀ K : Kn, K.drop [] = K
  | [] => rfl
  | (j, v) :: t => by
    show (j, v) :: Kn.drop t [] = (j, v) :: t
    rw [Kn.drop_nil t]

theorem outK_eq {l : Nat} {r : Option St3} {o : Out} (h : outK l r = some o) : ∃ s, r = some s ∧ o = (.normal, keepA l s.1, s.2.1, s.2.2) := by
  cases r with
  | none => cases h
  | some s => obtain ⟨K, H, nx⟩ := s; cases h; exact ⟨_, rfl, rfl⟩

/-- Less may be known. -/
theorem In.less {nt : Nat} {w0 : World} {L : Nat → Prop} {ι0 : Inj} {H0 : AH} {B : Nat} {w : World} {ι : Inj} {ρ ρ2 : Nat → AV} {H : AH} {nx : Nat} {a : Act} (h : In nt w0 L ι0 H0 B w ι ρ H nx a) (hr : ∀ i, ρ2 i = .undef ∨ ρ2 i = ρ i) : In nt w0 L ι0 H0 B w ι ρ2 H nx a :=
  ⟨h.size, h.defers, h.st, h.le, fun i => by rcases hr i with e | e <;> rw [e]; exact .undef _ _; exact h.kn i⟩

theorem keepA_less {l : Nat} {K K' : Kn} (h : K'.get = K.get) (i : Nat) : (keepA l K).get i = .undef ∨ (keepA l K).get i = K'.get i := by
  rw [keepA_get, h]
  cases Nat.testBit l i
  · exact .inl rfl
  · exact .inr rfl

theorem wp_keep {c : Code} {nt : Nat} {w0 : World} {L : Nat → Prop} {ι0 : Inj} {H0 : AH} {B : Nat} {l : Nat} {K K' : Kn} {H : AH} {nx : Nat} {a : Act} {w : World} (hk : K'.get = K.get)
    (h : c.wp P (QQ nt w0 L ι0 H0 B (QX (.normal, K', H, nx))) a w) : c.wp P (QQ nt w0 L ι0 H0 B (QX (.normal, keepA l K, H, nx))) a w := by
  refine wp_mono h fun e' a' w' ⟨ι', K1, H1, nx1, hin', hq⟩ => ?_
  cases e' with
  | normal => cases hq; exact ⟨ι', keepA l K, _, _, hin'.less (keepA_less hk), rfl⟩
  | exit id => cases hq
  | ret => cases hq
  | goto l => cases hq
  | _ => exact hq.elim

theorem regX_ok {call : CallX} (hs : call.Sound P) {nt : Nat} {w0 : World} {L : Nat → Prop} {ι0 : Inj} {H0 : AH} {B : Nat} (base : RelH w0 L ι0 H0 B) {q : Nat → List Nat} {id : Nat} {ops : Array Oper} {draw : Bool} {K : Kn} {H : AH} {nx : Nat} {w : World} {ι : Inj} {a : Act} {r : Out}
    (hin : In nt w0 L ι0 H0 B w ι K.get H nx a) (h : regX P call nt q id ops draw K H nx = some r) : (Code.region id ops draw).wp P (QQ nt w0 L ι0 H0 B (QX r)) a w := by
  unfold regX at h
  split at h
  · cases h
  · rename_i as' hm
    obtain ⟨h1, h2⟩ := mapM_rel hm
    cases draw with
    | false =>
      simp only [cond_false] at h
      obtain ⟨s, e0, rfl⟩ := outK_eq h
      obtain ⟨K', e, hk⟩ := opsP_ok e0 rfl
      refine wp_keep hk ?_
      refine wp_region_list (aops_sound _ _ (by simpa using h1) (fun i o ao h3 h4 => ?_) hin (opsX'_ok (drop := []) hs e ?_))
      · rw [List.getElem?_map] at h4
        obtain ⟨b, h5, rfl⟩ := Option.map_eq_some_iff.1 h4
        exact (h2 i o b h3 h5).ro
      · have : K'.drop [] = K' := Kn.drop_nil _
        rw [this]
        rfl
    | true =>
      simp only [cond_true] at h
      generalize hg : (P.follows .mixedOrders && _) = b at h
      cases b with
      | false => cases h
      | true =>
        simp only [Bool.and_eq_true] at hg
        simp only [cond_true] at h
        have hlen : ((quietAt (q id) 0 as').map (AOper.ro (q 999999))).length = ops.size := by rw [List.length_map, quietAt_length, h1]; simp
        have hrel : ∀ (i : Nat) (o : Oper) (ao : AOper), ops.toList[i]? = some o → ((quietAt (q id) 0 as').map (AOper.ro (q 999999)))[i]? = some ao → OpRel P nt ops o ao := fun i o ao h3 h4 => by
          rw [List.getElem?_map] at h4
          obtain ⟨b0, h40, rfl⟩ := Option.map_eq_some_iff.1 h4
          obtain ⟨b, h5, h6⟩ := quietAt_get _ _ _ _ _ h40
          rcases h6 with rfl | rfl
          · exact (h2 i o _ h3 h5).ro
          · exact (h2 i o _ h3 h5).quiet.ro
        split at h
        · rename_i s e0
          obtain ⟨s2, e', rfl⟩ := outK_eq h
          cases e'
          obtain ⟨K', e, hk⟩ := treeP_ok e0 rfl
          refine wp_keep hk ?_
          refine draw_sound nt w0 L ι0 H0 B id ops _ [] _ hlen hrel hg.1 hg.2 w ι K H nx a hin (treeX'_ok hs e ?_)
          rw [Kn.drop_nil]
          rfl
        · obtain ⟨s, e, rfl⟩ := outK_eq h
          exact wp_keep rfl (drawX_ok hs base hlen hrel hg.1 hin e rfl)

theorem runC_ok (ho : orc.Sound P) : ∀ n, RunC P qf orc n ∧ LoopRunC P qf orc n
  | 0 => ⟨fun _ _ _ _ _ _ _ _ _ _ _ _ _ _ _ _ _ h => (by cases h), fun _ _ _ _ _ _ _ _ _ _ _ _ _ _ _ _ _ h => (by cases h)⟩
  | n + 1 => by
    obtain ⟨ihR, ihL⟩ := runC_ok ho n
    have hcall := callW_sound ho ihR
    have loopStep : LoopRunC P qf orc (n + 1) := by
      intro nt L w0 ι0 H0 B base q c w ι K H nx a r hin h
      rw [rounds_succ]
      simp only [execC] at h
      split at h
      · rename_i K' H' nx' e
        refine wp_mono (ihR nt L w0 ι0 H0 B base q c w ι K H nx a _ hin e) fun e' a' w' ⟨ι', K1, H1, nx1, hin', hq⟩ => ?_
        cases e' with
        | normal => cases hq; exact ihL nt L w0 ι0 H0 B base q c w' ι' _ _ _ a' r hin' h
        | exit id => cases hq
        | ret => cases hq
        | goto l => cases hq
        | _ => exact hq.elim
      · rename_i r' hne
        refine wp_mono (ihR nt L w0 ι0 H0 B base q c w ι K H nx a r hin h) fun e' a' w' ⟨ι', K1, H1, nx1, hin', hq⟩ => ?_
        cases e' with
        | normal => cases hq; exact absurd h (hne K1 H1 nx1)
        | exit id => exact ⟨ι', K1, H1, nx1, hin', hq⟩
        | ret => exact ⟨ι', K1, H1, nx1, hin', hq⟩
        | goto l => exact ⟨ι', K1, H1, nx1, hin', hq⟩
        | _ => exact hq.elim
    refine ⟨?_, loopStep⟩
    intro nt L w0 ι0 H0 B base q c w ι K H nx a r hin h
    cases c with
    | skip => cases h; exact wp_skip ⟨ι, K, H, nx, hin, rfl⟩
    | label l => cases h; exact wp_label ⟨ι, K, H, nx, hin, rfl⟩
    | goto l => cases h; exact wp_goto ⟨ι, K, H, nx, hin, rfl⟩
    | exit id => cases h; exact wp_exit ⟨ι, K, H, nx, hin, rfl⟩
    | ret => cases h; exact wp_ret ⟨ι, K, H, nx, hin, rfl⟩
    | region id ops draw => exact regX_ok hcall base hin h
    | seq c1 c2 =>
      simp only [execC] at h
      split at h
      · rename_i K' H' nx' e
        refine wp_seq (wp_mono (ihR nt L w0 ι0 H0 B base q c1 w ι K H nx a _ hin e) fun e' a' w' ⟨ι', K1, H1, nx1, hin', hq⟩ => ?_)
        cases e' with
        | normal => cases hq; exact ihR nt L w0 ι0 H0 B base q c2 w' ι' _ _ _ a' r hin' h
        | exit id => cases hq
        | ret => cases hq
        | goto l => cases hq
        | _ => exact hq.elim
      · rename_i r' hne
        refine wp_seq (wp_mono (ihR nt L w0 ι0 H0 B base q c1 w ι K H nx a r hin h) fun e' a' w' ⟨ι', K1, H1, nx1, hin', hq⟩ => ?_)
        cases e' with
        | normal => cases hq; exact absurd h (hne K1 H1 nx1)
        | exit id => exact ⟨ι', K1, H1, nx1, hin', hq⟩
        | ret => exact ⟨ι', K1, H1, nx1, hin', hq⟩
        | goto l => exact ⟨ι', K1, H1, nx1, hin', hq⟩
        | _ => exact hq.elim
    | cond x1 c1 c2 =>
      simp only [execC] at h
      split at h
      · rename_i x' hx
        have hv := copd_ok hin.kn hx
        split at h
        · rename_i hev
          rw [hev] at hv
          generalize hu : a.eval x1 = u at hv
          cases hv
          exact wp_cond_true hu (ihR nt L w0 ι0 H0 B base q c1 w ι K H nx a r hin h)
        · rename_i hev
          rw [hev] at hv
          generalize hu : a.eval x1 = u at hv
          cases hv
          exact wp_cond_false hu (ihR nt L w0 ι0 H0 B base q c2 w ι K H nx a r hin h)
        · cases h
      · cases h
    | block id c1 =>
      simp only [execC] at h
      split at h
      · rename_i j K' H' nx' e
        refine wp_block (wp_mono (ihR nt L w0 ι0 H0 B base q c1 w ι K H nx a _ hin e) fun e' a' w' ⟨ι', K1, H1, nx1, hin', hq⟩ => ?_)
        cases e' with
        | normal => cases hq
        | exit j' =>
          cases hq
          simp only [Exit.inBlock]
          by_cases hj : j = id
          · subst hj
            rw [if_pos rfl]
            rw [beq_refl'] at h
            cases h
            exact ⟨ι', _, _, _, hin', rfl⟩
          · rw [if_neg hj]
            rw [beq_ne hj] at h
            cases h
            exact ⟨ι', _, _, _, hin', rfl⟩
        | ret => cases hq
        | goto l => cases hq
        | _ => exact hq.elim
      · rename_i r' hne
        refine wp_block (wp_mono (ihR nt L w0 ι0 H0 B base q c1 w ι K H nx a r hin h) fun e' a' w' ⟨ι', K1, H1, nx1, hin', hq⟩ => ?_)
        cases e' with
        | normal => exact ⟨ι', K1, H1, nx1, hin', hq⟩
        | exit j' => cases hq; exact absurd h (hne j' K1 H1 nx1)
        | ret => exact ⟨ι', K1, H1, nx1, hin', hq⟩
        | goto l => exact ⟨ι', K1, H1, nx1, hin', hq⟩
        | _ => exact hq.elim
    | loop c1 => exact wp_loop_rounds (n + 1) (loopStep nt L w0 ι0 H0 B base q c1 w ι K H nx a r hin h)
    | scope c1 =>
      simp only [execC] at h
      split at h
      · rename_i l K' H' nx' e
        split at h
        · rename_i rest hrest
          let G : Nat → Act → World → Prop := fun m a w => ∃ ι K H nx, In nt w0 L ι0 H0 B w ι (Kn.get K) H nx a ∧ jumpC l (execC P qf orc n nt q rest) m (execC P qf orc n nt q rest K H nx) = some r
          have jm : ∀ {Q : Exit → Act → World → Prop} {J J' : Act → World → Prop} {cz : Code} {a : Act} {w : World}, (∀ a w, J a w → J' a w) → cz.wp P (Exit.jump l J Q) a w → cz.wp P (Exit.jump l J' Q) a w := by
            intro Q J J' cz a w hJ h
            refine wp_mono h fun e' a' w' hq => ?_
            cases e' with
            | goto l' => exact ⟨hq.1, hJ _ _ hq.2⟩
            | _ => exact hq
          refine wp_scope_jumps l (fun a w => ∃ m, G m a w) (leastOf G) hrest ?_ ?_
          · refine wp_mono (ihR nt L w0 ι0 H0 B base q c1 w ι K H nx a _ hin e) fun e' a' w' ⟨ι', K1, H1, nx1, hin', hq⟩ => ?_
            cases e' with
            | goto l' => cases hq; exact ⟨rfl, n, ι', _, _, _, hin', h⟩
            | normal => cases hq
            | exit id => cases hq
            | ret => cases hq
            | _ => exact hq.elim
          · intro a' w' hJ
            obtain ⟨ι', K1, H1, nx1, hin', hex⟩ := leastOf_spec hJ
            cases hm0 : leastOf G a' w' with
            | zero => rw [hm0] at hex; cases hex
            | succ m =>
              rw [hm0] at hex
              cases hz : execC P qf orc n nt q rest K1 H1 nx1 with
              | none => rw [hz] at hex; cases hex
              | some o =>
                obtain ⟨e1, K2, H2, nx2⟩ := o
                refine jm (fun a2 w2 (h : G m a2 w2) => ⟨⟨_, h⟩, Nat.lt_succ_of_le (leastOf_le h)⟩) (wp_mono (ihR nt L w0 ι0 H0 B base q rest w' ι' K1 H1 nx1 a' _ hin' hz) fun e' a2 w2 ⟨ι2, K3, H3, nx3, hin2, hq⟩ => ?_)
                rw [hz] at hex
                cases e' with
                | goto l' =>
                  cases hq
                  simp only [jumpC] at hex
                  cases hb : Nat.beq l' l with
                  | false => rw [hb] at hex; cases hex
                  | true =>
                    rw [hb] at hex
                    exact ⟨beq_true hb, ι2, _, _, _, hin2, hex⟩
                | normal => cases hq; cases hex; exact ⟨ι2, _, _, _, hin2, rfl⟩
                | exit id => cases hq; cases hex; exact ⟨ι2, _, _, _, hin2, rfl⟩
                | ret => cases hq; cases hex; exact ⟨ι2, _, _, _, hin2, rfl⟩
                | _ => exact hq.elim
        · cases h
      · rename_i r' hne
        refine wp_scope_straight (wp_mono (ihR nt L w0 ι0 H0 B base q c1 w ι K H nx a r hin h) fun e' a' w' ⟨ι', K1, H1, nx1, hin', hq⟩ => ?_)
        cases e' with
        | normal => exact ⟨ι', K1, H1, nx1, hin', hq⟩
        | exit id => exact ⟨ι', K1, H1, nx1, hin', hq⟩
        | ret => exact ⟨ι', K1, H1, nx1, hin', hq⟩
        | goto l => cases hq; exact absurd h (hne l K1 H1 nx1)
        | _ => exact hq.elim
    | _ => cases h

/-- A CALL whose run has been computed. -/
theorem execC_call (ho : orc.Sound P) (n : Nat) {f : FuncId} {args : List AV} {H : AH} {nx : Nat} {r : AV × AH × Nat} (h : callW P qf orc (execC P qf orc n) f args H nx = some r) : CallOk P f args H nx (fun v H' nx' => (v, H', nx') = r) :=
  callW_sound ho (runC_ok ho n).1 f args H nx r h

def isBoolR (b : Bool) : Option (AV × AH × Nat) → Bool
  | some (.bool c, _, _) => c == b
  | _ => false

/-- A pure call of known values that answers with a truth value. -/
theorem execC_bool (ho : orc.Sound P) (n : Nat) {f : FuncId} {args : List AV} {b : Bool} (h : isBoolR b (callW P qf orc (execC P qf orc n) f args [] 0) = true) : PureFn P f args (· = .bool b) := by
  unfold isBoolR at h
  split at h
  · rename_i c H' nx' e
    have hb : c = b := by simpa using h
    subst hb
    exact (execC_call ho n e).mono fun v H1 nx1 he => by
      cases he
      exact ⟨_, .bool _ _, rfl⟩
  · cases h

/-- Which calls are loud, by regions; which slots are only read: a table by functions. -/
def qEx : List (Nat × List Nat) → Nat → List Nat
  | [], _ => List.range 150
  | (j, l) :: t, i => bif Nat.beq j i then (List.range 150).filter (fun x => !memN l x) else qEx t i
/-- The same; and the slots that are kept behind a region. -/
def qTabK : List (Nat × List Nat × List Nat × List (Nat × List Nat)) → FuncId → Nat → List Nat
  | [], _ => qAll
  | (g, ro, kp, ex) :: t, f => bif Nat.beq g f then (fun id => bif Nat.beq id 999999 then ro else bif Nat.beq id 999998 then kp else qEx ex id) else qTabK t f

end
end Go.Ab

namespace Go.Ab
open Go.RowKit

section
variable {P : Program} {w : World} {L : Nat → Prop} {ι : Inj} {H : AH} {nx : Nat}

theorem vr_low {w : World} {L : Nat → Prop} {N : Nat} {ι : Inj} {v : Value} {a : AV} (h : VR w L ι v a) : (∀ r q g l, ι r q g = some l → r < N) → a.Below N := by
  induction h with
  | undef => intro _; exact .undef
  | int ι k n h => intro _; exact .int _ _
  | bool => intro _; exact .bool _
  | str => intro _; exact .str _
  | nilp => intro _; exact .nilp
  | ptr ι r q g i f l h hm => intro hi; exact .ptr _ _ _ _ _ (hi _ _ _ _ h)
  | iptr => intro _; exact .iptr _ _
  | sl => intro _; exact .sl _ _ _
  | sl0 => intro _; exact .sl _ _ _
  | nilsl => intro _; exact .nilsl
  | cut => intro _; exact .cut
  | own ι r q g off n a c l h hm hn hc ha => intro hi; exact .own _ _ _ _ _ (hi _ _ _ _ h)
  | mp ι r l h hm => intro hi; exact .mp _ (hi _ _ _ _ h)
  | nilmp => intro _; exact .nilmp
  | it ι r l h hm => intro hi; exact .it _ (hi _ _ _ _ h)
  | fn ι f cs caps hs hv ih =>
    intro hi
    refine .fn _ _ fun a ha => ?_
    obtain ⟨i, hl, rfl⟩ := List.mem_iff_getElem.1 ha
    exact ih i _ _ (Array.getElem?_eq_getElem (show i < cs.size by omega)) (List.getElem?_eq_getElem hl) hi
  | nilfn => intro _; exact .nilfn
  | agg ι cs asv hs h1 hv ih =>
    intro hi
    refine .agg _ fun a ha => ?_
    obtain ⟨i, hl, rfl⟩ := List.mem_iff_getElem.1 ha
    exact ih i _ _ (Array.getElem?_eq_getElem (show i < cs.size by omega)) (List.getElem?_eq_getElem hl) hi
  | tup ι cs asv hs hv ih =>
    intro hi
    refine .tup _ fun a ha => ?_
    obtain ⟨i, hl, rfl⟩ := List.mem_iff_getElem.1 ha
    exact ih i _ _ (Array.getElem?_eq_getElem (show i < cs.size by omega)) (List.getElem?_eq_getElem hl) hi

theorem RelH.below (rel : RelH w L ι H nx) {r q sz g : Nat} {els : List (List AV)} (h : H.get r q = some (.row sz els g)) {c : List AV} (hc : c ∈ els) {a : AV} (ha : a ∈ c) : a.Below nx := by
  obtain ⟨l, _, ok⟩ := rel.row _ _ _ _ _ h
  obtain ⟨i, hi, rfl⟩ := List.mem_iff_getElem.1 hc
  obtain ⟨j, hj, rfl⟩ := List.mem_iff_getElem.1 ha
  obtain ⟨v, _, _, hv⟩ := ok.hold i _ j _ (List.getElem?_eq_getElem hi) (List.getElem?_eq_getElem hj)
  exact vr_low hv fun r q g l h => rel.idx r q g l h

/-- What a call may leave: the old rows as they were, one new row that its value names. -/
def LastOk (H : AH) (nx sz n : Nat) (els : List (List AV)) (v : AV) (H' : AH) : Prop :=
  ∃ r g, nx ≤ r ∧ v = .own r 0 g 0 n ∧ (∀ x q, x < nx → H'.get x q = H.get x q) ∧ H'.get r 0 = some (.row sz els g)

theorem call_dom {f : FuncId} {args : List AV} {Q : AV → AH → Nat → Prop} (h : (∀ r o, H.look r = some o → r < nx) → CallOk P f args H nx Q) : CallOk P f args H nx Q :=
  fun w L ι vs rel hv => h rel.dom w L ι vs rel hv

/-- THE NEW ROW NUMBERED ANEW. -/
theorem call_last {f : FuncId} {args : List AV} {sz n : Nat} {els : List (List AV)} (h : CallOk P f args H nx (fun v H' _ => LastOk H nx sz n els v H'))
    (hb : ∀ w L ι, RelH w L ι H nx → ∀ c ∈ els, ∀ a ∈ c, a.Below nx) : CallOk P f args H nx (fun v H' nx' => (v, H', nx') = (.own nx 0 0 0 n, H.set nx 0 (.row sz els 0), nx + 1)) := by
  intro w L ι vs rel hv
  refine (h w L ι vs rel hv).mono fun e w' ⟨v, ι', H', nx', a, h1, st, h3, h4, r, g, hr, ha, hold, hnew⟩ => ?_
  subst ha
  obtain ⟨l, hl, ok⟩ := st.rel.row _ _ _ _ _ hnew
  have hget := AH.get_set (rel.sok sz) els 0
  let ι2 : Inj := fun x q g' => if x < nx then ι' x q g' else if x = nx ∧ q = 0 ∧ g' = 0 then some l else none
  have e1 : ∀ {x q g'}, x < nx → ι2 x q g' = ι' x q g' := fun h => by simp only [ι2, if_pos h]
  have e2 : ι2 nx 0 0 = some l := by simp [ι2]
  have hlive : ∀ b, live ι2 (H.set nx 0 (.row sz els 0)) b → live ι' H' b := by
    rintro b ⟨x, q, s, es, g', l', a1, a2, a3, a4⟩
    rw [hget] at a1
    split at a1
    · rename_i hx
      obtain ⟨rfl, rfl⟩ := hx
      cases a1
      rw [e2] at a2
      cases a2
      exact ⟨r, 0, _, _, _, _, hnew, hl, a3, a4⟩
    · rename_i hx
      have hxn : x < nx := by
        unfold AH.get at a1
        cases hlk : H.look x with
        | none => rw [hlk] at a1; cases a1
        | some o => exact rel.dom _ _ hlk
      rw [e1 hxn] at a2
      exact ⟨x, q, s, es, g', l', by rw [hold x q hxn]; exact a1, a2, a3, a4⟩
  have hLt : ∀ b, Lt L ι2 (H.set nx 0 (.row sz els 0)) b → Lt L ι' H' b := fun b h => h.elim .inl fun h => .inr (hlive b h)
  have move : ∀ {v : Value} {a : AV}, a.Below nx → VR w' (Lt L ι' H') ι' v a → VR w' (Lt L ι2 (H.set nx 0 (.row sz els 0))) ι2 v a := fun hb hv =>
    ((hv.upto hb).anti hLt).mono (fun _ _ h => ⟨rfl, h⟩) fun r q g l h => by
      unfold Inj.upto at h
      split at h
      · rename_i hlt; rw [e1 hlt]; exact h
      · cases h
  have keep : ∀ {s : Nat} {es : List (List AV)} {l : Loc}, (∀ c ∈ es, ∀ a ∈ c, a.Below nx) → RowOk w' (Lt L ι' H') ι' s es l → RowOk w' (Lt L ι2 (H.set nx 0 (.row sz els 0))) ι2 s es l := fun hb ok =>
    ok.view (fun _ => rfl) rfl fun i c hi => ⟨c, hi, rfl, fun j a a' hj hj' v hv => by
      rw [hj] at hj'
      cases hj'
      exact move (hb c (List.mem_of_getElem? hi) a (List.mem_of_getElem? hj)) hv⟩
  have lt_of : ∀ {x q o}, H.get x q = some o → x < nx := fun {x q o} h => by
    unfold AH.get at h
    cases hlk : H.look x with
    | none => rw [hlk] at h; cases h
    | some o => exact rel.dom _ _ hlk
  refine ⟨v, ι2, _, _, _, h1, ⟨st.ext, fun x q g' l' h => ?_, ?_, fun b hb => st.lv b (hlive b hb)⟩, Nat.le_succ _, ?_, rfl⟩
  · rw [e1 (rel.idx _ _ _ _ h)]
    exact st.inj _ _ _ _ h
  · constructor
    · intro x q s es g' hg
      rw [hget] at hg
      split at hg
      · rename_i hx
        obtain ⟨rfl, rfl⟩ := hx
        cases hg
        exact ⟨l, e2, keep (hb w L ι rel) ok⟩
      · have hxn := lt_of hg
        obtain ⟨l', h5, ok'⟩ := st.rel.row x q s es g' (by rw [hold x q hxn]; exact hg)
        exact ⟨l', by rw [e1 hxn]; exact h5, keep (fun c hc a ha => rel.below hg hc ha) ok'⟩
    · intro r1 q1 r2 q2 s1 es1 g1 l1 s2 es2 g2 l2 b1 b2 b3 b4 b5 b6 b7
      rw [hget] at b1 b2
      have nope : ∀ {x q s es g' l'}, H.get x q = some (.row s es g') → ι2 x q g' = some l' → 0 < l'.cap * l'.sz → 0 < l.cap * l.sz → l'.block = l.block → False := fun {x q s es g' l'} c1 c2 c3 c4 c5 => by
        have hxn := lt_of c1
        rw [e1 hxn] at c2
        have := st.rel.apart x q r 0 _ _ _ _ _ _ _ _ (by rw [hold x q hxn]; exact c1) hnew c2 hl c3 c4 c5
        omega
      by_cases h1 : r1 = nx ∧ q1 = 0
      · rw [if_pos h1] at b1
        obtain ⟨rfl, rfl⟩ := h1
        cases b1
        rw [e2] at b3
        cases b3
        by_cases h2 : r2 = r1 ∧ q2 = 0
        · exact ⟨h2.1.symm, h2.2.symm⟩
        · rw [if_neg h2] at b2
          exact (nope b2 b4 b6 b5 b7.symm).elim
      · rw [if_neg h1] at b1
        by_cases h2 : r2 = nx ∧ q2 = 0
        · rw [if_pos h2] at b2
          obtain ⟨rfl, rfl⟩ := h2
          cases b2
          rw [e2] at b4
          cases b4
          exact (nope b1 b3 b5 b6 b7).elim
        · rw [if_neg h2] at b2
          rw [e1 (lt_of b1)] at b3
          rw [e1 (lt_of b2)] at b4
          exact st.rel.apart _ _ _ _ _ _ _ _ _ _ _ _ (by rw [hold _ _ (lt_of b1)]; exact b1) (by rw [hold _ _ (lt_of b2)]; exact b2) b3 b4 b5 b6 b7
    · exact fun b hb => st.rel.out b (hlive b hb)
    · intro x q g' l' h
      simp only [ι2] at h
      split at h
      · omega
      · split at h
        · omega
        · cases h
    · intro x o h
      rcases AH.look_set h with rfl | h
      · omega
      · have := rel.dom _ _ h; omega
    · intro x q s es g' hg g2 l2 h
      rw [hget] at hg
      split at hg
      · rename_i hx
        obtain ⟨rfl, rfl⟩ := hx
        cases hg
        simp only [ι2] at h
        rw [if_neg (by omega)] at h
        split at h
        · omega
        · cases h
      · have hxn := lt_of hg
        rw [e1 hxn] at h
        exact st.rel.gen x q s es g' (by rw [hold x q hxn]; exact hg) g2 l2 h
    · exact st.rel.Lsz
  · have h4' := h4
    cases h4' with
    | own _ _ _ _ _ _ ad c l' hl' hm hn hc ha =>
      rw [hl] at hl'
      cases hl'
      exact .own _ nx 0 0 0 n ad c l e2 hm hn hc ha

/-! ### slices.Clone of nothing -/

def acClone (sz bytes : Nat) (z : List AV) : ACode :=
  .seq (.region [⟨some 2, .mknil sz, none⟩] [2])
  (.seq (.seq (.region [⟨some 3, .mov (.t 0), none⟩, ⟨some 4, .isnil false false (.t 3), none⟩] [3])
    (.cond (.t 4) (.seq (.region [⟨some 2, .mknil sz, none⟩] [0, 4]) .ret) .skip))
  (.seq (.region [⟨some 5, .buildSl sz 0 z [], none⟩, ⟨some 6, .mov (.t 0), none⟩, ⟨some 7, .append sz bytes (.t 5) (.t 6), none⟩, ⟨some 2, .mov (.t 7), none⟩] [0, 4, 5, 6, 7]) .ret))

/-- A slice of that width without elements. -/
def noEls (sz : Nat) (x : AV) (H : AH) : Bool :=
  match elsOf sz x H, lenV x with
  | some els, some n => Nat.beq n 0 && (Nat.beq els.length 0 && fitsS H x)
  | _, _ => false

theorem noEls_spec {sz : Nat} {x : AV} (h : noEls sz x H = true) : elsOf sz x H = some [] ∧ lenV x = some 0 ∧ fits H x := by
  unfold noEls at h
  split at h
  · rename_i els n h1 h2
    simp only [Bool.and_eq_true] at h
    rw [h1, h2, List.eq_nil_of_length_eq_zero (beq_true h.2.1), beq_true h.1]
    exact ⟨rfl, rfl, fitsS_ok h.2.2⟩
  · cases h

theorem nilB_nothing {x : AV} (h : lenV x = some 0) : nilB false x = some none ∨ nilB false x = some (some true) := by
  cases x <;> simp_all [lenV, nilB]

theorem els_old {H' : AH} (hold : ∀ x q, x < nx → H'.get x q = H.get x q) (hd : ∀ r o, H.look r = some o → r < nx) {sz : Nat} {x : AV} {els : List (List AV)} (h : elsOf sz x H = some els) (hf : fits H x) : elsOf sz x H' = some els ∧ fits H' x := by
  cases x <;> try exact ⟨h, hf⟩
  rename_i r q g off n
  simp only [elsOf, fits] at h hf ⊢
  have hr : r < nx := by
    cases hl : H.look r with
    | none => unfold AH.get at hf; rw [hl] at hf; exact hf.elim
    | some o => exact hd _ _ hl
  rw [hold r q hr]
  exact ⟨h, hf⟩

theorem clone_nothing {f sz bytes nt : Nat} {z : List AV} {q : Nat → List Nat} (hc : compF P f q = some ((acClone sz bytes z).strip, [.tmp 2], nt)) (hnt : 1 ≤ nt) {x : AV} (hx : noEls sz x H = true) :
    CallOk P f [x] H nx (fun v H' nx' => (v, H', nx') = (.own nx 0 0 0 0, H.set nx 0 (.row sz [] 0), nx + 1)) := by
  obtain ⟨he, hl, hf⟩ := noEls_spec hx
  refine call_last (call_dom fun hd => fn_of hc hnt ?_) (fun _ _ _ _ c hc => by simp at hc)
  have hlook : H.look nx = none := by
    cases h : H.look nx with
    | none => rfl
    | some o => have := hd _ _ h; omega
  have g1 := AH.get_set (H := H) (r := nx) (q := 0) (sz := sz) (.inr ⟨hlook, rfl⟩) [] 0
  generalize hH1 : H.set nx 0 (.row sz [] 0) = H1 at g1
  have hlook1 : H1.look (nx + 1) = none := by
    cases h : H1.look (nx + 1) with
    | none => rfl
    | some o =>
      rw [← hH1] at h
      rcases AH.look_set h with h | h
      · omega
      · have := hd _ _ h; omega
  have g2 := AH.get_set (H := H1) (r := nx + 1) (q := 0) (sz := sz) (.inr ⟨hlook1, rfl⟩) [] 0
  generalize hH2 : H1.set (nx + 1) 0 (.row sz [] 0) = H2 at g2
  have hS1 : setObj (H.look nx) H nx 0 (.row sz [] 0) = H1 := by rw [← hH1]; rfl
  have hS2 : setObj (H1.look (nx + 1)) H1 (nx + 1) 0 (.row sz [] 0) = H2 := by rw [← hH2]; rfl
  have hS3 : setObj (H2.look (nx + 1)) H2 (nx + 1) 0 (.row sz [] 1) = H2.set (nx + 1) 0 (.row sz [] 1) := rfl
  have hnew : H2.get (nx + 1) 0 = some (.row sz [] 0) := by rw [g2, if_pos ⟨rfl, rfl⟩]
  have hold : ∀ x q, x < nx → H2.get x q = H.get x q := fun x q h => by rw [g2, if_neg (by omega), g1, if_neg (by omega)]
  have g3 := AH.get_set (H := H2) (r := nx + 1) (q := 0) (sz := sz) (.inl ⟨_, _, hnew⟩) [] 1
  obtain ⟨he2, hf2⟩ := els_old hold hd he hf
  have isnil : LastOk H nx sz 0 [] (.own (nx + 1) 0 0 0 0) H2 := ⟨nx + 1, 0, Nat.le_succ _, rfl, hold, hnew⟩
  have more : LastOk H nx sz 0 [] (.own (nx + 1) 0 1 0 0) (H2.set (nx + 1) 0 (.row sz [] 1)) :=
    ⟨nx + 1, 1, Nat.le_succ _, rfl, fun x q h => by rw [g3, if_neg (by omega)]; exact hold x q h, by rw [g3, if_pos ⟨rfl, rfl⟩]⟩
  have yes : wpX P nx (.seq (.region [⟨some 2, .mknil sz, none⟩] [0, 4]) .ret) (retK [.tmp 2] (fun v H' _ => LastOk H nx sz 0 [] v H')) [(0, x), (4, .bool true)] H1 (nx + 1) := by
    (repeat (first | (simp (disch := (first | omega | (simp only [evF, evL, implies_true, and_self]; done) | fail)) only [evS, evZ, evX, evK, evB, evL, evR, Nat.reduceBEq, Nat.reduceAdd, Nat.reduceLeDiff, boxR, rboxR, allocR, fldR, binI, unR, pickR, mknilR, mkslR, buildSlR, buildR, extR, convI, eqB, evU, wrap64, hS2]) | (with_reducible intro _) | ((with_reducible apply And.intro); omega)))
    exact isnil
  have no : wpX P nx (.seq (.region [⟨some 5, .buildSl sz 0 z [], none⟩, ⟨some 6, .mov (.t 0), none⟩, ⟨some 7, .append sz bytes (.t 5) (.t 6), none⟩, ⟨some 2, .mov (.t 7), none⟩] [0, 4, 5, 6, 7]) .ret) (retK [.tmp 2] (fun v H' _ => LastOk H nx sz 0 [] v H')) [(0, x), (4, .bool false)] H1 (nx + 1) := by
    have hS4 : ((H2.look (nx + 1)).bind fun x => x.part 0) = some (.row sz [] 0) := hnew
    (repeat (first | (simp (disch := (first | omega | (simp only [evF, evL, implies_true, and_self]; done) | fail)) only [evS, evZ, evX, evK, evB, evL, evR, Nat.reduceBEq, Nat.reduceAdd, Nat.reduceLeDiff, boxR, rboxR, allocR, fldR, binI, unR, pickR, mknilR, mkslR, buildSlR, buildR, extR, convI, eqB, evU, wrap64, hS2, hS4, he2, hl, apTo, apRow, and_true, hf2, Nat.zero_mul, List.append_nil]) | (with_reducible intro _) | ((with_reducible apply And.intro); omega)))
    exact more
  show wpX P nx _ _ _ _ _
  unfold acClone
  (repeat (first | (simp (disch := (first | omega | (simp only [evF, evL, implies_true, and_self]; done) | fail)) only [evS, evZ, evX, evK, evB, evL, evR, Nat.reduceBEq, Nat.reduceAdd, Nat.reduceLeDiff, boxR, rboxR, allocR, fldR, binI, unR, pickR, mknilR, mkslR, buildSlR, buildR, extR, convI, eqB, evU, wrap64, hS1]) | (with_reducible intro _) | ((with_reducible apply And.intro); omega)))
  rcases nilB_nothing hl with hn | hn
  · rw [hn]
    (repeat (first | (simp (disch := (first | omega | (simp only [evF, evL, implies_true, and_self]; done) | fail)) only [evS, evZ, evX, evK, evB, evL, evR, Nat.reduceBEq, Nat.reduceAdd, Nat.reduceLeDiff, boxR, rboxR, allocR, fldR, binI, unR, pickR, mknilR, mkslR, buildSlR, buildR, extR, convI, eqB, evU, wrap64, hS1]) | (with_reducible intro _) | ((with_reducible apply And.intro); omega)))
    refine condX_intro (fun hb => ?_) (fun hb => ?_)
    · subst hb
      exact yes
    · subst hb
      exact no
  · rw [hn]
    (repeat (first | (simp (disch := (first | omega | (simp only [evF, evL, implies_true, and_self]; done) | fail)) only [evS, evZ, evX, evK, evB, evL, evR, Nat.reduceBEq, Nat.reduceAdd, Nat.reduceLeDiff, boxR, rboxR, allocR, fldR, binI, unR, pickR, mknilR, mkslR, buildSlR, buildR, extR, convI, eqB, evU, wrap64, hS1, hS2]) | (with_reducible intro _) | ((with_reducible apply And.intro); omega)))
    exact isnil

end
end Go.Ab

namespace Go.Ab
open Go.RowKit

/-- Is 'b' (whose rows lie in H, if rows may be lent) seen as 'a', a value that is only read? -/
def frB (m : Bool) (H : AH) : Nat → AV → AV → Bool
  | 0, _, _ => false
  | d + 1, b, a => match a with
    | .undef => true
    | .int k n => match b with
      | .int k' n' => decide (k' = k) && decide (n' = n)
      | _ => false
    | .bool x => match b with
      | .bool y => y == x
      | _ => false
    | .str s => match b with
      | .str t => decide (t = s)
      | _ => false
    | .nilp => match b with
      | .nilp => true
      | _ => false
    | .nilfn => match b with
      | .nilfn => true
      | _ => false
    | .cut => match b with
      | .cut => true
      | _ => false
    | .nilsl => match b with
      | .nilsl => true
      | _ => false
    | .sl sz n f => match b with
      | .sl sz' n' f' => Nat.beq sz' sz && (Nat.beq n' n && allB n fun i => allB sz fun j => frB m H d (f' i j) (f i j))
      | .nilsl => Nat.beq n 0
      | .own r q g off n' => m && (match H.get r q with
        | some (.row sz' els g') => Nat.beq sz' sz && (Nat.beq n' n && (Nat.beq g g' && (Nat.ble n big && (Nat.ble (off + n) els.length && allB n fun i => allB sz fun j => frB m H d ((els.getD (off + i) []).getD j .undef) (f i j)))))
        | _ => false)
      | _ => false
    | .agg l => match b with
      | .agg l' => Nat.beq l'.length l.length && allB l.length fun i => frB m H d (l'.getD i .undef) (l.getD i .undef)
      | _ => false
    | .tup l => match b with
      | .tup l' => Nat.beq l'.length l.length && allB l.length fun i => frB m H d (l'.getD i .undef) (l.getD i .undef)
      | _ => false
    | _ => false

theorem getD_at {α : Type} {l : List α} {i : Nat} {a d : α} (h : l[i]? = some a) : l.getD i d = a := by rw [List.getD_eq_getElem?_getD, h]; rfl

theorem frB_ok {H : AH} {m : Bool} {D : Nat → Nat → Prop} (hD : m = true → ∀ r q, D r q) : ∀ (d : Nat) (b a : AV), frB m H d b a = true → Vw H [] nos D false b a
  | 0, _, _, h => by cases h
  | d + 1, b, a, h => by
    unfold frB at h
    split at h
    · exact .undef _ _
    · split at h
      · simp only [Bool.and_eq_true, decide_eq_true_eq] at h
        obtain ⟨rfl, rfl⟩ := h
        exact .int _ _ _
      · cases h
    · split at h
      · simp only [beq_iff_eq] at h
        subst h
        exact .bool _ _
      · cases h
    · split at h
      · simp only [decide_eq_true_eq] at h
        subst h
        exact .str _ _
      · cases h
    · split at h
      · exact .nilp _
      · cases h
    · split at h
      · exact .nilfn _
      · cases h
    · split at h
      · exact .cut _
      · cases h
    · split at h
      · exact .nilsl _
      · cases h
    · split at h
      · rename_i sz' n' f'
        simp only [Bool.and_eq_true] at h
        obtain ⟨h1, h2, h3⟩ := h
        obtain rfl := beq_true h1
        obtain rfl := beq_true h2
        exact .slf _ _ _ _ _ fun i j hi hj => frB_ok hD d _ _ (allB_spec (allB_spec h3 hi) hj)
      · obtain rfl := beq_true h
        exact .nil0 _ _ _
      · rename_i r q g off n'
        rw [Bool.and_eq_true] at h
        obtain ⟨hm, h⟩ := h
        split at h
        · rename_i sz' els g' hg
          simp only [Bool.and_eq_true] at h
          obtain ⟨h1, h2, h3, h4, h5, h6⟩ := h
          obtain rfl := beq_true h1
          obtain rfl := beq_true h2
          obtain rfl := beq_true h3
          exact .frz _ r q g off n' sz' els _ (hD hm r q) hg (bleT h4) (bleT h5) fun i j hi hj => frB_ok hD d _ _ (allB_spec (allB_spec h6 hi) hj)
        · cases h
      · cases h
    · split at h
      · rename_i l l'
        simp only [Bool.and_eq_true] at h
        obtain ⟨h1, h2⟩ := h
        have hl := beq_true h1
        refine .agg _ _ _ hl fun i x y hx hy => ?_
        have := allB_spec h2 (List.getElem?_eq_some_iff.1 hy).1
        rw [getD_at hx, getD_at hy] at this
        exact frB_ok hD d _ _ this
      · cases h
    · split at h
      · rename_i l l'
        simp only [Bool.and_eq_true] at h
        obtain ⟨h1, h2⟩ := h
        have hl := beq_true h1
        refine .tup _ _ _ hl fun i x y hx hy => ?_
        have := allB_spec h2 (List.getElem?_eq_some_iff.1 hy).1
        rw [getD_at hx, getD_at hy] at this
        exact frB_ok hD d _ _ this
      · cases h
    · cases h

def frBs (m : Bool) (H : AH) : List AV → List AV → Bool
  | [], [] => true
  | b :: bs, a :: asv => frB m H 30 b a && frBs m H bs asv
  | _, _ => false

theorem frBs_ok {H : AH} {m : Bool} {D : Nat → Nat → Prop} (hD : m = true → ∀ r q, D r q) : ∀ {bs asv : List AV}, frBs m H bs asv = true → Lend H D bs asv
  | [], [], _ => .nil
  | b :: bs, a :: asv, h => by
    rw [frBs, Bool.and_eq_true] at h
    exact .cons (frB_ok hD 30 _ _ h.1) (frBs_ok hD h.2)
  | [], _ :: _, h => by cases h
  | _ :: _, [], h => by cases h

/-- A call whose answer is known. -/
structure Memo where
  f : FuncId
  args : List AV
  res : AV

def memoX : List Memo → CallX → CallX
  | [], orc, f, args, H, nx => orc f args H nx
  | e :: t, orc, f, args, H, nx => bif Nat.beq e.f f && (bif e.res.scal then frBs true H args e.args else frBs false H args e.args) then some (e.res, H, nx) else memoX t orc f args H nx

theorem memoX_sound {P : Program} {orc : CallX} (ho : orc.Sound P) : ∀ {l : List Memo}, (∀ e ∈ l, PureFn P e.f e.args (· = e.res)) → (memoX l orc).Sound P
  | [], _ => ho
  | e :: t, hl => by
    intro f args H nx r h
    unfold memoX at h
    cases hb : Nat.beq e.f f && (bif e.res.scal then frBs true H args e.args else frBs false H args e.args) with
    | false => rw [hb] at h; exact memoX_sound ho (fun e' h' => hl e' (List.mem_cons_of_mem _ h')) f args H nx r h
    | true =>
      rw [hb] at h
      cases h
      rw [Bool.and_eq_true] at hb
      obtain rfl := beq_true hb.1
      have hb2 := hb.2
      cases hs : e.res.scal with
      | true =>
        rw [hs] at hb2
        exact (call_fix (D := allR) (hl e (by simp)) (frBs_ok (fun _ _ _ => trivial) hb2) (.inl hs)).ok rfl
      | false =>
        rw [hs] at hb2
        exact (call_fix (D := noR) (hl e (by simp)) (frBs_ok (fun h => by cases h) hb2) (.inr fun _ _ h => h)).ok rfl

def isFrz (a : AV) : Option (AV × AH × Nat) → Bool
  | some (v, H, _) => frB true H 30 v a
  | none => false

/-- A pure call of known values, run. -/
theorem execC_pure {P : Program} {qf : FuncId → Nat → List Nat} {orc : CallX} (ho : orc.Sound P) (n : Nat) {f : FuncId} {args : List AV} {a : AV} (h : isFrz a (callW P qf orc (execC P qf orc n) f args [] 0) = true) : PureFn P f args (· = a) := by
  unfold isFrz at h
  split at h
  · rename_i v H' nx' e
    exact (execC_call ho n e).mono fun v1 H1 nx1 he => by
      cases he
      exact ⟨a, frB_ok (fun _ _ _ => trivial) 30 _ _ h, rfl⟩
  · cases h

/-- Lists of cells that are only read. -/
def slL (sz : Nat) (l : List (List AV)) : AV := .sl sz l.length (fun i j => (l.getD i []).getD j .undef)

end Go.Ab
