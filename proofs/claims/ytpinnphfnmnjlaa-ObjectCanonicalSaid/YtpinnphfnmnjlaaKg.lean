/-
  Part 7 of the proof: how the calls of this program run, over values instead of memory, and what each function computes.
-/
import Derived.KernelRfl
import Derived.Test.YtpinnphfnmnjlaaKf
set_option linter.unusedVariables false
set_option linter.unusedSimpArgs false
set_option linter.unnecessarySimpa false
set_option linter.unusedSectionVars false

namespace Go.Ab
open Go.RowKit Go.Proofs

/-- The checksum of the first k bytes. -/
def sumK (l : List UInt8) : Nat → Int
  | 0 => 0
  | k + 1 => IntKind.u32.wrap (sumK l k + IntKind.u32.wrap (IntKind.u32.wrap ((l.getD k 0).toNat : Int) * IntKind.u32.wrap ((k : Int) + 1)))

theorem wrapU32_lt (n : Int) : 0 ≤ IntKind.u32.wrap n ∧ IntKind.u32.wrap n < 4294967296 := by
  have h : IntKind.u32.wrap n = n % 4294967296 := rfl
  rw [h]
  omega

theorem sumK_nat (l : List UInt8) (k : Nat) : ∃ v : Nat, v < 4294967296 ∧ sumK l k = (v : Int) := by
  cases k with
  | zero => exact ⟨0, by decide, rfl⟩
  | succ k =>
    have h : ∀ n : Int, ∃ v : Nat, v < 4294967296 ∧ IntKind.u32.wrap n = (v : Int) := fun n => by
      obtain ⟨h1, h2⟩ := wrapU32_lt n
      exact ⟨(IntKind.u32.wrap n).toNat, by omega, by omega⟩
    exact h _

theorem byte_cell {l : List UInt8} {k : Nat} (h : k < l.length) : ((l.map cByte).getD k []).getD 0 .undef = .int .u8 ((l.getD k 0).toNat : Int) := by
  rw [getD_map h, show l.getD k 0 = l[k] by rw [List.getD_eq_getElem?_getD, List.getElem?_eq_getElem h]; rfl]
  rfl

theorem object_Checksum_ok (l : List UInt8) (h1 : l.length ≤ 100000000) : PureFn Try.prog f_object_Checksum [encB l] (· = .int .u32 (sumK l l.length)) := by
  refine fn_x cf_object_Checksum rfl ?_
  unfold ac_object_Checksum
  have hB : big = 9223372036854775807 := rfl
  (repeat (first | (simp (disch := first | exact dis1 | fail) only [evA, Nat.reduceBEq, Nat.reduceAdd, Nat.reduceLeDiff, boxR, rboxR, allocR, fldR, binI, unR, pickR, mknilR, mkslR, buildSlR, buildR, extR, convI, eqB, evU, wrap64, encB]) | (with_reducible intro _) | ((with_reducible apply And.intro); omega)))
  refine loopX_intro (fun k : Nat => ([(3, .int .u32 (sumK l k)), (6, encL 1 cByte l), (7, .int .i64 l.length), (8, .int .i64 k)], [])) 0 (fun k => k ≤ l.length) (fun k => l.length - k) 0 (Nat.zero_le _) (Ent.keep rfl (by (try simp [subK, Kn.get, beq_eq]) <;> (repeat' with_reducible apply And.intro) <;> first | rfl | omega | (simp; done))) ?_
  rintro k hk wf
  unfold ac_object_Checksum_l0
  (repeat (first | (simp (disch := first | exact dis1 | fail) only [evA, Nat.reduceBEq, Nat.reduceAdd, Nat.reduceLeDiff, boxR, rboxR, allocR, fldR, binI, unR, pickR, mknilR, mkslR, buildSlR, buildR, extR, convI, eqB, evU, wrap64]) | (with_reducible intro _) | ((with_reducible apply And.intro); omega)))
  (refine condX_intro (fun h => ?_) (fun h => ?_)) <;> (try simp only [decide_eq_true_eq, decide_eq_false_iff_not, Bool.not_eq_true', Bool.not_eq_false', Bool.and_eq_true, Bool.or_eq_true, not_true_eq_false, not_false_eq_true] at h)
  · have hk' : k < l.length := by omega
    (repeat (first | (simp (disch := first | exact dis1 | fail) only [evA, Nat.reduceBEq, Nat.reduceAdd, Nat.reduceLeDiff, boxR, rboxR, allocR, fldR, binI, unR, pickR, mknilR, mkslR, buildSlR, buildR, extR, convI, eqB, evU, wrap64, byte_cell hk']) | (with_reducible intro _) | ((with_reducible apply And.intro); omega)))
    exact ⟨k + 1, by omega, by omega, Ent.keep rfl (by (try simp [subK, Kn.get, beq_eq]) <;> (repeat' with_reducible apply And.intro) <;> first | rfl | omega | (simp; done))⟩
  · rw [show l.length = k by omega]
    unfold ac_object_Checksum_k1
    (repeat (first | (simp (disch := first | exact dis1 | fail) only [evA, Nat.reduceBEq, Nat.reduceAdd, Nat.reduceLeDiff, boxR, rboxR, allocR, fldR, binI, unR, pickR, mknilR, mkslR, buildSlR, buildR, extR, convI, eqB, evU, wrap64, rs_object_Checksum]) | (with_reducible intro _) | ((with_reducible apply And.intro); omega)))
    exact ⟨_, .int _ _ _, rfl⟩

def flagsN (s : Sec) : Nat := (if s.wr then 1 else 0) + (if s.ex then 2 else 0)

theorem object_truth_ok (b : Bool) : PureFn Try.prog f_object_truth [.bool b] (· = .int .u32 (if b then 1 else 0)) := by
  refine fn_x cf_object_truth rfl ?_
  unfold ac_object_truth
  cases b with
  | true =>
    (repeat (first | (simp (disch := first | exact dis1 | fail) only [evA, Nat.reduceBEq, Nat.reduceAdd, Nat.reduceLeDiff, boxR, rboxR, allocR, fldR, binI, unR, pickR, mknilR, mkslR, buildSlR, buildR, extR, convI, eqB, evU, wrap64, rs_object_truth]) | (with_reducible intro _) | ((with_reducible apply And.intro); omega)))
    exact ⟨_, .int _ _ _, rfl⟩
  | false =>
    (repeat (first | (simp (disch := first | exact dis1 | fail) only [evA, Nat.reduceBEq, Nat.reduceAdd, Nat.reduceLeDiff, boxR, rboxR, allocR, fldR, binI, unR, pickR, mknilR, mkslR, buildSlR, buildR, extR, convI, eqB, evU, wrap64, rs_object_truth]) | (with_reducible intro _) | ((with_reducible apply And.intro); omega)))
    exact ⟨_, .int _ _ _, rfl⟩

end Go.Ab

namespace Go.Ab
open Go.RowKit Go.Proofs

structure Bin.fine (o : Bin) : Prop where
  nS : o.secs.length ≤ 16
  nY : o.syms.length ≤ 256
  nR : o.rels.length ≤ 256
  secs : ∀ s ∈ o.secs, s.name.size ≤ 32 ∧ s.data.length ≤ 65536
  syms : ∀ s ∈ o.syms, s.name.size ≤ 32 ∧ (s.kind = 1 ∨ s.kind = 2)
  rels : ∀ r ∈ o.rels, r.sym.size ≤ 32 ∧ (r.kind = 1 ∨ r.kind = 2) ∧ 0 ≤ r.sec ∧ r.sec < 16 ∧ 0 ≤ r.off ∧ r.off ≤ 65536

theorem nameOk_size {s : ByteArray} (h : nameOk s = true) : s.size ≤ 32 := by
  unfold nameOk at h
  simp only [Bool.and_eq_true, decide_eq_true_eq] at h
  exact h.2

theorem firstE_all {α : Type} {f : List α → α → Int} {l : List α} (h : firstE f l l.length 0 = 0) : ∀ x ∈ l, ∃ pre, f pre x = 0 := fun x hx => by
  obtain ⟨i, hi, rfl⟩ := List.mem_iff_getElem.1 hx
  exact ⟨_, firstE_zero (by omega) h i hi (Nat.zero_le _)⟩

theorem oneS_fine {pre : List Sec} {s : Sec} (h : oneS pre s = 0) : s.name.size ≤ 32 ∧ s.data.length ≤ 65536 := by
  unfold oneS at h
  by_cases h1 : 65536 < s.data.length
  · rw [if_pos h1] at h; cases h
  rw [if_neg h1] at h
  by_cases h2 : nameOk s.name = false
  · rw [if_pos h2] at h; cases h
  exact ⟨nameOk_size (by simpa using h2), by omega⟩

theorem fine_of {o : Bin} (h : checkO o = 0) : o.fine := by
  rw [checkO_eq] at h
  obtain ⟨h, _⟩ := thenE_zero h
  rw [checkR_eq] at h
  obtain ⟨hS, h⟩ := thenE_zero h
  obtain ⟨hY, hR⟩ := thenE_zero h
  unfold checkS at hS
  unfold checkY at hY
  unfold restR at hR
  by_cases h1 : 16 < o.secs.length
  · rw [if_pos h1] at hS; cases hS
  rw [if_neg h1] at hS
  by_cases h2 : 256 < o.syms.length
  · rw [if_pos h2] at hY; cases hY
  rw [if_neg h2] at hY
  by_cases h3 : 256 < o.rels.length
  · rw [if_pos h3] at hR; cases hR
  rw [if_neg h3] at hR
  have hS1 : firstE oneS o.secs o.secs.length 0 = 0 := by
    by_cases h4 : firstE oneS o.secs o.secs.length 0 ≠ 0
    · rw [if_pos h4] at hS; exact absurd hS h4
    · exact Decidable.not_not.1 h4
  obtain ⟨hY1, hY⟩ := thenE_zero hY
  obtain ⟨_, hY3⟩ := thenE_zero hY
  obtain ⟨hR1, _⟩ := thenE_zero hR
  have secs : ∀ s ∈ o.secs, s.name.size ≤ 32 ∧ s.data.length ≤ 65536 := fun s hs => by
    obtain ⟨pre, hp⟩ := firstE_all hS1 s hs
    exact oneS_fine hp
  have names : ∀ s ∈ o.syms, s.name.size ≤ 32 := fun s hs => by
    obtain ⟨pre, hp⟩ := firstE_all hY1 s hs
    unfold symName at hp
    by_cases h5 : nameOk s.name = false
    · rw [if_pos h5] at hp; cases hp
    · exact nameOk_size (by simpa using h5)
  refine ⟨by omega, by omega, by omega, secs, fun s hs => ⟨names s hs, ?_⟩, fun r hr => ?_⟩
  · obtain ⟨pre, hp⟩ := firstE_all hY3 s hs
    unfold symKind at hp
    by_cases h5 : s.kind ≠ 1 ∧ s.kind ≠ 2
    · rw [if_pos h5] at hp; cases hp
    · omega
  · obtain ⟨pre, hp⟩ := firstE_all hR1 r hr
    by_cases h5 : (r.kind ≠ 1 ∧ r.kind ≠ 2) ∨ r.sec < 0 ∨ (o.secs.length : Int) ≤ r.sec
    · rw [oneR_2 h5] at hp; cases hp
    have hs : r.sec.toNat < o.secs.length := by omega
    rw [oneR_in h5 hs] at hp
    have hd := (secs _ (List.getElem_mem hs)).2
    by_cases h7 : r.off < 0 ∨ (o.secs[r.sec.toNat].data.length : Int) - 4 < r.off
    · rw [if_pos h7] at hp; cases hp
    rw [if_neg h7] at hp
    have hy : r.sym.size ≤ 32 := by
      by_cases h8 : hasY o.syms r.sym = false
      · rw [if_pos h8] at hp; cases hp
      · have h9 : o.syms.any (fun s => decide (s.name = r.sym)) = true := by unfold hasY at h8; simpa using h8
        obtain ⟨s, hs, he⟩ := List.any_eq_true.1 h9
        rw [← of_decide_eq_true he]
        exact names s hs
    exact ⟨hy, by omega, by omega, by omega, by omega, by omega⟩

def headB (o : Bin) : List UInt8 := [68, 67, 79, 49] ++ leB o.entry.toNat 4 ++ leB o.secs.length 1 ++ leB o.syms.length 2 ++ leB o.rels.length 2
def secB (s : Sec) : List UInt8 := txB s.name ++ leB s.addr.toNat 4 ++ leB (flagsN s) 1 ++ leB s.data.length 4 ++ s.data
def symB (s : Sym) : List UInt8 := txB s.name ++ leB s.addr.toNat 4 ++ leB s.kind.toNat 1
def relB (r : Rel) : List UInt8 := leB r.sec.toNat 1 ++ leB r.off.toNat 4 ++ leB r.kind.toNat 1 ++ txB r.sym ++ leB (IntKind.u32.wrap r.add).toNat 4

def manyB {α : Type} (f : α → List UInt8) (l : List α) (k : Nat) : List UInt8 := ((l.take k).map f).flatten
theorem manyB_zero {α : Type} {f : α → List UInt8} {l : List α} : manyB f l 0 = [] := rfl
theorem manyB_succ {α : Type} {f : α → List UInt8} {l : List α} {k : Nat} (h : k < l.length) : manyB f l (k + 1) = manyB f l k ++ f l[k] := by
  unfold manyB
  rw [List.take_succ_eq_append_getElem h, List.map_append, List.flatten_append]
  simp
theorem manyB_len {α : Type} {f : α → List UInt8} {l : List α} {m : Nat} (h : ∀ x ∈ l, (f x).length ≤ m) : ∀ k, k ≤ l.length → (manyB f l k).length ≤ k * m
  | 0, _ => by simp [manyB_zero]
  | k + 1, hk => by
    rw [manyB_succ (by omega), List.length_append, Nat.succ_mul]
    have := manyB_len h k (by omega)
    have := h _ (List.getElem_mem (show k < l.length by omega))
    omega
theorem manyB_mono {α : Type} {f : α → List UInt8} {l : List α} {k : Nat} : ∀ n, (manyB f l k).length ≤ (manyB f l (k + n)).length
  | 0 => Nat.le_refl _
  | n + 1 => by
    refine Nat.le_trans (manyB_mono n) ?_
    by_cases h : k + n < l.length
    · rw [← Nat.add_assoc, manyB_succ h, List.length_append]
      omega
    · unfold manyB
      rw [List.take_of_length_le (by omega), List.take_of_length_le (by omega)]
      exact Nat.le_refl _

theorem headB_len {o : Bin} : (headB o).length = 13 := by simp [headB, leB_len]
theorem secB_len {s : Sec} : (secB s).length = s.name.size + 10 + s.data.length := by simp [secB, leB_len, txB_len]; omega
theorem symB_len {s : Sym} : (symB s).length = s.name.size + 6 := by simp [symB, leB_len, txB_len]
theorem relB_len {r : Rel} : (relB r).length = r.sym.size + 11 := by simp [relB, leB_len, txB_len]; omega

def bodyB (o : Bin) : List UInt8 := headB o ++ manyB secB o.secs o.secs.length ++ manyB symB o.syms o.syms.length ++ manyB relB o.rels o.rels.length
def fullB (o : Bin) : List UInt8 := bodyB o ++ leB (sumK (bodyB o) (bodyB o).length).toNat 4
def encodeO (o : Bin) : List UInt8 × Int := if checkO o ≠ 0 then ([], checkO o) else if 65536 < (fullB o).length then ([], 6) else (fullB o, 0)

theorem encodeO_bad {o : Bin} (h : checkO o ≠ 0) : encodeO o = ([], checkO o) := by rw [encodeO, if_pos h]
theorem encodeO_long {o : Bin} (h : checkO o = 0) (hl : 65536 < (fullB o).length) : encodeO o = ([], 6) := by rw [encodeO, if_neg (by rw [h]; decide), if_pos hl]
theorem encodeO_good {o : Bin} (h : checkO o = 0) (hl : ¬ 65536 < (fullB o).length) : encodeO o = (fullB o, 0) := by rw [encodeO, if_neg (by rw [h]; decide), if_neg hl]

theorem full_ge {o : Bin} {k : Nat} (h : k ≤ o.secs.length) : (headB o ++ manyB secB o.secs k).length ≤ (fullB o).length := by
  have := manyB_mono (f := secB) (l := o.secs) (k := k) (o.secs.length - k)
  rw [show k + (o.secs.length - k) = o.secs.length by omega] at this
  simp only [fullB, bodyB, List.length_append]
  omega

end Go.Ab

namespace Go.Ab
open Go.RowKit Go.Proofs

def encR (r : List UInt8 × Int) : AV := .tup [encB r.1, .int .i64 r.2]

theorem frz_nilE {H : AH} {r g : Nat} {e : Int} (hg : H.get r 0 = some (.row 1 [] g)) : Frz H (.tup [.own r 0 g 0 0, .int .i64 e]) (encR ([], e)) := by
  refine .tup _ _ _ rfl (fun i a c h1 h2 => ?_)
  rcases i with _ | _ | i
  · cases h1; cases h2
    exact .frz _ r 0 g 0 0 1 [] _ trivial hg (Nat.zero_le _) (Nat.le_refl 0) (fun i j hi => absurd hi (Nat.not_lt_zero _))
  · cases h1; cases h2; exact .int _ _ _
  · cases h1

theorem vw_bytes {H H2 : AH} {σ : Nat → Nat → Option (Nat × Nat × Nat)} {D : Nat → Nat → Prop} {t : Bool} {r g n : Nat} {l : List UInt8} (hD : D r 0) (hg : H.get r 0 = some (.row 1 (l.map cByte) g)) (hn : n = l.length) (hb : n ≤ big) :
    Vw H H2 σ D t (.own r 0 g 0 n) (encB l) := by
  subst hn
  refine .frz _ r 0 g 0 _ 1 _ _ hD hg hb (by simp) (fun i j hi hj => ?_)
  obtain rfl : j = 0 := by omega
  rw [Nat.zero_add]
  rw [show ((l.map cByte).getD i []).getD 0 .undef = .int .u8 ((l[i]).toNat : Int) by rw [getD_map hi]; rfl]
  exact .int _ _ _

theorem frz_okE {H : AH} {r g n : Nat} {l : List UInt8} {e : Int} (hg : H.get r 0 = some (.row 1 (l.map cByte) g)) (hn : n = l.length) (hb : n ≤ big) : Frz H (.tup [.own r 0 g 0 n, .int .i64 e]) (encR (l, e)) := by
  refine .tup _ _ _ rfl (fun i a c h1 h2 => ?_)
  rcases i with _ | _ | i
  · cases h1; cases h2
    exact vw_bytes trivial hg hn hb
  · cases h1; cases h2; exact .int _ _ _
  · cases h1

def ac2_object_Encode : ACode := match ac_object_Encode with
  | .seq a (.seq b (.seq c d)) => .seq a (.seq b (.seq c (.mark 0 d)))
  | x => x

theorem object_Encode_ok (o : Bin) (ho : o.okN) : PureFn Try.prog f_object_Encode [.agg o.cells] (· = encR (encodeO o)) := by
  refine fn_x (ac := ac2_object_Encode) cf_object_Encode rfl ?_
  unfold ac2_object_Encode ac_object_Encode
  have hB : big = 9223372036854775807 := rfl
  have hc := object_Check_ok o ho
  (repeat (first | (simp (disch := first | exact dis1 | fail) only [evA, Nat.reduceBEq, Nat.reduceAdd, Nat.reduceLeDiff, boxR, rboxR, allocR, fldR, binI, unR, pickR, mknilR, mkslR, buildSlR, buildR, extR, convI, eqB, evU, wrap64, Bin.len, Bin.flat, Bin.four]) | (with_reducible intro _) | ((with_reducible apply And.intro); omega)))
  refine callX_fix (call_flat hc rfl) ?_
  by_cases h1 : checkO o = 0
  case neg =>
    rw [encodeO_bad h1]
    (repeat (first | (simp (disch := first | exact dis1 | fail) only [evA, Nat.reduceBEq, Nat.reduceAdd, Nat.reduceLeDiff, boxR, rboxR, allocR, fldR, binI, unR, pickR, mknilR, mkslR, buildSlR, buildR, extR, convI, eqB, evU, wrap64, dT, rs_object_Encode]) | (with_reducible intro _) | ((with_reducible apply And.intro); omega)))
    exact ⟨_, frz_nilE rfl, rfl⟩
  have hf := fine_of h1
  have hnS := hf.nS
  have hnY := hf.nY
  have hnR := hf.nR
  rw [h1]
  have e0 : decide ((0 : Int) ≠ 0) = false := rfl
  (repeat (first | (simp (disch := first | exact dis1 | fail) only [evA, Nat.reduceBEq, Nat.reduceAdd, Nat.reduceLeDiff, boxR, rboxR, allocR, fldR, binI, unR, pickR, mknilR, mkslR, buildSlR, buildR, extR, convI, eqB, evU, wrap64, e0]) | (with_reducible intro _) | ((with_reducible apply And.intro); omega)))
  obtain ⟨b0, hb0⟩ : ∃ b0 : List UInt8, b0 = [68, 67, 79, 49] := ⟨_, rfl⟩
  have hl0 : b0.length = 4 := by rw [hb0]; rfl
  rw [show ([[.int .u8 68], [.int .u8 67], [.int .u8 79], [.int .u8 49]] : List (List AV)) = b0.map cByte by rw [hb0]; rfl]
  refine markX_intro [(1, encP 4 o.cells), (5, .ptr 0 0 0 0 0)] [(0, .row 1 [[.own 1 0 0 0 b0.length]] 0), (1, .row 1 (b0.map cByte) 0)] 2 fun _ => ⟨(Ent.tab [(0, 2, 0), (1, 1, 0)] [] rfl (by (try simp only [evWA, Nat.reduceBEq, Nat.reduceAdd, Nat.reduceSub, Nat.reduceLeDiff, Nat.reduceLT, implies_true, and_self, Int.natCast_zero, Int.natCast_one, Int.cast_ofNat_Int, evV, encInts, encNats, encBools, encP, hl0]) <;> exact fin1) (by (try simp only [evWA, Nat.reduceBEq, Nat.reduceAdd, Nat.reduceSub, Nat.reduceLeDiff, Nat.reduceLT, implies_true, and_self, Int.natCast_zero, Int.natCast_one, Int.cast_ofNat_Int, evV, encInts, encNats, encBools, encP, hl0]) <;> exact fin1)), ?_⟩
  have hwS : IntKind.u32.wrap (o.secs.length : Int) = (o.secs.length : Int) := wrapU32 (by omega) (by omega)
  have hwY : IntKind.u32.wrap (o.syms.length : Int) = (o.syms.length : Int) := wrapU32 (by omega) (by omega)
  have hwR : IntKind.u32.wrap (o.rels.length : Int) = (o.rels.length : Int) := wrapU32 (by omega) (by omega)
  have hgood1 : fnGood Try.prog f_object_Encode_1 = true := by kernel_rfl
  have hgood2 : fnGood Try.prog f_object_Encode_2 = true := by kernel_rfl
  (repeat (first | (simp (disch := first | exact dis1 | fail) only [evA, Nat.reduceBEq, Nat.reduceAdd, Nat.reduceLeDiff, boxR, rboxR, allocR, fldR, binI, unR, pickR, mknilR, mkslR, buildSlR, buildR, extR, convI, eqB, evU, wrap64, fldP, Bin.c0, Bin.len, hgood1]) | (with_reducible intro _) | ((with_reducible apply And.intro); omega)))
  refine call_own [(0, 0, 0), (1, 1, 0)] 2 _ (object_Encode_1_own b0 0 o.entry.toNat 4 (by omega) (by omega) (u32_lt _) (by decide)) rfl rfl (by (try simp only [evWA, Nat.reduceBEq, Nat.reduceAdd, Nat.reduceSub, Nat.reduceLeDiff, Nat.reduceLT, implies_true, and_self, Int.natCast_zero, Int.natCast_one, Int.cast_ofNat_Int, evV, encInts, encNats, encBools, encP, bytesV]) <;> exact fin1) (by (try simp only [evWA, Nat.reduceBEq, Nat.reduceAdd, Nat.reduceSub, Nat.reduceLeDiff, Nat.reduceLT, implies_true, and_self, Int.natCast_zero, Int.natCast_one, Int.cast_ofNat_Int, evV, encInts, encNats, encBools, encP, bytesV]) <;> exact fin1) ?_
  rintro v1 H1 nx1 ⟨rfl, rfl⟩
  have hl1 : (b0 ++ leB o.entry.toNat 4).length = b0.length + 4 := by rw [List.length_append, leB_len]
  generalize hb1 : b0 ++ leB o.entry.toNat 4 = b1 at *
  (repeat (first | (simp (disch := first | exact dis1 | fail) only [evA, Nat.reduceBEq, Nat.reduceAdd, Nat.reduceLeDiff, boxR, rboxR, allocR, fldR, binI, unR, pickR, mknilR, mkslR, buildSlR, buildR, extR, convI, eqB, evU, wrap64, bytes_ren, fldP, Bin.c1, Bin.c2, Bin.c3, Bin.len, hwS, hwY, hwR, hgood1]) | (with_reducible intro _) | ((with_reducible apply And.intro); omega)))
  refine call_own [(0, 0, 0), (1, 5, 0)] 2 _ (object_Encode_1_own b1 4 o.secs.length 1 (by omega) (by omega) (by omega) (by decide)) rfl rfl (by (try simp only [evWA, Nat.reduceBEq, Nat.reduceAdd, Nat.reduceSub, Nat.reduceLeDiff, Nat.reduceLT, implies_true, and_self, Int.natCast_zero, Int.natCast_one, Int.cast_ofNat_Int, evV, encInts, encNats, encBools, encP, bytesV]) <;> exact fin1) (by (try simp only [evWA, Nat.reduceBEq, Nat.reduceAdd, Nat.reduceSub, Nat.reduceLeDiff, Nat.reduceLT, implies_true, and_self, Int.natCast_zero, Int.natCast_one, Int.cast_ofNat_Int, evV, encInts, encNats, encBools, encP, bytesV]) <;> exact fin1) ?_
  rintro v2 H2 nx2 ⟨rfl, rfl⟩
  have hl2 : (b1 ++ leB o.secs.length 1).length = b1.length + 1 := by rw [List.length_append, leB_len]
  generalize hb2 : b1 ++ leB o.secs.length 1 = b2 at *
  (repeat (first | (simp (disch := first | exact dis1 | fail) only [evA, Nat.reduceBEq, Nat.reduceAdd, Nat.reduceLeDiff, boxR, rboxR, allocR, fldR, binI, unR, pickR, mknilR, mkslR, buildSlR, buildR, extR, convI, eqB, evU, wrap64, bytes_ren, fldP, Bin.c1, Bin.c2, Bin.c3, Bin.len, hwS, hwY, hwR, hgood1]) | (with_reducible intro _) | ((with_reducible apply And.intro); omega)))
  refine call_own [(0, 0, 0), (1, 9, 0)] 2 _ (object_Encode_1_own b2 1 o.syms.length 2 (by omega) (by omega) (by omega) (by decide)) rfl rfl (by (try simp only [evWA, Nat.reduceBEq, Nat.reduceAdd, Nat.reduceSub, Nat.reduceLeDiff, Nat.reduceLT, implies_true, and_self, Int.natCast_zero, Int.natCast_one, Int.cast_ofNat_Int, evV, encInts, encNats, encBools, encP, bytesV]) <;> exact fin1) (by (try simp only [evWA, Nat.reduceBEq, Nat.reduceAdd, Nat.reduceSub, Nat.reduceLeDiff, Nat.reduceLT, implies_true, and_self, Int.natCast_zero, Int.natCast_one, Int.cast_ofNat_Int, evV, encInts, encNats, encBools, encP, bytesV]) <;> exact fin1) ?_
  rintro v3 H3 nx3 ⟨rfl, rfl⟩
  have hl3 : (b2 ++ leB o.syms.length 2).length = b2.length + 2 := by rw [List.length_append, leB_len]
  generalize hb3 : b2 ++ leB o.syms.length 2 = b3 at *
  (repeat (first | (simp (disch := first | exact dis1 | fail) only [evA, Nat.reduceBEq, Nat.reduceAdd, Nat.reduceLeDiff, boxR, rboxR, allocR, fldR, binI, unR, pickR, mknilR, mkslR, buildSlR, buildR, extR, convI, eqB, evU, wrap64, bytes_ren, fldP, Bin.c1, Bin.c2, Bin.c3, Bin.len, hwS, hwY, hwR, hgood1]) | (with_reducible intro _) | ((with_reducible apply And.intro); omega)))
  refine call_own [(0, 0, 0), (1, 13, 0)] 2 _ (object_Encode_1_own b3 2 o.rels.length 2 (by omega) (by omega) (by omega) (by decide)) rfl rfl (by (try simp only [evWA, Nat.reduceBEq, Nat.reduceAdd, Nat.reduceSub, Nat.reduceLeDiff, Nat.reduceLT, implies_true, and_self, Int.natCast_zero, Int.natCast_one, Int.cast_ofNat_Int, evV, encInts, encNats, encBools, encP, bytesV]) <;> exact fin1) (by (try simp only [evWA, Nat.reduceBEq, Nat.reduceAdd, Nat.reduceSub, Nat.reduceLeDiff, Nat.reduceLT, implies_true, and_self, Int.natCast_zero, Int.natCast_one, Int.cast_ofNat_Int, evV, encInts, encNats, encBools, encP, bytesV]) <;> exact fin1) ?_
  rintro v4 H4 nx4 ⟨rfl, rfl⟩
  have hl4 : (b3 ++ leB o.rels.length 2).length = b3.length + 2 := by rw [List.length_append, leB_len]
  generalize hb4 : b3 ++ leB o.rels.length 2 = b4 at *
  (repeat (first | (simp (disch := first | exact dis1 | fail) only [evA, Nat.reduceBEq, Nat.reduceAdd, Nat.reduceLeDiff, boxR, rboxR, allocR, fldR, binI, unR, pickR, mknilR, mkslR, buildSlR, buildR, extR, convI, eqB, evU, wrap64, bytes_ren, fldP, Bin.c1, Bin.c2, Bin.c3, Bin.len, hwS, hwY, hwR, hgood1]) | (with_reducible intro _) | ((with_reducible apply And.intro); omega)))
  have hhead : b4 = headB o := by rw [← hb4, ← hb3, ← hb2, ← hb1, hb0]; rfl
  subst hhead
  have hsl : ∀ s ∈ o.secs, (secB s).length ≤ 65578 := fun s hs => by have := hf.secs s hs; rw [secB_len]; omega
  have hbS := manyB_len hsl
  refine loopX_intro (fun i : Nat => ([(1, encP 4 o.cells), (5, .ptr 0 0 0 0 0), (6, .fn (.func f_object_Encode_1) [.ptr 0 0 0 0 0]), (7, .fn (.func f_object_Encode_2) [.ptr 0 0 0 0 0]), (46, encL 5 Sec.cells o.secs), (47, .int .i64 o.secs.length), (48, .int .i64 i)],
      [(0, .row 1 [[.own 1 0 0 0 (headB o ++ manyB secB o.secs i).length]] 0), (1, .row 1 ((headB o ++ manyB secB o.secs i).map cByte) 0)])) 2 (fun i => i ≤ o.secs.length) (fun i => o.secs.length - i) 0 (Nat.zero_le _) (Ent.tab [(0, 0, 0), (1, 17, 2)] [] rfl (by (try simp only [evWA, Nat.reduceBEq, Nat.reduceAdd, Nat.reduceSub, Nat.reduceLeDiff, Nat.reduceLT, implies_true, and_self, Int.natCast_zero, Int.natCast_one, Int.cast_ofNat_Int, evV, encInts, encNats, encBools, encP, manyB_zero, List.append_nil]) <;> exact fin1) (by (try simp only [evWA, Nat.reduceBEq, Nat.reduceAdd, Nat.reduceSub, Nat.reduceLeDiff, Nat.reduceLT, implies_true, and_self, Int.natCast_zero, Int.natCast_one, Int.cast_ofNat_Int, evV, encInts, encNats, encBools, encP, manyB_zero, List.append_nil]) <;> exact fin1)) ?_
  intro i hi wf
  have hlb : (headB o ++ manyB secB o.secs i).length ≤ 13 + i * 65578 := by
    have := hbS i hi
    rw [List.length_append, headB_len]
    omega
  have hl0 : 0 < (headB o ++ manyB secB o.secs i).length := by rw [List.length_append, headB_len]; omega
  generalize hb : headB o ++ manyB secB o.secs i = b at *
  unfold ac_object_Encode_l0
  (repeat (first | (simp (disch := first | exact dis1 | fail) only [evA, Nat.reduceBEq, Nat.reduceAdd, Nat.reduceLeDiff, boxR, rboxR, allocR, fldR, binI, unR, pickR, mknilR, mkslR, buildSlR, buildR, extR, convI, eqB, evU, wrap64]) | (with_reducible intro _) | ((with_reducible apply And.intro); omega)))
  (refine condX_intro (fun h => ?_) (fun h => ?_)) <;> (try simp only [decide_eq_true_eq, decide_eq_false_iff_not, Bool.not_eq_true', Bool.not_eq_false', Bool.and_eq_true, Bool.or_eq_true, not_true_eq_false, not_false_eq_true] at h)
  · have hi' : i < o.secs.length := by omega
    obtain ⟨hs1, hs2⟩ := hf.secs _ (List.getElem_mem hi')
    have hnext : headB o ++ manyB secB o.secs (i + 1) = b ++ secB o.secs[i] := by rw [manyB_succ hi', ← List.append_assoc, hb]
    have hfl : IntKind.u32.wrap ((if o.secs[i].wr = true then 1 else 0) + IntKind.u32.wrap (2 * if o.secs[i].ex = true then 1 else 0)) = ((flagsN o.secs[i] : Nat) : Int) := by
      unfold flagsN
      cases o.secs[i].wr <;> cases o.secs[i].ex <;> rfl
    have hfl2 : flagsN o.secs[i] < 4294967296 := by
      unfold flagsN
      cases o.secs[i].wr <;> cases o.secs[i].ex <;> decide
    have hwd : IntKind.u32.wrap (o.secs[i].data.length : Int) = (o.secs[i].data.length : Int) := wrapU32 (by omega) (by omega)
    (repeat (first | (simp (disch := first | exact dis1 | fail) only [evA, Nat.reduceBEq, Nat.reduceAdd, Nat.reduceLeDiff, boxR, rboxR, allocR, fldR, binI, unR, pickR, mknilR, mkslR, buildSlR, buildR, extR, convI, eqB, evU, wrap64, getD_map hi', Sec.five, Sec.len, Sec.flat]) | (with_reducible intro _) | ((with_reducible apply And.intro); omega)))
    generalize o.secs[i] = s at *
    have hcell : ∀ x : Sec, (Sec.cells x).getD 3 .undef = .bool x.wr := fun _ => rfl
    (repeat (first | (simp (disch := first | exact dis1 | fail) only [evA, Nat.reduceBEq, Nat.reduceAdd, Nat.reduceLeDiff, boxR, rboxR, allocR, fldR, binI, unR, pickR, mknilR, mkslR, buildSlR, buildR, extR, convI, eqB, evU, wrap64, Sec.c0, Sec.len, hgood2]) | (with_reducible intro _) | ((with_reducible apply And.intro); omega)))
    refine call_own [(0, 0, 0), (1, 1, 0)] 2 _ (object_Encode_2_own b 0 s.name hl0 (by omega) hs1) rfl rfl (by (try simp only [evWA, Nat.reduceBEq, Nat.reduceAdd, Nat.reduceSub, Nat.reduceLeDiff, Nat.reduceLT, implies_true, and_self, Int.natCast_zero, Int.natCast_one, Int.cast_ofNat_Int, evV, encInts, encNats, encBools, encP, bytesV]) <;> exact fin1) (by (try simp only [evWA, Nat.reduceBEq, Nat.reduceAdd, Nat.reduceSub, Nat.reduceLeDiff, Nat.reduceLT, implies_true, and_self, Int.natCast_zero, Int.natCast_one, Int.cast_ofNat_Int, evV, encInts, encNats, encBools, encP, bytesV]) <;> exact fin1) ?_
    rintro v5 H5 nx5 ⟨rfl, rfl⟩
    have hm1 : (b ++ txB s.name).length = b.length + (s.name.size + 1) := by rw [List.length_append, txB_len]
    generalize hc1 : b ++ txB s.name = c1 at *
    (repeat (first | (simp (disch := first | exact dis1 | fail) only [evA, Nat.reduceBEq, Nat.reduceAdd, Nat.reduceLeDiff, boxR, rboxR, allocR, fldR, binI, unR, pickR, mknilR, mkslR, buildSlR, buildR, extR, convI, eqB, evU, wrap64, bytes_ren, Sec.c1, Sec.c2, Sec.c4, hcell, Sec.len, hwd, hgood1, hgood2]) | (with_reducible intro _) | ((with_reducible apply And.intro); omega)))
    refine call_own [(0, 0, 0), (1, 6, 0)] 2 _ (object_Encode_1_own c1 2 s.addr.toNat 4 (by omega) (by omega) (u32_lt _) (by decide)) rfl rfl (by (try simp only [evWA, Nat.reduceBEq, Nat.reduceAdd, Nat.reduceSub, Nat.reduceLeDiff, Nat.reduceLT, implies_true, and_self, Int.natCast_zero, Int.natCast_one, Int.cast_ofNat_Int, evV, encInts, encNats, encBools, encP, bytesV]) <;> exact fin1) (by (try simp only [evWA, Nat.reduceBEq, Nat.reduceAdd, Nat.reduceSub, Nat.reduceLeDiff, Nat.reduceLT, implies_true, and_self, Int.natCast_zero, Int.natCast_one, Int.cast_ofNat_Int, evV, encInts, encNats, encBools, encP, bytesV]) <;> exact fin1) ?_
    rintro v6 H6 nx6 ⟨rfl, rfl⟩
    have hm2 : (c1 ++ leB s.addr.toNat 4).length = c1.length + 4 := by rw [List.length_append, leB_len]
    generalize hc2 : c1 ++ leB s.addr.toNat 4 = c2 at *
    (repeat (first | (simp (disch := first | exact dis1 | fail) only [evA, Nat.reduceBEq, Nat.reduceAdd, Nat.reduceLeDiff, boxR, rboxR, allocR, fldR, binI, unR, pickR, mknilR, mkslR, buildSlR, buildR, extR, convI, eqB, evU, wrap64, bytes_ren, Sec.c1, Sec.c2, Sec.c4, hcell, Sec.len, hwd, hgood1, hgood2]) | (with_reducible intro _) | ((with_reducible apply And.intro); omega)))
    refine ⟨⟨?_, ?_⟩, ?_⟩
    all_goals
      refine callqX_fix (call_flat (object_truth_ok _) rfl) ?_
      (repeat (first | (simp (disch := first | exact dis1 | fail) only [evA, Nat.reduceBEq, Nat.reduceAdd, Nat.reduceLeDiff, boxR, rboxR, allocR, fldR, binI, unR, pickR, mknilR, mkslR, buildSlR, buildR, extR, convI, eqB, evU, wrap64, Sec.c4, hcell, Sec.len]) | (with_reducible intro _) | ((with_reducible apply And.intro); omega)))
      refine callqX_fix (call_flat (object_truth_ok _) rfl) ?_
      (repeat (first | (simp (disch := first | exact dis1 | fail) only [evA, Nat.reduceBEq, Nat.reduceAdd, Nat.reduceLeDiff, boxR, rboxR, allocR, fldR, binI, unR, pickR, mknilR, mkslR, buildSlR, buildR, extR, convI, eqB, evU, wrap64, hfl, hgood1]) | (with_reducible intro _) | ((with_reducible apply And.intro); omega)))
      refine call_own [(0, 0, 0), (1, 10, 0)] 2 _ (object_Encode_1_own c2 4 (flagsN s) 1 (by omega) (by omega) hfl2 (by decide)) rfl rfl (by (try simp only [evWA, Nat.reduceBEq, Nat.reduceAdd, Nat.reduceSub, Nat.reduceLeDiff, Nat.reduceLT, implies_true, and_self, Int.natCast_zero, Int.natCast_one, Int.cast_ofNat_Int, evV, encInts, encNats, encBools, encP, bytesV]) <;> exact fin1) (by (try simp only [evWA, Nat.reduceBEq, Nat.reduceAdd, Nat.reduceSub, Nat.reduceLeDiff, Nat.reduceLT, implies_true, and_self, Int.natCast_zero, Int.natCast_one, Int.cast_ofNat_Int, evV, encInts, encNats, encBools, encP, bytesV]) <;> exact fin1) ?_
      rintro v7 H7 nx7 ⟨rfl, rfl⟩
      have hm3 : (c2 ++ leB (flagsN s) 1).length = c2.length + 1 := by rw [List.length_append, leB_len]
      generalize hc3 : c2 ++ leB (flagsN s) 1 = c3 at *
      (repeat (first | (simp (disch := first | exact dis1 | fail) only [evA, Nat.reduceBEq, Nat.reduceAdd, Nat.reduceLeDiff, boxR, rboxR, allocR, fldR, binI, unR, pickR, mknilR, mkslR, buildSlR, buildR, extR, convI, eqB, evU, wrap64, bytes_ren, Sec.c1, Sec.c2, Sec.c4, hcell, Sec.len, hwd, hgood1, hgood2]) | (with_reducible intro _) | ((with_reducible apply And.intro); omega)))
      refine call_own [(0, 0, 0), (1, 14, 0)] 2 _ (object_Encode_1_own c3 1 s.data.length 4 (by omega) (by omega) (by omega) (by decide)) rfl rfl (by (try simp only [evWA, Nat.reduceBEq, Nat.reduceAdd, Nat.reduceSub, Nat.reduceLeDiff, Nat.reduceLT, implies_true, and_self, Int.natCast_zero, Int.natCast_one, Int.cast_ofNat_Int, evV, encInts, encNats, encBools, encP, bytesV]) <;> exact fin1) (by (try simp only [evWA, Nat.reduceBEq, Nat.reduceAdd, Nat.reduceSub, Nat.reduceLeDiff, Nat.reduceLT, implies_true, and_self, Int.natCast_zero, Int.natCast_one, Int.cast_ofNat_Int, evV, encInts, encNats, encBools, encP, bytesV]) <;> exact fin1) ?_
      rintro v8 H8 nx8 ⟨rfl, rfl⟩
      have hm4 : (c3 ++ leB s.data.length 4).length = c3.length + 4 := by rw [List.length_append, leB_len]
      generalize hc4 : c3 ++ leB s.data.length 4 = c4 at *
      (repeat (first | (simp (disch := first | exact dis1 | fail) only [evA, Nat.reduceBEq, Nat.reduceAdd, Nat.reduceLeDiff, boxR, rboxR, allocR, fldR, binI, unR, pickR, mknilR, mkslR, buildSlR, buildR, extR, convI, eqB, evU, wrap64, bytes_ren, Sec.c1, Sec.c2, Sec.c4, hcell, Sec.len, hwd, hgood1, hgood2]) | (with_reducible intro _) | ((with_reducible apply And.intro); omega)))
      have hnext2 : headB o ++ manyB secB o.secs (i + 1) = c4 ++ s.data := by rw [hnext, ← hc4, ← hc3, ← hc2, ← hc1]; simp [secB, List.append_assoc]
      have hge := full_ge (o := o) (k := i + 1) (by omega)
      rw [hnext2, List.length_append] at hge
      (refine condX_intro (fun h6 => ?_) (fun h6 => ?_)) <;> (try simp only [decide_eq_true_eq, decide_eq_false_iff_not, Bool.not_eq_true', Bool.not_eq_false', Bool.and_eq_true, Bool.or_eq_true, not_true_eq_false, not_false_eq_true] at h6)
      · rw [encodeO_long h1 (by omega)]
        (repeat (first | (simp (disch := first | exact dis1 | fail) only [evA, Nat.reduceBEq, Nat.reduceAdd, Nat.reduceLeDiff, boxR, rboxR, allocR, fldR, binI, unR, pickR, mknilR, mkslR, buildSlR, buildR, extR, convI, eqB, evU, wrap64, rs_object_Encode]) | (with_reducible intro _) | ((with_reducible apply And.intro); omega)))
        exact ⟨_, frz_nilE rfl, rfl⟩
      · have hel : ∀ {H : AH}, elsOf 1 (encL 1 cByte s.data) H = some (s.data.map cByte) := fun {H} => elsOf_encL (fun _ _ => rfl)
        (repeat (first | (simp (disch := first | exact dis1 | fail) only [evA, Nat.reduceBEq, Nat.reduceAdd, Nat.reduceLeDiff, boxR, rboxR, allocR, fldR, binI, unR, pickR, mknilR, mkslR, buildSlR, buildR, extR, convI, eqB, evU, wrap64, takeB, hel, Sec.c2, Sec.len]) | (with_reducible intro _) | ((with_reducible apply And.intro); omega)))
        exact ⟨i + 1, by omega, by omega, (Ent.tab [(0, 0, 0), (1, 18, 5)] [] rfl (by (try simp only [evWA, Nat.reduceBEq, Nat.reduceAdd, Nat.reduceSub, Nat.reduceLeDiff, Nat.reduceLT, implies_true, and_self, Int.natCast_zero, Int.natCast_one, Int.cast_ofNat_Int, evV, encInts, encNats, encBools, encP, hnext2, List.length_append]) <;> exact fin1) (by (try simp only [evWA, Nat.reduceBEq, Nat.reduceAdd, Nat.reduceSub, Nat.reduceLeDiff, Nat.reduceLT, implies_true, and_self, Int.natCast_zero, Int.natCast_one, Int.cast_ofNat_Int, evV, encInts, encNats, encBools, encP, hnext2, List.length_append]) <;> exact fin1))⟩
  have hiS : i = o.secs.length := by omega
  subst hiS
  unfold ac_object_Encode_k5
  (repeat (first | (simp (disch := first | exact dis1 | fail) only [evA, Nat.reduceBEq, Nat.reduceAdd, Nat.reduceLeDiff, boxR, rboxR, allocR, fldR, binI, unR, pickR, mknilR, mkslR, buildSlR, buildR, extR, convI, eqB, evU, wrap64, fldP, Bin.c2, Bin.len]) | (with_reducible intro _) | ((with_reducible apply And.intro); omega)))
  have hlY : ∀ s ∈ o.syms, (symB s).length ≤ 38 := fun s hs => by have := hf.syms s hs; rw [symB_len]; omega
  have hbY := manyB_len hlY
  refine loopX_intro (fun i : Nat => ([(1, encP 4 o.cells), (5, .ptr 0 0 0 0 0), (6, .fn (.func f_object_Encode_1) [.ptr 0 0 0 0 0]), (7, .fn (.func f_object_Encode_2) [.ptr 0 0 0 0 0]), (89, encL 3 Sym.cells o.syms), (90, .int .i64 o.syms.length), (91, .int .i64 i)],
      [(0, .row 1 [[.own 1 0 0 0 (b ++ manyB symB o.syms i).length]] 0), (1, .row 1 ((b ++ manyB symB o.syms i).map cByte) 0)])) 2 (fun i => i ≤ o.syms.length) (fun i => o.syms.length - i) 0 (Nat.zero_le _) (Ent.tab [(0, 0, 0), (1, 1, 0)] [] rfl (by (try simp only [evWA, Nat.reduceBEq, Nat.reduceAdd, Nat.reduceSub, Nat.reduceLeDiff, Nat.reduceLT, implies_true, and_self, Int.natCast_zero, Int.natCast_one, Int.cast_ofNat_Int, evV, encInts, encNats, encBools, encP, manyB_zero, List.append_nil]) <;> exact fin1) (by (try simp only [evWA, Nat.reduceBEq, Nat.reduceAdd, Nat.reduceSub, Nat.reduceLeDiff, Nat.reduceLT, implies_true, and_self, Int.natCast_zero, Int.natCast_one, Int.cast_ofNat_Int, evV, encInts, encNats, encBools, encP, manyB_zero, List.append_nil]) <;> exact fin1)) ?_
  intro i hi wf
  have hly : (b ++ manyB symB o.syms i).length ≤ 1049261 + i * 38 := by
    have := hbY i hi
    rw [List.length_append]
    omega
  have hly0 : 0 < (b ++ manyB symB o.syms i).length := by rw [List.length_append]; omega
  generalize hby : b ++ manyB symB o.syms i = d at *
  unfold ac_object_Encode_l1
  (repeat (first | (simp (disch := first | exact dis1 | fail) only [evA, Nat.reduceBEq, Nat.reduceAdd, Nat.reduceLeDiff, boxR, rboxR, allocR, fldR, binI, unR, pickR, mknilR, mkslR, buildSlR, buildR, extR, convI, eqB, evU, wrap64]) | (with_reducible intro _) | ((with_reducible apply And.intro); omega)))
  (refine condX_intro (fun h => ?_) (fun h => ?_)) <;> (try simp only [decide_eq_true_eq, decide_eq_false_iff_not, Bool.not_eq_true', Bool.not_eq_false', Bool.and_eq_true, Bool.or_eq_true, not_true_eq_false, not_false_eq_true] at h)
  · have hi' : i < o.syms.length := by omega
    obtain ⟨hs1, hs2⟩ := hf.syms _ (List.getElem_mem hi')
    have hnext : b ++ manyB symB o.syms (i + 1) = d ++ symB o.syms[i] := by rw [manyB_succ hi', ← List.append_assoc, hby]
    have hkd : IntKind.u32.wrap o.syms[i].kind = ((o.syms[i].kind.toNat : Nat) : Int) := by
      rcases hs2 with e | e <;> rw [e] <;> rfl
    have hkl : o.syms[i].kind.toNat < 4294967296 := by omega
    (repeat (first | (simp (disch := first | exact dis1 | fail) only [evA, Nat.reduceBEq, Nat.reduceAdd, Nat.reduceLeDiff, boxR, rboxR, allocR, fldR, binI, unR, pickR, mknilR, mkslR, buildSlR, buildR, extR, convI, eqB, evU, wrap64, getD_map hi', Sym.three, Sym.len, Sym.flat]) | (with_reducible intro _) | ((with_reducible apply And.intro); omega)))
    generalize o.syms[i] = s at *
    have hc1 : (Sym.cells s).getD 1 .undef = .int .u32 (s.addr.toNat : Int) := rfl
    (repeat (first | (simp (disch := first | exact dis1 | fail) only [evA, Nat.reduceBEq, Nat.reduceAdd, Nat.reduceLeDiff, boxR, rboxR, allocR, fldR, binI, unR, pickR, mknilR, mkslR, buildSlR, buildR, extR, convI, eqB, evU, wrap64, Sym.c0, Sym.len, hgood2]) | (with_reducible intro _) | ((with_reducible apply And.intro); omega)))
    refine call_own [(0, 0, 0), (1, 1, 0)] 2 _ (object_Encode_2_own d 0 s.name hly0 (by omega) hs1) rfl rfl (by (try simp only [evWA, Nat.reduceBEq, Nat.reduceAdd, Nat.reduceSub, Nat.reduceLeDiff, Nat.reduceLT, implies_true, and_self, Int.natCast_zero, Int.natCast_one, Int.cast_ofNat_Int, evV, encInts, encNats, encBools, encP, bytesV]) <;> exact fin1) (by (try simp only [evWA, Nat.reduceBEq, Nat.reduceAdd, Nat.reduceSub, Nat.reduceLeDiff, Nat.reduceLT, implies_true, and_self, Int.natCast_zero, Int.natCast_one, Int.cast_ofNat_Int, evV, encInts, encNats, encBools, encP, bytesV]) <;> exact fin1) ?_
    rintro v5 H5 nx5 ⟨rfl, rfl⟩
    have hm1 : (d ++ txB s.name).length = d.length + (s.name.size + 1) := by rw [List.length_append, txB_len]
    generalize hd1 : d ++ txB s.name = d1 at *
    (repeat (first | (simp (disch := first | exact dis1 | fail) only [evA, Nat.reduceBEq, Nat.reduceAdd, Nat.reduceLeDiff, boxR, rboxR, allocR, fldR, binI, unR, pickR, mknilR, mkslR, buildSlR, buildR, extR, convI, eqB, evU, wrap64, bytes_ren, Sym.c2, hc1, Sym.len, hkd, hgood1, hgood2]) | (with_reducible intro _) | ((with_reducible apply And.intro); omega)))
    refine call_own [(0, 0, 0), (1, 6, 0)] 2 _ (object_Encode_1_own d1 2 s.addr.toNat 4 (by omega) (by omega) (u32_lt _) (by decide)) rfl rfl (by (try simp only [evWA, Nat.reduceBEq, Nat.reduceAdd, Nat.reduceSub, Nat.reduceLeDiff, Nat.reduceLT, implies_true, and_self, Int.natCast_zero, Int.natCast_one, Int.cast_ofNat_Int, evV, encInts, encNats, encBools, encP, bytesV]) <;> exact fin1) (by (try simp only [evWA, Nat.reduceBEq, Nat.reduceAdd, Nat.reduceSub, Nat.reduceLeDiff, Nat.reduceLT, implies_true, and_self, Int.natCast_zero, Int.natCast_one, Int.cast_ofNat_Int, evV, encInts, encNats, encBools, encP, bytesV]) <;> exact fin1) ?_
    rintro v6 H6 nx6 ⟨rfl, rfl⟩
    have hm2 : (d1 ++ leB s.addr.toNat 4).length = d1.length + 4 := by rw [List.length_append, leB_len]
    generalize hd2 : d1 ++ leB s.addr.toNat 4 = d2 at *
    (repeat (first | (simp (disch := first | exact dis1 | fail) only [evA, Nat.reduceBEq, Nat.reduceAdd, Nat.reduceLeDiff, boxR, rboxR, allocR, fldR, binI, unR, pickR, mknilR, mkslR, buildSlR, buildR, extR, convI, eqB, evU, wrap64, bytes_ren, Sym.c2, hc1, Sym.len, hkd, hgood1, hgood2]) | (with_reducible intro _) | ((with_reducible apply And.intro); omega)))
    refine call_own [(0, 0, 0), (1, 10, 0)] 2 _ (object_Encode_1_own d2 4 s.kind.toNat 1 (by omega) (by omega) hkl (by decide)) rfl rfl (by (try simp only [evWA, Nat.reduceBEq, Nat.reduceAdd, Nat.reduceSub, Nat.reduceLeDiff, Nat.reduceLT, implies_true, and_self, Int.natCast_zero, Int.natCast_one, Int.cast_ofNat_Int, evV, encInts, encNats, encBools, encP, bytesV]) <;> exact fin1) (by (try simp only [evWA, Nat.reduceBEq, Nat.reduceAdd, Nat.reduceSub, Nat.reduceLeDiff, Nat.reduceLT, implies_true, and_self, Int.natCast_zero, Int.natCast_one, Int.cast_ofNat_Int, evV, encInts, encNats, encBools, encP, bytesV]) <;> exact fin1) ?_
    rintro v7 H7 nx7 ⟨rfl, rfl⟩
    have hm3 : (d2 ++ leB s.kind.toNat 1).length = d2.length + 1 := by rw [List.length_append, leB_len]
    generalize hd3 : d2 ++ leB s.kind.toNat 1 = d3 at *
    (repeat (first | (simp (disch := first | exact dis1 | fail) only [evA, Nat.reduceBEq, Nat.reduceAdd, Nat.reduceLeDiff, boxR, rboxR, allocR, fldR, binI, unR, pickR, mknilR, mkslR, buildSlR, buildR, extR, convI, eqB, evU, wrap64, bytes_ren, Sym.c2, hc1, Sym.len, hkd, hgood1, hgood2]) | (with_reducible intro _) | ((with_reducible apply And.intro); omega)))
    have hnext2 : b ++ manyB symB o.syms (i + 1) = d3 := by rw [hnext, ← hd3, ← hd2, ← hd1]; simp [symB, List.append_assoc]
    exact ⟨i + 1, by omega, by omega, (Ent.tab [(0, 0, 0), (1, 14, 1)] [] rfl (by (try simp only [evWA, Nat.reduceBEq, Nat.reduceAdd, Nat.reduceSub, Nat.reduceLeDiff, Nat.reduceLT, implies_true, and_self, Int.natCast_zero, Int.natCast_one, Int.cast_ofNat_Int, evV, encInts, encNats, encBools, encP, hnext2]) <;> exact fin1) (by (try simp only [evWA, Nat.reduceBEq, Nat.reduceAdd, Nat.reduceSub, Nat.reduceLeDiff, Nat.reduceLT, implies_true, and_self, Int.natCast_zero, Int.natCast_one, Int.cast_ofNat_Int, evV, encInts, encNats, encBools, encP, hnext2]) <;> exact fin1))⟩
  have hiY : i = o.syms.length := by omega
  subst hiY
  unfold ac_object_Encode_k4
  (repeat (first | (simp (disch := first | exact dis1 | fail) only [evA, Nat.reduceBEq, Nat.reduceAdd, Nat.reduceLeDiff, boxR, rboxR, allocR, fldR, binI, unR, pickR, mknilR, mkslR, buildSlR, buildR, extR, convI, eqB, evU, wrap64, fldP, Bin.c3, Bin.len]) | (with_reducible intro _) | ((with_reducible apply And.intro); omega)))
  have hlR : ∀ r ∈ o.rels, (relB r).length ≤ 43 := fun r hr => by have := hf.rels r hr; rw [relB_len]; omega
  have hbR := manyB_len hlR
  refine loopX_intro (fun i : Nat => ([(5, .ptr 0 0 0 0 0), (6, .fn (.func f_object_Encode_1) [.ptr 0 0 0 0 0]), (7, .fn (.func f_object_Encode_2) [.ptr 0 0 0 0 0]), (110, encL 5 Rel.cells o.rels), (111, .int .i64 o.rels.length), (112, .int .i64 i)],
      [(0, .row 1 [[.own 1 0 0 0 (d ++ manyB relB o.rels i).length]] 0), (1, .row 1 ((d ++ manyB relB o.rels i).map cByte) 0)])) 2 (fun i => i ≤ o.rels.length) (fun i => o.rels.length - i) 0 (Nat.zero_le _) (Ent.tab [(0, 0, 0), (1, 1, 0)] [] rfl (by (try simp only [evWA, Nat.reduceBEq, Nat.reduceAdd, Nat.reduceSub, Nat.reduceLeDiff, Nat.reduceLT, implies_true, and_self, Int.natCast_zero, Int.natCast_one, Int.cast_ofNat_Int, evV, encInts, encNats, encBools, encP, manyB_zero, List.append_nil]) <;> exact fin1) (by (try simp only [evWA, Nat.reduceBEq, Nat.reduceAdd, Nat.reduceSub, Nat.reduceLeDiff, Nat.reduceLT, implies_true, and_self, Int.natCast_zero, Int.natCast_one, Int.cast_ofNat_Int, evV, encInts, encNats, encBools, encP, manyB_zero, List.append_nil]) <;> exact fin1)) ?_
  intro i hi wf
  have hlz : (d ++ manyB relB o.rels i).length ≤ 1058989 + i * 43 := by
    have := hbR i hi
    rw [List.length_append]
    omega
  have hlz0 : 0 < (d ++ manyB relB o.rels i).length := by rw [List.length_append]; omega
  generalize hbz : d ++ manyB relB o.rels i = u at *
  unfold ac_object_Encode_l2
  (repeat (first | (simp (disch := first | exact dis1 | fail) only [evA, Nat.reduceBEq, Nat.reduceAdd, Nat.reduceLeDiff, boxR, rboxR, allocR, fldR, binI, unR, pickR, mknilR, mkslR, buildSlR, buildR, extR, convI, eqB, evU, wrap64]) | (with_reducible intro _) | ((with_reducible apply And.intro); omega)))
  (refine condX_intro (fun h => ?_) (fun h => ?_)) <;> (try simp only [decide_eq_true_eq, decide_eq_false_iff_not, Bool.not_eq_true', Bool.not_eq_false', Bool.and_eq_true, Bool.or_eq_true, not_true_eq_false, not_false_eq_true] at h)
  · have hi' : i < o.rels.length := by omega
    obtain ⟨hs1, hs2, hs3, hs4, hs5, hs6⟩ := hf.rels _ (List.getElem_mem hi')
    have hnext : d ++ manyB relB o.rels (i + 1) = u ++ relB o.rels[i] := by rw [manyB_succ hi', ← List.append_assoc, hbz]
    have hks : IntKind.u32.wrap o.rels[i].sec = ((o.rels[i].sec.toNat : Nat) : Int) := by rw [wrapU32 hs3 (by omega)]; omega
    have hko : IntKind.u32.wrap o.rels[i].off = ((o.rels[i].off.toNat : Nat) : Int) := by rw [wrapU32 hs5 (by omega)]; omega
    have hkk : IntKind.u32.wrap o.rels[i].kind = ((o.rels[i].kind.toNat : Nat) : Int) := by
      rcases hs2 with e | e <;> rw [e] <;> rfl
    have hka : IntKind.u32.wrap o.rels[i].add = (((IntKind.u32.wrap o.rels[i].add).toNat : Nat) : Int) := by
      have := (wrapU32_lt o.rels[i].add).1
      omega
    have hkal : (IntKind.u32.wrap o.rels[i].add).toNat < 4294967296 := by
      have := (wrapU32_lt o.rels[i].add).2
      omega
    have hksl : o.rels[i].sec.toNat < 4294967296 := by omega
    have hkol : o.rels[i].off.toNat < 4294967296 := by omega
    have hkkl : o.rels[i].kind.toNat < 4294967296 := by omega
    (repeat (first | (simp (disch := first | exact dis1 | fail) only [evA, Nat.reduceBEq, Nat.reduceAdd, Nat.reduceLeDiff, boxR, rboxR, allocR, fldR, binI, unR, pickR, mknilR, mkslR, buildSlR, buildR, extR, convI, eqB, evU, wrap64, getD_map hi', Rel.five, Rel.len, Rel.flat]) | (with_reducible intro _) | ((with_reducible apply And.intro); omega)))
    generalize o.rels[i] = s at *
    have hadd : ∃ w : Nat, IntKind.u32.wrap s.add = (w : Int) ∧ (IntKind.u32.wrap s.add).toNat = w := ⟨_, hka, rfl⟩
    obtain ⟨w, hw1, hw2⟩ := hadd
    rw [hw2] at hkal
    have hc4 : (Rel.cells s).getD 4 .undef = .int .i32 s.add := rfl
    (repeat (first | (simp (disch := first | exact dis1 | fail) only [evA, Nat.reduceBEq, Nat.reduceAdd, Nat.reduceLeDiff, boxR, rboxR, allocR, fldR, binI, unR, pickR, mknilR, mkslR, buildSlR, buildR, extR, convI, eqB, evU, wrap64, Rel.c0, Rel.len, hks, hgood1]) | (with_reducible intro _) | ((with_reducible apply And.intro); omega)))
    refine call_own [(0, 0, 0), (1, 1, 0)] 2 _ (object_Encode_1_own u 0 s.sec.toNat 1 hlz0 (by omega) hksl (by decide)) rfl rfl (by (try simp only [evWA, Nat.reduceBEq, Nat.reduceAdd, Nat.reduceSub, Nat.reduceLeDiff, Nat.reduceLT, implies_true, and_self, Int.natCast_zero, Int.natCast_one, Int.cast_ofNat_Int, evV, encInts, encNats, encBools, encP, bytesV]) <;> exact fin1) (by (try simp only [evWA, Nat.reduceBEq, Nat.reduceAdd, Nat.reduceSub, Nat.reduceLeDiff, Nat.reduceLT, implies_true, and_self, Int.natCast_zero, Int.natCast_one, Int.cast_ofNat_Int, evV, encInts, encNats, encBools, encP, bytesV]) <;> exact fin1) ?_
    rintro v8 H8 nx8 ⟨rfl, rfl⟩
    have hn1 : (u ++ leB s.sec.toNat 1).length = u.length + 1 := by rw [List.length_append, leB_len]
    generalize hu1 : u ++ leB s.sec.toNat 1 = u1 at *
    (repeat (first | (simp (disch := first | exact dis1 | fail) only [evA, Nat.reduceBEq, Nat.reduceAdd, Nat.reduceLeDiff, boxR, rboxR, allocR, fldR, binI, unR, pickR, mknilR, mkslR, buildSlR, buildR, extR, convI, eqB, evU, wrap64, bytes_ren, Rel.c1, Rel.c2, Rel.c3, hc4, Rel.len, hko, hkk, hw1, hgood1, hgood2]) | (with_reducible intro _) | ((with_reducible apply And.intro); omega)))
    refine call_own [(0, 0, 0), (1, 6, 0)] 2 _ (object_Encode_1_own u1 1 s.off.toNat 4 (by omega) (by omega) hkol (by decide)) rfl rfl (by (try simp only [evWA, Nat.reduceBEq, Nat.reduceAdd, Nat.reduceSub, Nat.reduceLeDiff, Nat.reduceLT, implies_true, and_self, Int.natCast_zero, Int.natCast_one, Int.cast_ofNat_Int, evV, encInts, encNats, encBools, encP, bytesV]) <;> exact fin1) (by (try simp only [evWA, Nat.reduceBEq, Nat.reduceAdd, Nat.reduceSub, Nat.reduceLeDiff, Nat.reduceLT, implies_true, and_self, Int.natCast_zero, Int.natCast_one, Int.cast_ofNat_Int, evV, encInts, encNats, encBools, encP, bytesV]) <;> exact fin1) ?_
    rintro v9 H9 nx9 ⟨rfl, rfl⟩
    have hn2 : (u1 ++ leB s.off.toNat 4).length = u1.length + 4 := by rw [List.length_append, leB_len]
    generalize hu2 : u1 ++ leB s.off.toNat 4 = u2 at *
    (repeat (first | (simp (disch := first | exact dis1 | fail) only [evA, Nat.reduceBEq, Nat.reduceAdd, Nat.reduceLeDiff, boxR, rboxR, allocR, fldR, binI, unR, pickR, mknilR, mkslR, buildSlR, buildR, extR, convI, eqB, evU, wrap64, bytes_ren, Rel.c1, Rel.c2, Rel.c3, hc4, Rel.len, hko, hkk, hw1, hgood1, hgood2]) | (with_reducible intro _) | ((with_reducible apply And.intro); omega)))
    refine call_own [(0, 0, 0), (1, 10, 0)] 2 _ (object_Encode_1_own u2 4 s.kind.toNat 1 (by omega) (by omega) hkkl (by decide)) rfl rfl (by (try simp only [evWA, Nat.reduceBEq, Nat.reduceAdd, Nat.reduceSub, Nat.reduceLeDiff, Nat.reduceLT, implies_true, and_self, Int.natCast_zero, Int.natCast_one, Int.cast_ofNat_Int, evV, encInts, encNats, encBools, encP, bytesV]) <;> exact fin1) (by (try simp only [evWA, Nat.reduceBEq, Nat.reduceAdd, Nat.reduceSub, Nat.reduceLeDiff, Nat.reduceLT, implies_true, and_self, Int.natCast_zero, Int.natCast_one, Int.cast_ofNat_Int, evV, encInts, encNats, encBools, encP, bytesV]) <;> exact fin1) ?_
    rintro v10 H10 nx10 ⟨rfl, rfl⟩
    have hn3 : (u2 ++ leB s.kind.toNat 1).length = u2.length + 1 := by rw [List.length_append, leB_len]
    generalize hu3 : u2 ++ leB s.kind.toNat 1 = u3 at *
    (repeat (first | (simp (disch := first | exact dis1 | fail) only [evA, Nat.reduceBEq, Nat.reduceAdd, Nat.reduceLeDiff, boxR, rboxR, allocR, fldR, binI, unR, pickR, mknilR, mkslR, buildSlR, buildR, extR, convI, eqB, evU, wrap64, bytes_ren, Rel.c1, Rel.c2, Rel.c3, hc4, Rel.len, hko, hkk, hw1, hgood1, hgood2]) | (with_reducible intro _) | ((with_reducible apply And.intro); omega)))
    refine call_own [(0, 0, 0), (1, 14, 0)] 2 _ (object_Encode_2_own u3 1 s.sym (by omega) (by omega) hs1) rfl rfl (by (try simp only [evWA, Nat.reduceBEq, Nat.reduceAdd, Nat.reduceSub, Nat.reduceLeDiff, Nat.reduceLT, implies_true, and_self, Int.natCast_zero, Int.natCast_one, Int.cast_ofNat_Int, evV, encInts, encNats, encBools, encP, bytesV]) <;> exact fin1) (by (try simp only [evWA, Nat.reduceBEq, Nat.reduceAdd, Nat.reduceSub, Nat.reduceLeDiff, Nat.reduceLT, implies_true, and_self, Int.natCast_zero, Int.natCast_one, Int.cast_ofNat_Int, evV, encInts, encNats, encBools, encP, bytesV]) <;> exact fin1) ?_
    rintro v11 H11 nx11 ⟨rfl, rfl⟩
    have hn4 : (u3 ++ txB s.sym).length = u3.length + (s.sym.size + 1) := by rw [List.length_append, txB_len]
    generalize hu4 : u3 ++ txB s.sym = u4 at *
    (repeat (first | (simp (disch := first | exact dis1 | fail) only [evA, Nat.reduceBEq, Nat.reduceAdd, Nat.reduceLeDiff, boxR, rboxR, allocR, fldR, binI, unR, pickR, mknilR, mkslR, buildSlR, buildR, extR, convI, eqB, evU, wrap64, bytes_ren, Rel.c1, Rel.c2, Rel.c3, hc4, Rel.len, hko, hkk, hw1, hgood1, hgood2]) | (with_reducible intro _) | ((with_reducible apply And.intro); omega)))
    refine call_own [(0, 0, 0), (1, 18, 0)] 2 _ (object_Encode_1_own u4 2 w 4 (by omega) (by omega) hkal (by decide)) rfl rfl (by (try simp only [evWA, Nat.reduceBEq, Nat.reduceAdd, Nat.reduceSub, Nat.reduceLeDiff, Nat.reduceLT, implies_true, and_self, Int.natCast_zero, Int.natCast_one, Int.cast_ofNat_Int, evV, encInts, encNats, encBools, encP, bytesV]) <;> exact fin1) (by (try simp only [evWA, Nat.reduceBEq, Nat.reduceAdd, Nat.reduceSub, Nat.reduceLeDiff, Nat.reduceLT, implies_true, and_self, Int.natCast_zero, Int.natCast_one, Int.cast_ofNat_Int, evV, encInts, encNats, encBools, encP, bytesV]) <;> exact fin1) ?_
    rintro v12 H12 nx12 ⟨rfl, rfl⟩
    have hn5 : (u4 ++ leB w 4).length = u4.length + 4 := by rw [List.length_append, leB_len]
    generalize hu5 : u4 ++ leB w 4 = u5 at *
    (repeat (first | (simp (disch := first | exact dis1 | fail) only [evA, Nat.reduceBEq, Nat.reduceAdd, Nat.reduceLeDiff, boxR, rboxR, allocR, fldR, binI, unR, pickR, mknilR, mkslR, buildSlR, buildR, extR, convI, eqB, evU, wrap64, bytes_ren, Rel.c1, Rel.c2, Rel.c3, hc4, Rel.len, hko, hkk, hw1, hgood1, hgood2]) | (with_reducible intro _) | ((with_reducible apply And.intro); omega)))
    have hnext2 : d ++ manyB relB o.rels (i + 1) = u5 := by rw [hnext, ← hu5, ← hu4, ← hu3, ← hu2, ← hu1, ← hw2]; simp [relB, List.append_assoc]
    exact ⟨i + 1, by omega, by omega, (Ent.tab [(0, 0, 0), (1, 22, 4)] [] rfl (by (try simp only [evWA, Nat.reduceBEq, Nat.reduceAdd, Nat.reduceSub, Nat.reduceLeDiff, Nat.reduceLT, implies_true, and_self, Int.natCast_zero, Int.natCast_one, Int.cast_ofNat_Int, evV, encInts, encNats, encBools, encP, hnext2]) <;> exact fin1) (by (try simp only [evWA, Nat.reduceBEq, Nat.reduceAdd, Nat.reduceSub, Nat.reduceLeDiff, Nat.reduceLT, implies_true, and_self, Int.natCast_zero, Int.natCast_one, Int.cast_ofNat_Int, evV, encInts, encNats, encBools, encP, hnext2]) <;> exact fin1))⟩
  have hiR : i = o.rels.length := by omega
  subst hiR
  have hbody : u = bodyB o := by rw [← hbz, ← hby, ← hb]; rfl
  unfold ac_object_Encode_k3
  (repeat (first | (simp (disch := first | exact dis1 | fail) only [evA, Nat.reduceBEq, Nat.reduceAdd, Nat.reduceLeDiff, boxR, rboxR, allocR, fldR, binI, unR, pickR, mknilR, mkslR, buildSlR, buildR, extR, convI, eqB, evU, wrap64]) | (with_reducible intro _) | ((with_reducible apply And.intro); omega)))
  obtain ⟨v, hv, hve⟩ := sumK_nat u u.length
  have hlu : u.length ≤ 1069997 := by omega
  have hful : fullB o = u ++ leB v 4 := by
    unfold fullB
    rw [← hbody, hve, Int.toNat_natCast]
  have hcs := object_Checksum_ok u (by omega)
  rw [hve] at hcs
  refine callX_fix (call_fix (D := allR) hcs (.cons (vw_bytes trivial rfl rfl (by omega)) .nil) (.inl rfl)) ?_
  (repeat (first | (simp (disch := first | exact dis1 | fail) only [evA, Nat.reduceBEq, Nat.reduceAdd, Nat.reduceLeDiff, boxR, rboxR, allocR, fldR, binI, unR, pickR, mknilR, mkslR, buildSlR, buildR, extR, convI, eqB, evU, wrap64, hgood1]) | (with_reducible intro _) | ((with_reducible apply And.intro); omega)))
  refine call_own [(0, 0, 0), (1, 1, 0)] 2 _ (object_Encode_1_own u 0 v 4 hlz0 (by omega) hv (by decide)) rfl rfl (by (try simp only [evWA, Nat.reduceBEq, Nat.reduceAdd, Nat.reduceSub, Nat.reduceLeDiff, Nat.reduceLT, implies_true, and_self, Int.natCast_zero, Int.natCast_one, Int.cast_ofNat_Int, evV, encInts, encNats, encBools, encP, bytesV]) <;> exact fin1) (by (try simp only [evWA, Nat.reduceBEq, Nat.reduceAdd, Nat.reduceSub, Nat.reduceLeDiff, Nat.reduceLT, implies_true, and_self, Int.natCast_zero, Int.natCast_one, Int.cast_ofNat_Int, evV, encInts, encNats, encBools, encP, bytesV]) <;> exact fin1) ?_
  rintro v20 H20 nx20 ⟨rfl, rfl⟩
  have hnz : (u ++ leB v 4).length = u.length + 4 := by rw [List.length_append, leB_len]
  generalize hz : u ++ leB v 4 = z at *
  (repeat (first | (simp (disch := first | exact dis1 | fail) only [evA, Nat.reduceBEq, Nat.reduceAdd, Nat.reduceLeDiff, boxR, rboxR, allocR, fldR, binI, unR, pickR, mknilR, mkslR, buildSlR, buildR, extR, convI, eqB, evU, wrap64, bytes_ren, hgood1]) | (with_reducible intro _) | ((with_reducible apply And.intro); omega)))
  (refine condX_intro (fun h6 => ?_) (fun h6 => ?_)) <;> (try simp only [decide_eq_true_eq, decide_eq_false_iff_not, Bool.not_eq_true', Bool.not_eq_false', Bool.and_eq_true, Bool.or_eq_true, not_true_eq_false, not_false_eq_true] at h6)
  · rw [encodeO_long h1 (by rw [hful]; omega)]
    (repeat (first | (simp (disch := first | exact dis1 | fail) only [evA, Nat.reduceBEq, Nat.reduceAdd, Nat.reduceLeDiff, boxR, rboxR, allocR, fldR, binI, unR, pickR, mknilR, mkslR, buildSlR, buildR, extR, convI, eqB, evU, wrap64, rs_object_Encode]) | (with_reducible intro _) | ((with_reducible apply And.intro); omega)))
    exact ⟨_, frz_nilE rfl, rfl⟩
  · rw [encodeO_good h1 (by rw [hful]; omega), hful]
    (repeat (first | (simp (disch := first | exact dis1 | fail) only [evA, Nat.reduceBEq, Nat.reduceAdd, Nat.reduceLeDiff, boxR, rboxR, allocR, fldR, binI, unR, pickR, mknilR, mkslR, buildSlR, buildR, extR, convI, eqB, evU, wrap64, rs_object_Encode]) | (with_reducible intro _) | ((with_reducible apply And.intro); omega)))
    exact ⟨_, frz_okE rfl rfl (by omega), rfl⟩

end Go.Ab

namespace Go.Ab
open Go.RowKit Go.Proofs

def eqL {α : Type} (p : α → α → Bool) : List α → List α → Bool
  | [], [] => true
  | a :: l, b :: m => p a b && eqL p l m
  | _, _ => false

/-- The first i elements are the same. -/
def eqTo1 {α : Type} (p : α → α → Bool) (l m : List α) (i : Nat) : Prop := ∀ j (h1 : j < l.length) (h2 : j < m.length), j < i → p l[j] m[j] = true

theorem eqL_len {α : Type} {p : α → α → Bool} : ∀ {l m : List α}, eqL p l m = true → l.length = m.length
  | [], [], _ => rfl
  | a :: l, b :: m, h => by
    simp only [eqL, Bool.and_eq_true] at h
    simp only [List.length_cons, eqL_len h.2]
  | [], b :: m, h => by cases h
  | a :: l, [], h => by cases h
theorem eqL_at {α : Type} {p : α → α → Bool} : ∀ {l m : List α}, eqL p l m = true → ∀ j (h1 : j < l.length) (h2 : j < m.length), p l[j] m[j] = true
  | [], [], _, j, h1, _ => absurd h1 (Nat.not_lt_zero _)
  | a :: l, b :: m, h, 0, h1, h2 => by
    simp only [eqL, Bool.and_eq_true] at h
    exact h.1
  | a :: l, b :: m, h, j + 1, h1, h2 => by
    simp only [eqL, Bool.and_eq_true] at h
    exact eqL_at h.2 j (by simpa using h1) (by simpa using h2)
  | [], b :: m, h, _, _, _ => by cases h
  | a :: l, [], h, _, _, _ => by cases h
theorem eqL_of {α : Type} {p : α → α → Bool} : ∀ {l m : List α}, l.length = m.length → (∀ j (h1 : j < l.length) (h2 : j < m.length), p l[j] m[j] = true) → eqL p l m = true
  | [], [], _, _ => rfl
  | a :: l, b :: m, hl, h => by
    simp only [eqL, Bool.and_eq_true]
    exact ⟨h 0 (by simp) (by simp), eqL_of (by simpa using hl) fun j h1 h2 => h (j + 1) (by simpa using h1) (by simpa using h2)⟩
  | [], b :: m, hl, _ => by cases hl
  | a :: l, [], hl, _ => by cases hl
theorem eqL_end {α : Type} {p : α → α → Bool} {l m : List α} {i : Nat} (hl : l.length = m.length) (h : eqTo1 p l m i) (hi : l.length ≤ i) : eqL p l m = true := eqL_of hl fun j h1 h2 => h j h1 h2 (by omega)
theorem eqL_no {α : Type} {p : α → α → Bool} {l m : List α} {i : Nat} (h1 : i < l.length) (h2 : i < m.length) (h : p l[i] m[i] = false) : eqL p l m = false := by
  cases e : eqL p l m with
  | false => rfl
  | true => rw [eqL_at e i h1 h2] at h; cases h
theorem eqL_nol {α : Type} {p : α → α → Bool} {l m : List α} (h : l.length ≠ m.length) : eqL p l m = false := by
  cases e : eqL p l m with
  | false => rfl
  | true => exact absurd (eqL_len e) h
theorem eqTo_zero {α : Type} {p : α → α → Bool} {l m : List α} : eqTo1 p l m 0 := fun _ _ _ h => absurd h (Nat.not_lt_zero _)
theorem eqTo_succ {α : Type} {p : α → α → Bool} {l m : List α} {i : Nat} (h1 : i < l.length) (h2 : i < m.length) (h : eqTo1 p l m i) (hp : p l[i] m[i] = true) : eqTo1 p l m (i + 1) := fun j h3 h4 hj => by
  by_cases e : j = i
  · subst e; exact hp
  · exact h j h3 h4 (by omega)
theorem eqL_refl {α : Type} {p : α → α → Bool} (hp : ∀ a, p a a = true) : ∀ {l : List α}, eqL p l l = true
  | [] => rfl
  | a :: l => by simp only [eqL, hp a, eqL_refl hp, Bool.and_self]

def eqB1 (a b : UInt8) : Bool := decide ((a.toNat : Int) = b.toNat)
def eqS (a b : Sec) : Bool := decide (a.name = b.name) && decide ((a.addr.toNat : Int) = b.addr.toNat) && eqL eqB1 a.data b.data && (a.wr == b.wr) && (a.ex == b.ex)
def eqY (a b : Sym) : Bool := decide (a.name = b.name) && (decide ((a.addr.toNat : Int) = b.addr.toNat) && (decide (a.kind = b.kind) && true))
def eqRl (a b : Rel) : Bool := decide (a.sec = b.sec) && (decide (a.off = b.off) && (decide (a.kind = b.kind) && (decide (a.sym = b.sym) && (decide (a.add = b.add) && true))))
def sameO (a b : Bin) : Bool := eqL eqS a.secs b.secs && decide ((a.entry.toNat : Int) = b.entry.toNat) && eqL eqY a.syms b.syms && eqL eqRl a.rels b.rels

theorem slices_Equal_byte_byte_ok (l m : List UInt8) : PureFn Try.prog f_slices_Equal_byte_byte [encB l, encB m] (· = .bool (eqL eqB1 l m)) := by
  refine fn_x cf_slices_Equal_byte_byte rfl ?_
  unfold ac_slices_Equal_byte_byte
  have hB : big = 9223372036854775807 := rfl
  (repeat (first | (simp (disch := first | exact dis1 | fail) only [evA, Nat.reduceBEq, Nat.reduceAdd, Nat.reduceLeDiff, boxR, rboxR, allocR, fldR, binI, unR, pickR, mknilR, mkslR, buildSlR, buildR, extR, convI, eqB, evU, wrap64, encB]) | (with_reducible intro _) | ((with_reducible apply And.intro); omega)))
  by_cases hlm : l.length = m.length
  case neg =>
    rw [eqL_nol hlm]
    (repeat (first | (simp (disch := first | exact dis1 | fail) only [evA, Nat.reduceBEq, Nat.reduceAdd, Nat.reduceLeDiff, boxR, rboxR, allocR, fldR, binI, unR, pickR, mknilR, mkslR, buildSlR, buildR, extR, convI, eqB, evU, wrap64, dT, rs_slices_Equal_byte_byte]) | (with_reducible intro _) | ((with_reducible apply And.intro); omega)))
    exact ⟨_, .bool _ _, rfl⟩
  (repeat (first | (simp (disch := first | exact dis1 | fail) only [evA, Nat.reduceBEq, Nat.reduceAdd, Nat.reduceLeDiff, boxR, rboxR, allocR, fldR, binI, unR, pickR, mknilR, mkslR, buildSlR, buildR, extR, convI, eqB, evU, wrap64, dF]) | (with_reducible intro _) | ((with_reducible apply And.intro); omega)))
  refine loopX_intro (fun i : Nat => ([(0, encL 1 cByte l), (1, encL 1 cByte m), (12, .int .i64 l.length), (13, .int .i64 i)], [])) 0 (fun i => i ≤ l.length ∧ eqTo1 eqB1 l m i) (fun i => l.length - i) 0 ⟨Nat.zero_le _, eqTo_zero⟩ (Ent.keep rfl (by (try simp [subK, Kn.get, beq_eq]) <;> (repeat' with_reducible apply And.intro) <;> first | rfl | omega | (simp; done))) ?_
  rintro i ⟨hi, hq⟩ wf
  unfold ac_slices_Equal_byte_byte_l0
  (repeat (first | (simp (disch := first | exact dis1 | fail) only [evA, Nat.reduceBEq, Nat.reduceAdd, Nat.reduceLeDiff, boxR, rboxR, allocR, fldR, binI, unR, pickR, mknilR, mkslR, buildSlR, buildR, extR, convI, eqB, evU, wrap64]) | (with_reducible intro _) | ((with_reducible apply And.intro); omega)))
  (refine condX_intro (fun h => ?_) (fun h => ?_)) <;> (try simp only [decide_eq_true_eq, decide_eq_false_iff_not, Bool.not_eq_true', Bool.not_eq_false', Bool.and_eq_true, Bool.or_eq_true, not_true_eq_false, not_false_eq_true] at h)
  · have h1 : i < l.length := by omega
    have h2 : i < m.length := by omega
    have hs := eqTo_succ h1 h2 hq
    have hn := eqL_no (p := eqB1) h1 h2
    have hp1 : ((l.map cByte).getD i []).getD 0 .undef = .int .u8 ((l[i]).toNat : Int) := by rw [getD_map h1]; rfl
    have hp2 : ((m.map cByte).getD i []).getD 0 .undef = .int .u8 ((m[i]).toNat : Int) := by rw [getD_map h2]; rfl
    (repeat (first | (simp (disch := first | exact dis1 | fail) only [evA, Nat.reduceBEq, Nat.reduceAdd, Nat.reduceLeDiff, boxR, rboxR, allocR, fldR, binI, unR, pickR, mknilR, mkslR, buildSlR, buildR, extR, convI, eqB, evU, wrap64, hp1, hp2]) | (with_reducible intro _) | ((with_reducible apply And.intro); omega)))
    (refine condX_intro (fun h3 => ?_) (fun h3 => ?_)) <;> (try simp only [decide_eq_true_eq, decide_eq_false_iff_not, Bool.not_eq_true', Bool.not_eq_false', Bool.and_eq_true, Bool.or_eq_true, not_true_eq_false, not_false_eq_true] at h3)
    · rw [hn (decide_eq_false h3)]
      (repeat (first | (simp (disch := first | exact dis1 | fail) only [evA, Nat.reduceBEq, Nat.reduceAdd, Nat.reduceLeDiff, boxR, rboxR, allocR, fldR, binI, unR, pickR, mknilR, mkslR, buildSlR, buildR, extR, convI, eqB, evU, wrap64, rs_slices_Equal_byte_byte]) | (with_reducible intro _) | ((with_reducible apply And.intro); omega)))
      exact ⟨_, .bool _ _, rfl⟩
    · (repeat (first | (simp (disch := first | exact dis1 | fail) only [evA, Nat.reduceBEq, Nat.reduceAdd, Nat.reduceLeDiff, boxR, rboxR, allocR, fldR, binI, unR, pickR, mknilR, mkslR, buildSlR, buildR, extR, convI, eqB, evU, wrap64]) | (with_reducible intro _) | ((with_reducible apply And.intro); omega)))
      exact ⟨i + 1, ⟨by omega, hs (decide_eq_true (Decidable.not_not.1 h3))⟩, by omega, Ent.keep rfl (by (try simp [subK, Kn.get, beq_eq]) <;> (repeat' with_reducible apply And.intro) <;> first | rfl | omega | (simp; done))⟩
  · rw [eqL_end hlm hq (by omega)]
    unfold ac_slices_Equal_byte_byte_k1
    (repeat (first | (simp (disch := first | exact dis1 | fail) only [evA, Nat.reduceBEq, Nat.reduceAdd, Nat.reduceLeDiff, boxR, rboxR, allocR, fldR, binI, unR, pickR, mknilR, mkslR, buildSlR, buildR, extR, convI, eqB, evU, wrap64, rs_slices_Equal_byte_byte]) | (with_reducible intro _) | ((with_reducible apply And.intro); omega)))
    exact ⟨_, .bool _ _, rfl⟩

theorem R05_SameBytes_ok (l m : List UInt8) : PureFn Try.prog f_R05_SameBytes [encB l, encB m] (· = .bool (eqL eqB1 l m)) := by
  refine fn_x cf_R05_SameBytes rfl ?_
  unfold ac_R05_SameBytes
  have hB : big = 9223372036854775807 := rfl
  (repeat (first | (simp (disch := first | exact dis1 | fail) only [evA, Nat.reduceBEq, Nat.reduceAdd, Nat.reduceLeDiff, boxR, rboxR, allocR, fldR, binI, unR, pickR, mknilR, mkslR, buildSlR, buildR, extR, convI, eqB, evU, wrap64, encB]) | (with_reducible intro _) | ((with_reducible apply And.intro); omega)))
  by_cases hlm : l.length = m.length
  case neg =>
    rw [eqL_nol hlm]
    (repeat (first | (simp (disch := first | exact dis1 | fail) only [evA, Nat.reduceBEq, Nat.reduceAdd, Nat.reduceLeDiff, boxR, rboxR, allocR, fldR, binI, unR, pickR, mknilR, mkslR, buildSlR, buildR, extR, convI, eqB, evU, wrap64, dT, rs_R05_SameBytes]) | (with_reducible intro _) | ((with_reducible apply And.intro); omega)))
    exact ⟨_, .bool _ _, rfl⟩
  (repeat (first | (simp (disch := first | exact dis1 | fail) only [evA, Nat.reduceBEq, Nat.reduceAdd, Nat.reduceLeDiff, boxR, rboxR, allocR, fldR, binI, unR, pickR, mknilR, mkslR, buildSlR, buildR, extR, convI, eqB, evU, wrap64, dF]) | (with_reducible intro _) | ((with_reducible apply And.intro); omega)))
  refine loopX_intro (fun i : Nat => ([(0, encL 1 cByte l), (1, encL 1 cByte m), (5, .int .i64 i)], [])) 0 (fun i => i ≤ l.length ∧ eqTo1 eqB1 l m i) (fun i => l.length - i) 0 ⟨Nat.zero_le _, eqTo_zero⟩ (Ent.keep rfl (by (try simp [subK, Kn.get, beq_eq]) <;> (repeat' with_reducible apply And.intro) <;> first | rfl | omega | (simp; done))) ?_
  rintro i ⟨hi, hq⟩ wf
  unfold ac_R05_SameBytes_l0
  (repeat (first | (simp (disch := first | exact dis1 | fail) only [evA, Nat.reduceBEq, Nat.reduceAdd, Nat.reduceLeDiff, boxR, rboxR, allocR, fldR, binI, unR, pickR, mknilR, mkslR, buildSlR, buildR, extR, convI, eqB, evU, wrap64]) | (with_reducible intro _) | ((with_reducible apply And.intro); omega)))
  (refine condX_intro (fun h => ?_) (fun h => ?_)) <;> (try simp only [decide_eq_true_eq, decide_eq_false_iff_not, Bool.not_eq_true', Bool.not_eq_false', Bool.and_eq_true, Bool.or_eq_true, not_true_eq_false, not_false_eq_true] at h)
  · have h1 : i < l.length := by omega
    have h2 : i < m.length := by omega
    have hs := eqTo_succ h1 h2 hq
    have hn := eqL_no (p := eqB1) h1 h2
    have hp1 : ((l.map cByte).getD i []).getD 0 .undef = .int .u8 ((l[i]).toNat : Int) := by rw [getD_map h1]; rfl
    have hp2 : ((m.map cByte).getD i []).getD 0 .undef = .int .u8 ((m[i]).toNat : Int) := by rw [getD_map h2]; rfl
    (repeat (first | (simp (disch := first | exact dis1 | fail) only [evA, Nat.reduceBEq, Nat.reduceAdd, Nat.reduceLeDiff, boxR, rboxR, allocR, fldR, binI, unR, pickR, mknilR, mkslR, buildSlR, buildR, extR, convI, eqB, evU, wrap64, hp1, hp2]) | (with_reducible intro _) | ((with_reducible apply And.intro); omega)))
    (refine condX_intro (fun h3 => ?_) (fun h3 => ?_)) <;> (try simp only [decide_eq_true_eq, decide_eq_false_iff_not, Bool.not_eq_true', Bool.not_eq_false', Bool.and_eq_true, Bool.or_eq_true, not_true_eq_false, not_false_eq_true] at h3)
    · rw [hn (decide_eq_false h3)]
      (repeat (first | (simp (disch := first | exact dis1 | fail) only [evA, Nat.reduceBEq, Nat.reduceAdd, Nat.reduceLeDiff, boxR, rboxR, allocR, fldR, binI, unR, pickR, mknilR, mkslR, buildSlR, buildR, extR, convI, eqB, evU, wrap64, rs_R05_SameBytes]) | (with_reducible intro _) | ((with_reducible apply And.intro); omega)))
      exact ⟨_, .bool _ _, rfl⟩
    · (repeat (first | (simp (disch := first | exact dis1 | fail) only [evA, Nat.reduceBEq, Nat.reduceAdd, Nat.reduceLeDiff, boxR, rboxR, allocR, fldR, binI, unR, pickR, mknilR, mkslR, buildSlR, buildR, extR, convI, eqB, evU, wrap64]) | (with_reducible intro _) | ((with_reducible apply And.intro); omega)))
      exact ⟨i + 1, ⟨by omega, hs (decide_eq_true (Decidable.not_not.1 h3))⟩, by omega, Ent.keep rfl (by (try simp [subK, Kn.get, beq_eq]) <;> (repeat' with_reducible apply And.intro) <;> first | rfl | omega | (simp; done))⟩
  · rw [eqL_end hlm hq (by omega)]
    unfold ac_R05_SameBytes_k1
    (repeat (first | (simp (disch := first | exact dis1 | fail) only [evA, Nat.reduceBEq, Nat.reduceAdd, Nat.reduceLeDiff, boxR, rboxR, allocR, fldR, binI, unR, pickR, mknilR, mkslR, buildSlR, buildR, extR, convI, eqB, evU, wrap64, rs_R05_SameBytes]) | (with_reducible intro _) | ((with_reducible apply And.intro); omega)))
    exact ⟨_, .bool _ _, rfl⟩

theorem slices_Equal_api_Symbol_api_Symbol_ok (l m : List Sym) : PureFn Try.prog f_slices_Equal_api_Symbol_api_Symbol [encL 3 Sym.cells l, encL 3 Sym.cells m] (· = .bool (eqL eqY l m)) := by
  refine fn_x cf_slices_Equal_api_Symbol_api_Symbol rfl ?_
  unfold ac_slices_Equal_api_Symbol_api_Symbol
  have hB : big = 9223372036854775807 := rfl
  (repeat (first | (simp (disch := first | exact dis1 | fail) only [evA, Nat.reduceBEq, Nat.reduceAdd, Nat.reduceLeDiff, boxR, rboxR, allocR, fldR, binI, unR, pickR, mknilR, mkslR, buildSlR, buildR, extR, convI, eqB, evU, wrap64, encB]) | (with_reducible intro _) | ((with_reducible apply And.intro); omega)))
  by_cases hlm : l.length = m.length
  case neg =>
    rw [eqL_nol hlm]
    (repeat (first | (simp (disch := first | exact dis1 | fail) only [evA, Nat.reduceBEq, Nat.reduceAdd, Nat.reduceLeDiff, boxR, rboxR, allocR, fldR, binI, unR, pickR, mknilR, mkslR, buildSlR, buildR, extR, convI, eqB, evU, wrap64, dT, rs_slices_Equal_api_Symbol_api_Symbol]) | (with_reducible intro _) | ((with_reducible apply And.intro); omega)))
    exact ⟨_, .bool _ _, rfl⟩
  (repeat (first | (simp (disch := first | exact dis1 | fail) only [evA, Nat.reduceBEq, Nat.reduceAdd, Nat.reduceLeDiff, boxR, rboxR, allocR, fldR, binI, unR, pickR, mknilR, mkslR, buildSlR, buildR, extR, convI, eqB, evU, wrap64, dF]) | (with_reducible intro _) | ((with_reducible apply And.intro); omega)))
  refine loopX_intro (fun i : Nat => ([(0, encL 3 Sym.cells l), (1, encL 3 Sym.cells m), (12, .int .i64 l.length), (13, .int .i64 i)], [])) 0 (fun i => i ≤ l.length ∧ eqTo1 eqY l m i) (fun i => l.length - i) 0 ⟨Nat.zero_le _, eqTo_zero⟩ (Ent.keep rfl (by (try simp [subK, Kn.get, beq_eq]) <;> (repeat' with_reducible apply And.intro) <;> first | rfl | omega | (simp; done))) ?_
  rintro i ⟨hi, hq⟩ wf
  unfold ac_slices_Equal_api_Symbol_api_Symbol_l0
  (repeat (first | (simp (disch := first | exact dis1 | fail) only [evA, Nat.reduceBEq, Nat.reduceAdd, Nat.reduceLeDiff, boxR, rboxR, allocR, fldR, binI, unR, pickR, mknilR, mkslR, buildSlR, buildR, extR, convI, eqB, evU, wrap64]) | (with_reducible intro _) | ((with_reducible apply And.intro); omega)))
  (refine condX_intro (fun h => ?_) (fun h => ?_)) <;> (try simp only [decide_eq_true_eq, decide_eq_false_iff_not, Bool.not_eq_true', Bool.not_eq_false', Bool.and_eq_true, Bool.or_eq_true, not_true_eq_false, not_false_eq_true] at h)
  · have h1 : i < l.length := by omega
    have h2 : i < m.length := by omega
    have hs := eqTo_succ h1 h2 hq
    have hn := eqL_no (p := eqY) h1 h2
    have he : xopR (.eqs true [1, 0, 0]) [.agg (l[i]).cells, .agg (m[i]).cells] = fun H nx => ⟨True, True, .bool (!eqY l[i] m[i]), H, nx⟩ := rfl
    have he2 : ∀ {H : AH} {nx : Nat}, xopR (.eqs true [1, 0, 0]) [.agg (l[i]).cells, .agg (m[i]).cells] H nx = ⟨True, True, .bool (!eqY l[i] m[i]), H, nx⟩ := fun {H nx} => rfl
    (repeat (first | (simp (disch := first | exact dis1 | fail) only [evA, Nat.reduceBEq, Nat.reduceAdd, Nat.reduceLeDiff, boxR, rboxR, allocR, fldR, binI, unR, pickR, mknilR, mkslR, buildSlR, buildR, extR, convI, eqB, evU, wrap64, getD_map h1, getD_map h2, Sym.three, Sym.len, Sym.flat, he2]) | (with_reducible intro _) | ((with_reducible apply And.intro); omega)))
    cases hv : eqY l[i] m[i] with
    | false =>
      rw [hn hv]
      (repeat (first | (simp (disch := first | exact dis1 | fail) only [evA, Nat.reduceBEq, Nat.reduceAdd, Nat.reduceLeDiff, boxR, rboxR, allocR, fldR, binI, unR, pickR, mknilR, mkslR, buildSlR, buildR, extR, convI, eqB, evU, wrap64, rs_slices_Equal_api_Symbol_api_Symbol]) | (with_reducible intro _) | ((with_reducible apply And.intro); omega)))
      exact ⟨_, .bool _ _, rfl⟩
    | true =>
      (repeat (first | (simp (disch := first | exact dis1 | fail) only [evA, Nat.reduceBEq, Nat.reduceAdd, Nat.reduceLeDiff, boxR, rboxR, allocR, fldR, binI, unR, pickR, mknilR, mkslR, buildSlR, buildR, extR, convI, eqB, evU, wrap64]) | (with_reducible intro _) | ((with_reducible apply And.intro); omega)))
      exact ⟨i + 1, ⟨by omega, hs hv⟩, by omega, Ent.keep rfl (by (try simp [subK, Kn.get, beq_eq]) <;> (repeat' with_reducible apply And.intro) <;> first | rfl | omega | (simp; done))⟩
  · rw [eqL_end hlm hq (by omega)]
    unfold ac_slices_Equal_api_Symbol_api_Symbol_k1
    (repeat (first | (simp (disch := first | exact dis1 | fail) only [evA, Nat.reduceBEq, Nat.reduceAdd, Nat.reduceLeDiff, boxR, rboxR, allocR, fldR, binI, unR, pickR, mknilR, mkslR, buildSlR, buildR, extR, convI, eqB, evU, wrap64, rs_slices_Equal_api_Symbol_api_Symbol]) | (with_reducible intro _) | ((with_reducible apply And.intro); omega)))
    exact ⟨_, .bool _ _, rfl⟩

theorem slices_Equal_api_Reloc_api_Reloc_ok (l m : List Rel) : PureFn Try.prog f_slices_Equal_api_Reloc_api_Reloc [encL 5 Rel.cells l, encL 5 Rel.cells m] (· = .bool (eqL eqRl l m)) := by
  refine fn_x cf_slices_Equal_api_Reloc_api_Reloc rfl ?_
  unfold ac_slices_Equal_api_Reloc_api_Reloc
  have hB : big = 9223372036854775807 := rfl
  (repeat (first | (simp (disch := first | exact dis1 | fail) only [evA, Nat.reduceBEq, Nat.reduceAdd, Nat.reduceLeDiff, boxR, rboxR, allocR, fldR, binI, unR, pickR, mknilR, mkslR, buildSlR, buildR, extR, convI, eqB, evU, wrap64, encB]) | (with_reducible intro _) | ((with_reducible apply And.intro); omega)))
  by_cases hlm : l.length = m.length
  case neg =>
    rw [eqL_nol hlm]
    (repeat (first | (simp (disch := first | exact dis1 | fail) only [evA, Nat.reduceBEq, Nat.reduceAdd, Nat.reduceLeDiff, boxR, rboxR, allocR, fldR, binI, unR, pickR, mknilR, mkslR, buildSlR, buildR, extR, convI, eqB, evU, wrap64, dT, rs_slices_Equal_api_Reloc_api_Reloc]) | (with_reducible intro _) | ((with_reducible apply And.intro); omega)))
    exact ⟨_, .bool _ _, rfl⟩
  (repeat (first | (simp (disch := first | exact dis1 | fail) only [evA, Nat.reduceBEq, Nat.reduceAdd, Nat.reduceLeDiff, boxR, rboxR, allocR, fldR, binI, unR, pickR, mknilR, mkslR, buildSlR, buildR, extR, convI, eqB, evU, wrap64, dF]) | (with_reducible intro _) | ((with_reducible apply And.intro); omega)))
  refine loopX_intro (fun i : Nat => ([(0, encL 5 Rel.cells l), (1, encL 5 Rel.cells m), (12, .int .i64 l.length), (13, .int .i64 i)], [])) 0 (fun i => i ≤ l.length ∧ eqTo1 eqRl l m i) (fun i => l.length - i) 0 ⟨Nat.zero_le _, eqTo_zero⟩ (Ent.keep rfl (by (try simp [subK, Kn.get, beq_eq]) <;> (repeat' with_reducible apply And.intro) <;> first | rfl | omega | (simp; done))) ?_
  rintro i ⟨hi, hq⟩ wf
  unfold ac_slices_Equal_api_Reloc_api_Reloc_l0
  (repeat (first | (simp (disch := first | exact dis1 | fail) only [evA, Nat.reduceBEq, Nat.reduceAdd, Nat.reduceLeDiff, boxR, rboxR, allocR, fldR, binI, unR, pickR, mknilR, mkslR, buildSlR, buildR, extR, convI, eqB, evU, wrap64]) | (with_reducible intro _) | ((with_reducible apply And.intro); omega)))
  (refine condX_intro (fun h => ?_) (fun h => ?_)) <;> (try simp only [decide_eq_true_eq, decide_eq_false_iff_not, Bool.not_eq_true', Bool.not_eq_false', Bool.and_eq_true, Bool.or_eq_true, not_true_eq_false, not_false_eq_true] at h)
  · have h1 : i < l.length := by omega
    have h2 : i < m.length := by omega
    have hs := eqTo_succ h1 h2 hq
    have hn := eqL_no (p := eqRl) h1 h2
    have he : xopR (.eqs true [0, 0, 0, 1, 0]) [.agg (l[i]).cells, .agg (m[i]).cells] = fun H nx => ⟨True, True, .bool (!eqRl l[i] m[i]), H, nx⟩ := rfl
    have he2 : ∀ {H : AH} {nx : Nat}, xopR (.eqs true [0, 0, 0, 1, 0]) [.agg (l[i]).cells, .agg (m[i]).cells] H nx = ⟨True, True, .bool (!eqRl l[i] m[i]), H, nx⟩ := fun {H nx} => rfl
    (repeat (first | (simp (disch := first | exact dis1 | fail) only [evA, Nat.reduceBEq, Nat.reduceAdd, Nat.reduceLeDiff, boxR, rboxR, allocR, fldR, binI, unR, pickR, mknilR, mkslR, buildSlR, buildR, extR, convI, eqB, evU, wrap64, getD_map h1, getD_map h2, Rel.five, Rel.len, Rel.flat, he2]) | (with_reducible intro _) | ((with_reducible apply And.intro); omega)))
    cases hv : eqRl l[i] m[i] with
    | false =>
      rw [hn hv]
      (repeat (first | (simp (disch := first | exact dis1 | fail) only [evA, Nat.reduceBEq, Nat.reduceAdd, Nat.reduceLeDiff, boxR, rboxR, allocR, fldR, binI, unR, pickR, mknilR, mkslR, buildSlR, buildR, extR, convI, eqB, evU, wrap64, rs_slices_Equal_api_Reloc_api_Reloc]) | (with_reducible intro _) | ((with_reducible apply And.intro); omega)))
      exact ⟨_, .bool _ _, rfl⟩
    | true =>
      (repeat (first | (simp (disch := first | exact dis1 | fail) only [evA, Nat.reduceBEq, Nat.reduceAdd, Nat.reduceLeDiff, boxR, rboxR, allocR, fldR, binI, unR, pickR, mknilR, mkslR, buildSlR, buildR, extR, convI, eqB, evU, wrap64]) | (with_reducible intro _) | ((with_reducible apply And.intro); omega)))
      exact ⟨i + 1, ⟨by omega, hs hv⟩, by omega, Ent.keep rfl (by (try simp [subK, Kn.get, beq_eq]) <;> (repeat' with_reducible apply And.intro) <;> first | rfl | omega | (simp; done))⟩
  · rw [eqL_end hlm hq (by omega)]
    unfold ac_slices_Equal_api_Reloc_api_Reloc_k1
    (repeat (first | (simp (disch := first | exact dis1 | fail) only [evA, Nat.reduceBEq, Nat.reduceAdd, Nat.reduceLeDiff, boxR, rboxR, allocR, fldR, binI, unR, pickR, mknilR, mkslR, buildSlR, buildR, extR, convI, eqB, evU, wrap64, rs_slices_Equal_api_Reloc_api_Reloc]) | (with_reducible intro _) | ((with_reducible apply And.intro); omega)))
    exact ⟨_, .bool _ _, rfl⟩

theorem object_Same_1_ok (a b : Sec) : PureFn Try.prog f_object_Same_1 [.agg a.cells, .agg b.cells] (· = .bool (eqS a b)) := by
  refine fn_x cf_object_Same_1 rfl ?_
  unfold ac_object_Same_1
  have hB : big = 9223372036854775807 := rfl
  have c3 : ∀ s : Sec, s.cells.getD 3 .undef = .bool s.wr := fun _ => rfl
  (repeat (first | (simp (disch := first | exact dis1 | fail) only [evA, Nat.reduceBEq, Nat.reduceAdd, Nat.reduceLeDiff, boxR, rboxR, allocR, fldR, binI, unR, pickR, mknilR, mkslR, buildSlR, buildR, extR, convI, eqB, evU, wrap64, Sec.len, Sec.flat]) | (with_reducible intro _) | ((with_reducible apply And.intro); omega)))
  by_cases n1 : a.name = b.name
  case neg =>
    (repeat (first | (simp (disch := first | exact dis1 | fail) only [evA, Nat.reduceBEq, Nat.reduceAdd, Nat.reduceLeDiff, boxR, rboxR, allocR, fldR, binI, unR, pickR, mknilR, mkslR, buildSlR, buildR, extR, convI, eqB, evU, wrap64, Sec.c0, dF, rs_object_Same_1]) | (with_reducible intro _) | ((with_reducible apply And.intro); omega)))
    refine ⟨_, .bool _ _, ?_⟩
    rw [eqS, decide_eq_false n1]
    simp
  by_cases n2 : (a.addr.toNat : Int) = b.addr.toNat
  case neg =>
    (repeat (first | (simp (disch := first | exact dis1 | fail) only [evA, Nat.reduceBEq, Nat.reduceAdd, Nat.reduceLeDiff, boxR, rboxR, allocR, fldR, binI, unR, pickR, mknilR, mkslR, buildSlR, buildR, extR, convI, eqB, evU, wrap64, Sec.c0, Sec.c1, dT, dF, rs_object_Same_1]) | (with_reducible intro _) | ((with_reducible apply And.intro); omega)))
    refine ⟨_, .bool _ _, ?_⟩
    rw [eqS, decide_eq_false n2]
    simp
  have d1 : decide (a.name = b.name) = true := decide_eq_true n1
  have d2 : decide ((a.addr.toNat : Int) = b.addr.toNat) = true := decide_eq_true n2
  (repeat (first | (simp (disch := first | exact dis1 | fail) only [evA, Nat.reduceBEq, Nat.reduceAdd, Nat.reduceLeDiff, boxR, rboxR, allocR, fldR, binI, unR, pickR, mknilR, mkslR, buildSlR, buildR, extR, convI, eqB, evU, wrap64, Sec.c0, Sec.c1, d1, d2, Sec.c2]) | (with_reducible intro _) | ((with_reducible apply And.intro); omega)))
  refine callX_fix (call_flat (slices_Equal_byte_byte_ok a.data b.data) rfl) ?_
  unfold eqS
  rw [d1, d2]
  cases eqL eqB1 a.data b.data with
  | false =>
    (repeat (first | (simp (disch := first | exact dis1 | fail) only [evA, Nat.reduceBEq, Nat.reduceAdd, Nat.reduceLeDiff, boxR, rboxR, allocR, fldR, binI, unR, pickR, mknilR, mkslR, buildSlR, buildR, extR, convI, eqB, evU, wrap64, rs_object_Same_1]) | (with_reducible intro _) | ((with_reducible apply And.intro); omega)))
    exact ⟨_, .bool _ _, rfl⟩
  | true =>
    (repeat (first | (simp (disch := first | exact dis1 | fail) only [evA, Nat.reduceBEq, Nat.reduceAdd, Nat.reduceLeDiff, boxR, rboxR, allocR, fldR, binI, unR, pickR, mknilR, mkslR, buildSlR, buildR, extR, convI, eqB, evU, wrap64, c3]) | (with_reducible intro _) | ((with_reducible apply And.intro); omega)))
    cases (a.wr == b.wr) with
    | false =>
      (repeat (first | (simp (disch := first | exact dis1 | fail) only [evA, Nat.reduceBEq, Nat.reduceAdd, Nat.reduceLeDiff, boxR, rboxR, allocR, fldR, binI, unR, pickR, mknilR, mkslR, buildSlR, buildR, extR, convI, eqB, evU, wrap64, rs_object_Same_1]) | (with_reducible intro _) | ((with_reducible apply And.intro); omega)))
      exact ⟨_, .bool _ _, rfl⟩
    | true =>
      (repeat (first | (simp (disch := first | exact dis1 | fail) only [evA, Nat.reduceBEq, Nat.reduceAdd, Nat.reduceLeDiff, boxR, rboxR, allocR, fldR, binI, unR, pickR, mknilR, mkslR, buildSlR, buildR, extR, convI, eqB, evU, wrap64, Sec.c4, rs_object_Same_1]) | (with_reducible intro _) | ((with_reducible apply And.intro); omega)))
      exact ⟨_, .bool _ _, rfl⟩

theorem slices_EqualFunc_ok (l m : List Sec) : PureFn Try.prog f_slices_EqualFunc_api_Section_api_Section_api_Section_api_Section [encL 5 Sec.cells l, encL 5 Sec.cells m, .fn (.func f_object_Same_1) []] (· = .bool (eqL eqS l m)) := by
  refine fn_x cf_slices_EqualFunc_api_Section_api_Section_api_Section_api_Section rfl ?_
  unfold ac_slices_EqualFunc_api_Section_api_Section_api_Section_api_Section
  have hB : big = 9223372036854775807 := rfl
  have hgood : fnGood Try.prog f_object_Same_1 = true := by kernel_rfl
  (repeat (first | (simp (disch := first | exact dis1 | fail) only [evA, Nat.reduceBEq, Nat.reduceAdd, Nat.reduceLeDiff, boxR, rboxR, allocR, fldR, binI, unR, pickR, mknilR, mkslR, buildSlR, buildR, extR, convI, eqB, evU, wrap64]) | (with_reducible intro _) | ((with_reducible apply And.intro); omega)))
  by_cases hlm : l.length = m.length
  case neg =>
    rw [eqL_nol hlm]
    (repeat (first | (simp (disch := first | exact dis1 | fail) only [evA, Nat.reduceBEq, Nat.reduceAdd, Nat.reduceLeDiff, boxR, rboxR, allocR, fldR, binI, unR, pickR, mknilR, mkslR, buildSlR, buildR, extR, convI, eqB, evU, wrap64, dT, rs_slices_EqualFunc_api_Section_api_Section_api_Section_api_Section]) | (with_reducible intro _) | ((with_reducible apply And.intro); omega)))
    exact ⟨_, .bool _ _, rfl⟩
  (repeat (first | (simp (disch := first | exact dis1 | fail) only [evA, Nat.reduceBEq, Nat.reduceAdd, Nat.reduceLeDiff, boxR, rboxR, allocR, fldR, binI, unR, pickR, mknilR, mkslR, buildSlR, buildR, extR, convI, eqB, evU, wrap64, dF]) | (with_reducible intro _) | ((with_reducible apply And.intro); omega)))
  refine loopX_intro (fun i : Nat => ([(1, encL 5 Sec.cells m), (2, .fn (.func f_object_Same_1) []), (15, encL 5 Sec.cells l), (16, .int .i64 l.length), (17, .int .i64 i)], [])) 0 (fun i => i ≤ l.length ∧ eqTo1 eqS l m i) (fun i => l.length - i) 0 ⟨Nat.zero_le _, eqTo_zero⟩ (Ent.keep rfl (by (try simp [subK, Kn.get, beq_eq]) <;> (repeat' with_reducible apply And.intro) <;> first | rfl | omega | (simp; done))) ?_
  rintro i ⟨hi, hq⟩ wf
  unfold ac_slices_EqualFunc_api_Section_api_Section_api_Section_api_Section_l0
  (repeat (first | (simp (disch := first | exact dis1 | fail) only [evA, Nat.reduceBEq, Nat.reduceAdd, Nat.reduceLeDiff, boxR, rboxR, allocR, fldR, binI, unR, pickR, mknilR, mkslR, buildSlR, buildR, extR, convI, eqB, evU, wrap64]) | (with_reducible intro _) | ((with_reducible apply And.intro); omega)))
  (refine condX_intro (fun h => ?_) (fun h => ?_)) <;> (try simp only [decide_eq_true_eq, decide_eq_false_iff_not, Bool.not_eq_true', Bool.not_eq_false', Bool.and_eq_true, Bool.or_eq_true, not_true_eq_false, not_false_eq_true] at h)
  · have h1 : i < l.length := by omega
    have h2 : i < m.length := by omega
    have hs := eqTo_succ h1 h2 hq
    have hn := eqL_no (p := eqS) h1 h2
    (repeat (first | (simp (disch := first | exact dis1 | fail) only [evA, Nat.reduceBEq, Nat.reduceAdd, Nat.reduceLeDiff, boxR, rboxR, allocR, fldR, binI, unR, pickR, mknilR, mkslR, buildSlR, buildR, extR, convI, eqB, evU, wrap64, getD_map h1, getD_map h2, Sec.five, Sec.len, Sec.flat, hgood]) | (with_reducible intro _) | ((with_reducible apply And.intro); omega)))
    refine callX_fix (call_flat (object_Same_1_ok l[i] m[i]) rfl) ?_
    cases hv : eqS l[i] m[i] with
    | false =>
      rw [hn hv]
      (repeat (first | (simp (disch := first | exact dis1 | fail) only [evA, Nat.reduceBEq, Nat.reduceAdd, Nat.reduceLeDiff, boxR, rboxR, allocR, fldR, binI, unR, pickR, mknilR, mkslR, buildSlR, buildR, extR, convI, eqB, evU, wrap64, rs_slices_EqualFunc_api_Section_api_Section_api_Section_api_Section]) | (with_reducible intro _) | ((with_reducible apply And.intro); omega)))
      exact ⟨_, .bool _ _, rfl⟩
    | true =>
      (repeat (first | (simp (disch := first | exact dis1 | fail) only [evA, Nat.reduceBEq, Nat.reduceAdd, Nat.reduceLeDiff, boxR, rboxR, allocR, fldR, binI, unR, pickR, mknilR, mkslR, buildSlR, buildR, extR, convI, eqB, evU, wrap64]) | (with_reducible intro _) | ((with_reducible apply And.intro); omega)))
      exact ⟨i + 1, ⟨by omega, hs hv⟩, by omega, (Ent.tab [] [] rfl (by (try simp only [evWA, Nat.reduceBEq, Nat.reduceAdd, Nat.reduceSub, Nat.reduceLeDiff, Nat.reduceLT, implies_true, and_self, Int.natCast_zero, Int.natCast_one, Int.cast_ofNat_Int, evV, encInts, encNats, encBools, encP]) <;> exact fin1) (by (try simp only [evWA, Nat.reduceBEq, Nat.reduceAdd, Nat.reduceSub, Nat.reduceLeDiff, Nat.reduceLT, implies_true, and_self, Int.natCast_zero, Int.natCast_one, Int.cast_ofNat_Int, evV, encInts, encNats, encBools, encP]) <;> exact fin1))⟩
  · rw [eqL_end hlm hq (by omega)]
    unfold ac_slices_EqualFunc_api_Section_api_Section_api_Section_api_Section_k1
    (repeat (first | (simp (disch := first | exact dis1 | fail) only [evA, Nat.reduceBEq, Nat.reduceAdd, Nat.reduceLeDiff, boxR, rboxR, allocR, fldR, binI, unR, pickR, mknilR, mkslR, buildSlR, buildR, extR, convI, eqB, evU, wrap64, rs_slices_EqualFunc_api_Section_api_Section_api_Section_api_Section]) | (with_reducible intro _) | ((with_reducible apply And.intro); omega)))
    exact ⟨_, .bool _ _, rfl⟩

theorem object_Same_ok (a b : Bin) : PureFn Try.prog f_object_Same [.agg a.cells, .agg b.cells] (· = .bool (sameO a b)) := by
  refine fn_x cf_object_Same rfl ?_
  unfold ac_object_Same
  have hB : big = 9223372036854775807 := rfl
  (repeat (first | (simp (disch := first | exact dis1 | fail) only [evA, Nat.reduceBEq, Nat.reduceAdd, Nat.reduceLeDiff, boxR, rboxR, allocR, fldR, binI, unR, pickR, mknilR, mkslR, buildSlR, buildR, extR, convI, eqB, evU, wrap64, Bin.len, Bin.flat, Bin.c1]) | (with_reducible intro _) | ((with_reducible apply And.intro); omega)))
  refine callX_fix (call_fix (D := noR) (slices_EqualFunc_ok a.secs b.secs) (.cons (.sl _ _ _ _) (.cons (.sl _ _ _ _) (.cons (.fn _ _ _ _ rfl (fun i x y h => by cases i <;> cases h)) .nil))) (.inl rfl)) ?_
  unfold sameO
  cases eqL eqS a.secs b.secs with
  | false =>
    (repeat (first | (simp (disch := first | exact dis1 | fail) only [evA, Nat.reduceBEq, Nat.reduceAdd, Nat.reduceLeDiff, boxR, rboxR, allocR, fldR, binI, unR, pickR, mknilR, mkslR, buildSlR, buildR, extR, convI, eqB, evU, wrap64, rs_object_Same]) | (with_reducible intro _) | ((with_reducible apply And.intro); omega)))
    exact ⟨_, .bool _ _, rfl⟩
  | true =>
    (repeat (first | (simp (disch := first | exact dis1 | fail) only [evA, Nat.reduceBEq, Nat.reduceAdd, Nat.reduceLeDiff, boxR, rboxR, allocR, fldR, binI, unR, pickR, mknilR, mkslR, buildSlR, buildR, extR, convI, eqB, evU, wrap64, Bin.c0, Bin.len]) | (with_reducible intro _) | ((with_reducible apply And.intro); omega)))
    by_cases n2 : (a.entry.toNat : Int) = b.entry.toNat
    case neg =>
      rw [decide_eq_false n2]
      (repeat (first | (simp (disch := first | exact dis1 | fail) only [evA, Nat.reduceBEq, Nat.reduceAdd, Nat.reduceLeDiff, boxR, rboxR, allocR, fldR, binI, unR, pickR, mknilR, mkslR, buildSlR, buildR, extR, convI, eqB, evU, wrap64, Bin.c0, Bin.len, dF, rs_object_Same]) | (with_reducible intro _) | ((with_reducible apply And.intro); omega)))
      exact ⟨_, .bool _ _, rfl⟩
    have d2 : decide ((a.entry.toNat : Int) = b.entry.toNat) = true := decide_eq_true n2
    rw [d2]
    (repeat (first | (simp (disch := first | exact dis1 | fail) only [evA, Nat.reduceBEq, Nat.reduceAdd, Nat.reduceLeDiff, boxR, rboxR, allocR, fldR, binI, unR, pickR, mknilR, mkslR, buildSlR, buildR, extR, convI, eqB, evU, wrap64, Bin.c0, Bin.len, d2, Bin.c2]) | (with_reducible intro _) | ((with_reducible apply And.intro); omega)))
    refine callX_fix (call_flat (slices_Equal_api_Symbol_api_Symbol_ok a.syms b.syms) rfl) ?_
    cases eqL eqY a.syms b.syms with
    | false =>
      (repeat (first | (simp (disch := first | exact dis1 | fail) only [evA, Nat.reduceBEq, Nat.reduceAdd, Nat.reduceLeDiff, boxR, rboxR, allocR, fldR, binI, unR, pickR, mknilR, mkslR, buildSlR, buildR, extR, convI, eqB, evU, wrap64, rs_object_Same]) | (with_reducible intro _) | ((with_reducible apply And.intro); omega)))
      exact ⟨_, .bool _ _, rfl⟩
    | true =>
      (repeat (first | (simp (disch := first | exact dis1 | fail) only [evA, Nat.reduceBEq, Nat.reduceAdd, Nat.reduceLeDiff, boxR, rboxR, allocR, fldR, binI, unR, pickR, mknilR, mkslR, buildSlR, buildR, extR, convI, eqB, evU, wrap64, Bin.c3, Bin.len]) | (with_reducible intro _) | ((with_reducible apply And.intro); omega)))
      refine callX_fix (call_flat (slices_Equal_api_Reloc_api_Reloc_ok a.rels b.rels) rfl) ?_
      (repeat (first | (simp (disch := first | exact dis1 | fail) only [evA, Nat.reduceBEq, Nat.reduceAdd, Nat.reduceLeDiff, boxR, rboxR, allocR, fldR, binI, unR, pickR, mknilR, mkslR, buildSlR, buildR, extR, convI, eqB, evU, wrap64, rs_object_Same]) | (with_reducible intro _) | ((with_reducible apply And.intro); omega)))
      exact ⟨_, .bool _ _, rfl⟩

end Go.Ab

namespace Go.Ab
open Go.RowKit Go.Proofs

def largeL : List Sec → Int → Bool
  | [], _ => false
  | s :: r, n => if 200000 < IntKind.i64.wrap (n + s.data.length) then true else largeL r (IntKind.i64.wrap (n + s.data.length))
def largeO (o : Bin) : Bool := if 40 < o.secs.length ∨ 300 < o.syms.length ∨ 300 < o.rels.length then true else largeL o.secs 0

theorem largeL_step {l : List Sec} {i : Nat} {n : Int} (h : i < l.length) : largeL (l.drop i) n = if 200000 < IntKind.i64.wrap (n + l[i].data.length) then true else largeL (l.drop (i + 1)) (IntKind.i64.wrap (n + l[i].data.length)) := by
  rw [List.drop_eq_getElem_cons h]
  rfl

theorem L08_large_ok (o : Bin) : PureFn Try.prog f_L08_large [.agg o.cells] (· = .bool (largeO o)) := by
  refine fn_x cf_L08_large rfl ?_
  unfold ac_L08_large
  have hB : big = 9223372036854775807 := rfl
  (repeat (first | (simp (disch := first | exact dis1 | fail) only [evA, Nat.reduceBEq, Nat.reduceAdd, Nat.reduceLeDiff, boxR, rboxR, allocR, fldR, binI, unR, pickR, mknilR, mkslR, buildSlR, buildR, extR, convI, eqB, evU, wrap64, Bin.len, Bin.flat, Bin.c1]) | (with_reducible intro _) | ((with_reducible apply And.intro); omega)))
  by_cases h1 : 40 < o.secs.length
  · rw [largeO, if_pos (.inl h1)]
    (repeat (first | (simp (disch := first | exact dis1 | fail) only [evA, Nat.reduceBEq, Nat.reduceAdd, Nat.reduceLeDiff, boxR, rboxR, allocR, fldR, binI, unR, pickR, mknilR, mkslR, buildSlR, buildR, extR, convI, eqB, evU, wrap64, dT, rs_L08_large]) | (with_reducible intro _) | ((with_reducible apply And.intro); omega)))
    exact ⟨_, .bool _ _, rfl⟩
  by_cases h2 : 300 < o.syms.length
  · rw [largeO, if_pos (.inr (.inl h2))]
    (repeat (first | (simp (disch := first | exact dis1 | fail) only [evA, Nat.reduceBEq, Nat.reduceAdd, Nat.reduceLeDiff, boxR, rboxR, allocR, fldR, binI, unR, pickR, mknilR, mkslR, buildSlR, buildR, extR, convI, eqB, evU, wrap64, dT, dF, Bin.c2, Bin.len, rs_L08_large]) | (with_reducible intro _) | ((with_reducible apply And.intro); omega)))
    exact ⟨_, .bool _ _, rfl⟩
  by_cases h3 : 300 < o.rels.length
  · rw [largeO, if_pos (.inr (.inr h3))]
    (repeat (first | (simp (disch := first | exact dis1 | fail) only [evA, Nat.reduceBEq, Nat.reduceAdd, Nat.reduceLeDiff, boxR, rboxR, allocR, fldR, binI, unR, pickR, mknilR, mkslR, buildSlR, buildR, extR, convI, eqB, evU, wrap64, dT, dF, Bin.c2, Bin.c3, Bin.len, rs_L08_large]) | (with_reducible intro _) | ((with_reducible apply And.intro); omega)))
    exact ⟨_, .bool _ _, rfl⟩
  rw [largeO, if_neg (by omega)]
  generalize hR : largeL o.secs 0 = R
  (repeat (first | (simp (disch := first | exact dis1 | fail) only [evA, Nat.reduceBEq, Nat.reduceAdd, Nat.reduceLeDiff, boxR, rboxR, allocR, fldR, binI, unR, pickR, mknilR, mkslR, buildSlR, buildR, extR, convI, eqB, evU, wrap64, dF, Bin.c2, Bin.c3, Bin.len]) | (with_reducible intro _) | ((with_reducible apply And.intro); omega)))
  refine loopX_intro (fun s : Nat × Int => ([(1, encP 4 o.cells), (3, .int .i64 s.2), (4, .int .i64 s.1)], [])) 0 (fun s => s.1 ≤ o.secs.length ∧ largeL (o.secs.drop s.1) s.2 = R) (fun s => o.secs.length - s.1) (0, 0) ⟨Nat.zero_le _, hR⟩ (Ent.keep rfl (by (try simp [subK, Kn.get, beq_eq]) <;> (repeat' with_reducible apply And.intro) <;> first | rfl | omega | (simp; done))) ?_
  rintro ⟨i, n⟩ ⟨hi, hgo⟩ wf
  simp only at hi hgo
  unfold ac_L08_large_l0
  (repeat (first | (simp (disch := first | exact dis1 | fail) only [evA, Nat.reduceBEq, Nat.reduceAdd, Nat.reduceLeDiff, boxR, rboxR, allocR, fldR, binI, unR, pickR, mknilR, mkslR, buildSlR, buildR, extR, convI, eqB, evU, wrap64, fldP, Bin.c1, Bin.len]) | (with_reducible intro _) | ((with_reducible apply And.intro); omega)))
  (refine condX_intro (fun h => ?_) (fun h => ?_)) <;> (try simp only [decide_eq_true_eq, decide_eq_false_iff_not, Bool.not_eq_true', Bool.not_eq_false', Bool.and_eq_true, Bool.or_eq_true, not_true_eq_false, not_false_eq_true] at h)
  · have hi' : i < o.secs.length := by omega
    rw [largeL_step hi'] at hgo
    (repeat (first | (simp (disch := first | exact dis1 | fail) only [evA, Nat.reduceBEq, Nat.reduceAdd, Nat.reduceLeDiff, boxR, rboxR, allocR, fldR, binI, unR, pickR, mknilR, mkslR, buildSlR, buildR, extR, convI, eqB, evU, wrap64, getD_map hi', fldP, Bin.c1, Bin.len, Sec.c2, Sec.len]) | (with_reducible intro _) | ((with_reducible apply And.intro); omega)))
    generalize IntKind.i64.wrap (n + (o.secs[i].data.length : Int)) = n2 at *
    (repeat (first | (simp (disch := first | exact dis1 | fail) only [evA, Nat.reduceBEq, Nat.reduceAdd, Nat.reduceLeDiff, boxR, rboxR, allocR, fldR, binI, unR, pickR, mknilR, mkslR, buildSlR, buildR, extR, convI, eqB, evU, wrap64]) | (with_reducible intro _) | ((with_reducible apply And.intro); omega)))
    (refine condX_intro (fun h4 => ?_) (fun h4 => ?_)) <;> (try simp only [decide_eq_true_eq, decide_eq_false_iff_not, Bool.not_eq_true', Bool.not_eq_false', Bool.and_eq_true, Bool.or_eq_true, not_true_eq_false, not_false_eq_true] at h4)
    · rw [if_pos h4] at hgo
      rw [← hgo]
      (repeat (first | (simp (disch := first | exact dis1 | fail) only [evA, Nat.reduceBEq, Nat.reduceAdd, Nat.reduceLeDiff, boxR, rboxR, allocR, fldR, binI, unR, pickR, mknilR, mkslR, buildSlR, buildR, extR, convI, eqB, evU, wrap64, rs_L08_large]) | (with_reducible intro _) | ((with_reducible apply And.intro); omega)))
      exact ⟨_, .bool _ _, rfl⟩
    · rw [if_neg h4] at hgo
      (repeat (first | (simp (disch := first | exact dis1 | fail) only [evA, Nat.reduceBEq, Nat.reduceAdd, Nat.reduceLeDiff, boxR, rboxR, allocR, fldR, binI, unR, pickR, mknilR, mkslR, buildSlR, buildR, extR, convI, eqB, evU, wrap64]) | (with_reducible intro _) | ((with_reducible apply And.intro); omega)))
      exact ⟨(i + 1, n2), ⟨by simp only; omega, hgo⟩, by simp only; omega, Ent.keep rfl (by (try simp [subK, Kn.get, beq_eq]) <;> (repeat' with_reducible apply And.intro) <;> first | rfl | omega | (simp; done))⟩
  · rw [List.drop_of_length_le (by omega)] at hgo
    rw [← hgo]
    unfold ac_L08_large_k1
    (repeat (first | (simp (disch := first | exact dis1 | fail) only [evA, Nat.reduceBEq, Nat.reduceAdd, Nat.reduceLeDiff, boxR, rboxR, allocR, fldR, binI, unR, pickR, mknilR, mkslR, buildSlR, buildR, extR, convI, eqB, evU, wrap64, rs_L08_large]) | (with_reducible intro _) | ((with_reducible apply And.intro); omega)))
    exact ⟨_, .bool _ _, rfl⟩

theorem large_few {o : Bin} (h : largeO o = false) : o.syms.length ≤ 300 ∧ o.rels.length ≤ 300 := by
  unfold largeO at h
  by_cases h1 : 40 < o.secs.length ∨ 300 < o.syms.length ∨ 300 < o.rels.length
  · rw [if_pos h1] at h; cases h
  · omega

def exS : Sec := ⟨⟨#[116]⟩, 4096, [1], false, true⟩
def exO : Bin := ⟨4096, [exS], [], []⟩

theorem L08_example_ok : PureFn Try.prog f_L08_example [] (· = .agg exO.cells) := by
  refine fn_x cf_L08_example rfl ?_
  unfold ac_L08_example
  have hB : big = 9223372036854775807 := rfl
  (repeat (first | (simp (disch := first | exact dis1 | fail) only [evA, Nat.reduceBEq, Nat.reduceAdd, Nat.reduceLeDiff, boxR, rboxR, allocR, fldR, binI, unR, pickR, mknilR, mkslR, buildSlR, buildR, extR, convI, eqB, evU, wrap64, rs_L08_example]) | (with_reducible intro _) | ((with_reducible apply And.intro); omega)))
  refine ⟨.agg exO.cells, .agg _ _ _ rfl (fun i a c h1 h2 => ?_), rfl⟩
  match i with
  | 0 => cases h1; cases h2; exact .int _ _ _
  | 1 =>
    cases h1; cases h2
    refine .frz _ 2 0 0 0 1 5 _ _ trivial rfl (by decide) (Nat.le_refl 1) (fun i j hi hj => ?_)
    obtain rfl : i = 0 := by omega
    match j with
    | 0 => exact .str _ _
    | 1 => exact .int _ _ _
    | 2 => exact vw_bytes (l := [1]) trivial rfl rfl (by decide)
    | 3 => exact .bool _ _
    | 4 => exact .bool _ _
    | j + 5 => omega
  | 2 => cases h1; cases h2; exact .nil0 _ _ _
  | 3 => cases h1; cases h2; exact .nil0 _ _ _
  | i + 4 => cases h1

theorem exO_okN : exO.okN := ⟨fun s hs => (by rw [List.mem_singleton.1 hs]; exact (show 1 ≤ big by decide)), fun s hs => (by cases hs), by decide, by decide⟩

theorem exO_check : checkO exO = 0 := by decide

theorem exO_len : (fullB exO).length = 29 := by
  rw [fullB, List.length_append, leB_len]
  rfl

theorem exO_encode : encodeO exO = (fullB exO, 0) := encodeO_good exO_check (by rw [exO_len]; decide)

theorem exO_head : (fullB exO)[0]'(by rw [exO_len]; decide) = 68 := rfl

theorem exO_same : sameO exO exO = true := by decide

theorem L08_exampleHolds_ok : PureFn Try.prog f_L08_exampleHolds [] (· = .bool true) := by
  refine fn_x cf_L08_exampleHolds rfl ?_
  unfold ac_L08_exampleHolds
  have hB : big = 9223372036854775807 := rfl
  (repeat (first | (simp (disch := first | exact dis1 | fail) only [evA, Nat.reduceBEq, Nat.reduceAdd, Nat.reduceLeDiff, boxR, rboxR, allocR, fldR, binI, unR, pickR, mknilR, mkslR, buildSlR, buildR, extR, convI, eqB, evU, wrap64]) | (with_reducible intro _) | ((with_reducible apply And.intro); omega)))
  refine callX_fix (call_flat L08_example_ok rfl) ?_
  (repeat (first | (simp (disch := first | exact dis1 | fail) only [evA, Nat.reduceBEq, Nat.reduceAdd, Nat.reduceLeDiff, boxR, rboxR, allocR, fldR, binI, unR, pickR, mknilR, mkslR, buildSlR, buildR, extR, convI, eqB, evU, wrap64]) | (with_reducible intro _) | ((with_reducible apply And.intro); omega)))
  refine callX_fix (call_flat (object_Encode_ok exO exO_okN) rfl) ?_
  rw [exO_encode]
  have hlen := exO_len
  have hhd : ((List.map cByte (fullB exO)).getD 0 []).getD 0 .undef = .int .u8 68 := by
    rw [getD_map (by rw [exO_len]; decide), exO_head]
    rfl
  have hhd2 : ((List.map cByte (fullB exO)).getD (Int.toNat 0) []).getD 0 .undef = .int .u8 68 := hhd
  generalize fullB exO = l at *
  (repeat (first | (simp (disch := first | exact dis1 | fail) only [evA, Nat.reduceBEq, Nat.reduceAdd, Nat.reduceLeDiff, boxR, rboxR, allocR, fldR, binI, unR, pickR, mknilR, mkslR, buildSlR, buildR, extR, convI, eqB, evU, wrap64, encR, encB, dT, hlen, hhd2]) | (with_reducible intro _) | ((with_reducible apply And.intro); omega)))
  have hcs := object_Checksum_ok [1, 2, 3] (by decide)
  rw [show sumK ([1, 2, 3] : List UInt8) ([1, 2, 3] : List UInt8).length = 14 from rfl] at hcs
  refine callX_fix (call_fix (D := allR) hcs (.cons (vw_bytes (l := [1, 2, 3]) trivial rfl rfl (by decide)) .nil) (.inl rfl)) ?_
  (repeat (first | (simp (disch := first | exact dis1 | fail) only [evA, Nat.reduceBEq, Nat.reduceAdd, Nat.reduceLeDiff, boxR, rboxR, allocR, fldR, binI, unR, pickR, mknilR, mkslR, buildSlR, buildR, extR, convI, eqB, evU, wrap64, dT]) | (with_reducible intro _) | ((with_reducible apply And.intro); omega)))
  refine callX_fix (call_flat L08_example_ok rfl) ?_
  (repeat (first | (simp (disch := first | exact dis1 | fail) only [evA, Nat.reduceBEq, Nat.reduceAdd, Nat.reduceLeDiff, boxR, rboxR, allocR, fldR, binI, unR, pickR, mknilR, mkslR, buildSlR, buildR, extR, convI, eqB, evU, wrap64]) | (with_reducible intro _) | ((with_reducible apply And.intro); omega)))
  refine callX_fix (call_flat L08_example_ok rfl) ?_
  (repeat (first | (simp (disch := first | exact dis1 | fail) only [evA, Nat.reduceBEq, Nat.reduceAdd, Nat.reduceLeDiff, boxR, rboxR, allocR, fldR, binI, unR, pickR, mknilR, mkslR, buildSlR, buildR, extR, convI, eqB, evU, wrap64]) | (with_reducible intro _) | ((with_reducible apply And.intro); omega)))
  refine callX_fix (call_flat (object_Same_ok exO exO) rfl) ?_
  rw [exO_same]
  (repeat (first | (simp (disch := first | exact dis1 | fail) only [evA, Nat.reduceBEq, Nat.reduceAdd, Nat.reduceLeDiff, boxR, rboxR, allocR, fldR, binI, unR, pickR, mknilR, mkslR, buildSlR, buildR, extR, convI, eqB, evU, wrap64, rs_L08_exampleHolds]) | (with_reducible intro _) | ((with_reducible apply And.intro); omega)))
  exact ⟨_, .bool _ _, rfl⟩

end Go.Ab

namespace Go.Ab
open Go.RowKit Go.Proofs

set_option maxRecDepth 20000 in
theorem R05_SameSections_ok (l m : List Sec) : PureFn Try.prog f_R05_SameSections [encL 5 Sec.cells l, encL 5 Sec.cells m] (· = .bool (eqL eqS l m)) := by
  refine fn_x cf_R05_SameSections rfl ?_
  unfold ac_R05_SameSections
  have hB : big = 9223372036854775807 := rfl
  have c3 : ∀ s : Sec, s.cells.getD 3 .undef = .bool s.wr := fun _ => rfl
  (repeat (first | (simp (disch := first | exact dis1 | fail) only [evA, Nat.reduceBEq, Nat.reduceAdd, Nat.reduceLeDiff, boxR, rboxR, allocR, fldR, binI, unR, pickR, mknilR, mkslR, buildSlR, buildR, extR, convI, eqB, evU, wrap64]) | (with_reducible intro _) | ((with_reducible apply And.intro); omega)))
  by_cases hlm : l.length = m.length
  case neg =>
    rw [eqL_nol hlm]
    (repeat (first | (simp (disch := first | exact dis1 | fail) only [evA, Nat.reduceBEq, Nat.reduceAdd, Nat.reduceLeDiff, boxR, rboxR, allocR, fldR, binI, unR, pickR, mknilR, mkslR, buildSlR, buildR, extR, convI, eqB, evU, wrap64, dT, rs_R05_SameSections]) | (with_reducible intro _) | ((with_reducible apply And.intro); omega)))
    exact ⟨_, .bool _ _, rfl⟩
  (repeat (first | (simp (disch := first | exact dis1 | fail) only [evA, Nat.reduceBEq, Nat.reduceAdd, Nat.reduceLeDiff, boxR, rboxR, allocR, fldR, binI, unR, pickR, mknilR, mkslR, buildSlR, buildR, extR, convI, eqB, evU, wrap64, dF]) | (with_reducible intro _) | ((with_reducible apply And.intro); omega)))
  refine loopX_intro (fun i : Nat => ([(0, encL 5 Sec.cells l), (1, encL 5 Sec.cells m), (5, .int .i64 i)], [])) 0 (fun i => i ≤ l.length ∧ eqTo1 eqS l m i) (fun i => l.length - i) 0 ⟨Nat.zero_le _, eqTo_zero⟩ (Ent.keep rfl (by (try simp [subK, Kn.get, beq_eq]) <;> (repeat' with_reducible apply And.intro) <;> first | rfl | omega | (simp; done))) ?_
  rintro i ⟨hi, hq⟩ wf
  unfold ac_R05_SameSections_l0
  (repeat (first | (simp (disch := first | exact dis1 | fail) only [evA, Nat.reduceBEq, Nat.reduceAdd, Nat.reduceLeDiff, boxR, rboxR, allocR, fldR, binI, unR, pickR, mknilR, mkslR, buildSlR, buildR, extR, convI, eqB, evU, wrap64]) | (with_reducible intro _) | ((with_reducible apply And.intro); omega)))
  (refine condX_intro (fun h => ?_) (fun h => ?_)) <;> (try simp only [decide_eq_true_eq, decide_eq_false_iff_not, Bool.not_eq_true', Bool.not_eq_false', Bool.and_eq_true, Bool.or_eq_true, not_true_eq_false, not_false_eq_true] at h)
  · have h1 : i < l.length := by omega
    have h2 : i < m.length := by omega
    have hs := eqTo_succ h1 h2 hq
    have hn := eqL_no (p := eqS) h1 h2
    have no : eqS l[i] m[i] = false → eqL eqS l m = false := hn
    (repeat (first | (simp (disch := first | exact dis1 | fail) only [evA, Nat.reduceBEq, Nat.reduceAdd, Nat.reduceLeDiff, boxR, rboxR, allocR, fldR, binI, unR, pickR, mknilR, mkslR, buildSlR, buildR, extR, convI, eqB, evU, wrap64, getD_map h1, getD_map h2, Sec.c0, Sec.len]) | (with_reducible intro _) | ((with_reducible apply And.intro); omega)))
    by_cases n1 : l[i].name = m[i].name
    case neg =>
      rw [no (by rw [eqS, decide_eq_false n1]; simp)]
      have d1 : decide (l[i].name = m[i].name) = false := decide_eq_false n1
      (repeat (first | (simp (disch := first | exact dis1 | fail) only [evA, Nat.reduceBEq, Nat.reduceAdd, Nat.reduceLeDiff, boxR, rboxR, allocR, fldR, binI, unR, pickR, mknilR, mkslR, buildSlR, buildR, extR, convI, eqB, evU, wrap64, d1, Bool.not_false, getD_map h1, getD_map h2, Sec.len, rs_R05_SameSections]) | (with_reducible intro _) | ((with_reducible apply And.intro); omega)))
      exact ⟨_, .bool _ _, rfl⟩
    have d1 : decide (l[i].name = m[i].name) = true := decide_eq_true n1
    (repeat (first | (simp (disch := first | exact dis1 | fail) only [evA, Nat.reduceBEq, Nat.reduceAdd, Nat.reduceLeDiff, boxR, rboxR, allocR, fldR, binI, unR, pickR, mknilR, mkslR, buildSlR, buildR, extR, convI, eqB, evU, wrap64, d1, Bool.not_true, getD_map h1, getD_map h2, Sec.c1, Sec.len]) | (with_reducible intro _) | ((with_reducible apply And.intro); omega)))
    by_cases n2 : (l[i].addr.toNat : Int) = m[i].addr.toNat
    case neg =>
      rw [no (by rw [eqS, decide_eq_false n2]; simp)]
      have d2 : decide ((l[i].addr.toNat : Int) ≠ m[i].addr.toNat) = true := decide_eq_true n2
      (repeat (first | (simp (disch := first | exact dis1 | fail) only [evA, Nat.reduceBEq, Nat.reduceAdd, Nat.reduceLeDiff, boxR, rboxR, allocR, fldR, binI, unR, pickR, mknilR, mkslR, buildSlR, buildR, extR, convI, eqB, evU, wrap64, d2, Bool.not_true, getD_map h1, getD_map h2, Sec.len, rs_R05_SameSections]) | (with_reducible intro _) | ((with_reducible apply And.intro); omega)))
      exact ⟨_, .bool _ _, rfl⟩
    have d2 : decide ((l[i].addr.toNat : Int) ≠ m[i].addr.toNat) = false := decide_eq_false (fun h => h n2)
    (repeat (first | (simp (disch := first | exact dis1 | fail) only [evA, Nat.reduceBEq, Nat.reduceAdd, Nat.reduceLeDiff, boxR, rboxR, allocR, fldR, binI, unR, pickR, mknilR, mkslR, buildSlR, buildR, extR, convI, eqB, evU, wrap64, d2, Bool.not_false, getD_map h1, getD_map h2, c3, Sec.len]) | (with_reducible intro _) | ((with_reducible apply And.intro); omega)))
    by_cases n3 : l[i].wr = m[i].wr
    case neg =>
      have d3 : (l[i].wr != m[i].wr) = true := by simp [n3]
      rw [no (by rw [eqS, show (l[i].wr == m[i].wr) = false by simp [n3]]; simp)]
      (repeat (first | (simp (disch := first | exact dis1 | fail) only [evA, Nat.reduceBEq, Nat.reduceAdd, Nat.reduceLeDiff, boxR, rboxR, allocR, fldR, binI, unR, pickR, mknilR, mkslR, buildSlR, buildR, extR, convI, eqB, evU, wrap64, d3, Bool.not_true, getD_map h1, getD_map h2, Sec.len, rs_R05_SameSections]) | (with_reducible intro _) | ((with_reducible apply And.intro); omega)))
      exact ⟨_, .bool _ _, rfl⟩
    have d3 : (l[i].wr != m[i].wr) = false := by simp [n3]
    (repeat (first | (simp (disch := first | exact dis1 | fail) only [evA, Nat.reduceBEq, Nat.reduceAdd, Nat.reduceLeDiff, boxR, rboxR, allocR, fldR, binI, unR, pickR, mknilR, mkslR, buildSlR, buildR, extR, convI, eqB, evU, wrap64, d3, Bool.not_false, getD_map h1, getD_map h2, Sec.c4, Sec.len]) | (with_reducible intro _) | ((with_reducible apply And.intro); omega)))
    by_cases n4 : l[i].ex = m[i].ex
    case neg =>
      have d4 : (l[i].ex != m[i].ex) = true := by simp [n4]
      rw [no (by rw [eqS, show (l[i].ex == m[i].ex) = false by simp [n4]]; simp)]
      (repeat (first | (simp (disch := first | exact dis1 | fail) only [evA, Nat.reduceBEq, Nat.reduceAdd, Nat.reduceLeDiff, boxR, rboxR, allocR, fldR, binI, unR, pickR, mknilR, mkslR, buildSlR, buildR, extR, convI, eqB, evU, wrap64, d4, Bool.not_true, getD_map h1, getD_map h2, Sec.len, rs_R05_SameSections]) | (with_reducible intro _) | ((with_reducible apply And.intro); omega)))
      exact ⟨_, .bool _ _, rfl⟩
    have d4 : (l[i].ex != m[i].ex) = false := by simp [n4]
    (repeat (first | (simp (disch := first | exact dis1 | fail) only [evA, Nat.reduceBEq, Nat.reduceAdd, Nat.reduceLeDiff, boxR, rboxR, allocR, fldR, binI, unR, pickR, mknilR, mkslR, buildSlR, buildR, extR, convI, eqB, evU, wrap64, d4, Bool.not_false, getD_map h1, getD_map h2, Sec.c2, Sec.len]) | (with_reducible intro _) | ((with_reducible apply And.intro); omega)))
    refine callqX_fix (call_flat (R05_SameBytes_ok l[i].data m[i].data) rfl) ?_
    cases hv : eqL eqB1 l[i].data m[i].data with
    | false =>
      rw [no (by rw [eqS, hv]; simp)]
      (repeat (first | (simp (disch := first | exact dis1 | fail) only [evA, Nat.reduceBEq, Nat.reduceAdd, Nat.reduceLeDiff, boxR, rboxR, allocR, fldR, binI, unR, pickR, mknilR, mkslR, buildSlR, buildR, extR, convI, eqB, evU, wrap64, rs_R05_SameSections]) | (with_reducible intro _) | ((with_reducible apply And.intro); omega)))
      exact ⟨_, .bool _ _, rfl⟩
    | true =>
      (repeat (first | (simp (disch := first | exact dis1 | fail) only [evA, Nat.reduceBEq, Nat.reduceAdd, Nat.reduceLeDiff, boxR, rboxR, allocR, fldR, binI, unR, pickR, mknilR, mkslR, buildSlR, buildR, extR, convI, eqB, evU, wrap64]) | (with_reducible intro _) | ((with_reducible apply And.intro); omega)))
      exact ⟨i + 1, ⟨by omega, hs (by rw [eqS, hv, decide_eq_true n1, decide_eq_true n2, n3, n4]; simp)⟩, by omega, Ent.keep rfl (by (try simp [subK, Kn.get, beq_eq]) <;> (repeat' with_reducible apply And.intro) <;> first | rfl | omega | (simp; done))⟩
  · rw [eqL_end hlm hq (by omega)]
    unfold ac_R05_SameSections_k1
    (repeat (first | (simp (disch := first | exact dis1 | fail) only [evA, Nat.reduceBEq, Nat.reduceAdd, Nat.reduceLeDiff, boxR, rboxR, allocR, fldR, binI, unR, pickR, mknilR, mkslR, buildSlR, buildR, extR, convI, eqB, evU, wrap64, rs_R05_SameSections]) | (with_reducible intro _) | ((with_reducible apply And.intro); omega)))
    exact ⟨_, .bool _ _, rfl⟩

/-- Same, in the reference's order. -/
theorem R08_Same_ok (a b : Bin) : PureFn Try.prog f_R08_Same [.agg a.cells, .agg b.cells] (· = .bool (sameO a b)) := by
  refine fn_x cf_R08_Same rfl ?_
  unfold ac_R08_Same
  have hB : big = 9223372036854775807 := rfl
  (repeat (first | (simp (disch := first | exact dis1 | fail) only [evA, Nat.reduceBEq, Nat.reduceAdd, Nat.reduceLeDiff, boxR, rboxR, allocR, fldR, binI, unR, pickR, mknilR, mkslR, buildSlR, buildR, extR, convI, eqB, evU, wrap64, Bin.len, Bin.flat]) | (with_reducible intro _) | ((with_reducible apply And.intro); omega)))
  by_cases n1 : (a.entry.toNat : Int) = b.entry.toNat
  case neg =>
    have hno : sameO a b = false := by rw [sameO, decide_eq_false n1]; simp
    rw [hno]
    (repeat (first | (simp (disch := first | exact dis1 | fail) only [evA, Nat.reduceBEq, Nat.reduceAdd, Nat.reduceLeDiff, boxR, rboxR, allocR, fldR, binI, unR, pickR, mknilR, mkslR, buildSlR, buildR, extR, convI, eqB, evU, wrap64, Bin.c0, Bin.len, dT, rs_R08_Same]) | (with_reducible intro _) | ((with_reducible apply And.intro); omega)))
    exact ⟨_, .bool _ _, rfl⟩
  have d1 : decide ((a.entry.toNat : Int) ≠ b.entry.toNat) = false := decide_eq_false (fun h => h n1)
  (repeat (first | (simp (disch := first | exact dis1 | fail) only [evA, Nat.reduceBEq, Nat.reduceAdd, Nat.reduceLeDiff, boxR, rboxR, allocR, fldR, binI, unR, pickR, mknilR, mkslR, buildSlR, buildR, extR, convI, eqB, evU, wrap64, Bin.c0, Bin.len, d1, Bin.c1]) | (with_reducible intro _) | ((with_reducible apply And.intro); omega)))
  refine callX_fix (call_flat (R05_SameSections_ok a.secs b.secs) rfl) ?_
  have hval : sameO a b = (eqL eqS a.secs b.secs && true && eqL eqY a.syms b.syms && eqL eqRl a.rels b.rels) := by rw [sameO, decide_eq_true n1]
  rw [hval]
  clear hval
  cases eqL eqS a.secs b.secs with
  | false =>
    (repeat (first | (simp (disch := first | exact dis1 | fail) only [evA, Nat.reduceBEq, Nat.reduceAdd, Nat.reduceLeDiff, boxR, rboxR, allocR, fldR, binI, unR, pickR, mknilR, mkslR, buildSlR, buildR, extR, convI, eqB, evU, wrap64, rs_R08_Same]) | (with_reducible intro _) | ((with_reducible apply And.intro); omega)))
    exact ⟨_, .bool _ _, rfl⟩
  | true =>
    simp only [Bool.true_and]
    by_cases n2 : a.syms.length = b.syms.length
    case neg =>
      rw [eqL_nol (p := eqY) n2]
      (repeat (first | (simp (disch := first | exact dis1 | fail) only [evA, Nat.reduceBEq, Nat.reduceAdd, Nat.reduceLeDiff, boxR, rboxR, allocR, fldR, binI, unR, pickR, mknilR, mkslR, buildSlR, buildR, extR, convI, eqB, evU, wrap64, Bin.c2, Bin.len, dT, rs_R08_Same]) | (with_reducible intro _) | ((with_reducible apply And.intro); omega)))
      exact ⟨_, .bool _ _, rfl⟩
    (repeat (first | (simp (disch := first | exact dis1 | fail) only [evA, Nat.reduceBEq, Nat.reduceAdd, Nat.reduceLeDiff, boxR, rboxR, allocR, fldR, binI, unR, pickR, mknilR, mkslR, buildSlR, buildR, extR, convI, eqB, evU, wrap64, Bin.c2, Bin.len, dF, Bin.c3]) | (with_reducible intro _) | ((with_reducible apply And.intro); omega)))
    by_cases n3 : a.rels.length = b.rels.length
    case neg =>
      rw [eqL_nol (p := eqRl) n3, Bool.and_false]
      (repeat (first | (simp (disch := first | exact dis1 | fail) only [evA, Nat.reduceBEq, Nat.reduceAdd, Nat.reduceLeDiff, boxR, rboxR, allocR, fldR, binI, unR, pickR, mknilR, mkslR, buildSlR, buildR, extR, convI, eqB, evU, wrap64, Bin.c2, Bin.c3, Bin.len, dT, dF, rs_R08_Same]) | (with_reducible intro _) | ((with_reducible apply And.intro); omega)))
      exact ⟨_, .bool _ _, rfl⟩
    (repeat (first | (simp (disch := first | exact dis1 | fail) only [evA, Nat.reduceBEq, Nat.reduceAdd, Nat.reduceLeDiff, boxR, rboxR, allocR, fldR, binI, unR, pickR, mknilR, mkslR, buildSlR, buildR, extR, convI, eqB, evU, wrap64, Bin.c2, Bin.c3, Bin.len, dF]) | (with_reducible intro _) | ((with_reducible apply And.intro); omega)))
    refine loopX_intro (fun i : Nat => ([(2, encP 4 a.cells), (3, encP 4 b.cells), (5, .int .i64 i)], [])) 0 (fun i => i ≤ a.syms.length ∧ eqTo1 eqY a.syms b.syms i) (fun i => a.syms.length - i) 0 ⟨Nat.zero_le _, eqTo_zero⟩ (Ent.keep rfl (by (try simp [subK, Kn.get, beq_eq]) <;> (repeat' with_reducible apply And.intro) <;> first | rfl | omega | (simp; done))) ?_
    rintro i ⟨hi, hq⟩ wf
    unfold ac_R08_Same_l0
    (repeat (first | (simp (disch := first | exact dis1 | fail) only [evA, Nat.reduceBEq, Nat.reduceAdd, Nat.reduceLeDiff, boxR, rboxR, allocR, fldR, binI, unR, pickR, mknilR, mkslR, buildSlR, buildR, extR, convI, eqB, evU, wrap64, fldP, Bin.c2, Bin.len]) | (with_reducible intro _) | ((with_reducible apply And.intro); omega)))
    (refine condX_intro (fun h => ?_) (fun h => ?_)) <;> (try simp only [decide_eq_true_eq, decide_eq_false_iff_not, Bool.not_eq_true', Bool.not_eq_false', Bool.and_eq_true, Bool.or_eq_true, not_true_eq_false, not_false_eq_true] at h)
    · have h1 : i < a.syms.length := by omega
      have h2 : i < b.syms.length := by omega
      have hs := eqTo_succ h1 h2 hq
      have hn := eqL_no (p := eqY) h1 h2
      have he2 : ∀ {H : AH} {nx : Nat}, xopR (.eqs true [1, 0, 0]) [.agg (a.syms[i]).cells, .agg (b.syms[i]).cells] H nx = ⟨True, True, .bool (!eqY a.syms[i] b.syms[i]), H, nx⟩ := fun {H nx} => rfl
      (repeat (first | (simp (disch := first | exact dis1 | fail) only [evA, Nat.reduceBEq, Nat.reduceAdd, Nat.reduceLeDiff, boxR, rboxR, allocR, fldR, binI, unR, pickR, mknilR, mkslR, buildSlR, buildR, extR, convI, eqB, evU, wrap64, fldP, Bin.c2, Bin.len, getD_map h1, getD_map h2, Sym.three, Sym.len, Sym.flat, he2]) | (with_reducible intro _) | ((with_reducible apply And.intro); omega)))
      cases hv : eqY a.syms[i] b.syms[i] with
      | false =>
        rw [hn hv, Bool.false_and]
        (repeat (first | (simp (disch := first | exact dis1 | fail) only [evA, Nat.reduceBEq, Nat.reduceAdd, Nat.reduceLeDiff, boxR, rboxR, allocR, fldR, binI, unR, pickR, mknilR, mkslR, buildSlR, buildR, extR, convI, eqB, evU, wrap64, rs_R08_Same]) | (with_reducible intro _) | ((with_reducible apply And.intro); omega)))
        exact ⟨_, .bool _ _, rfl⟩
      | true =>
        (repeat (first | (simp (disch := first | exact dis1 | fail) only [evA, Nat.reduceBEq, Nat.reduceAdd, Nat.reduceLeDiff, boxR, rboxR, allocR, fldR, binI, unR, pickR, mknilR, mkslR, buildSlR, buildR, extR, convI, eqB, evU, wrap64]) | (with_reducible intro _) | ((with_reducible apply And.intro); omega)))
        exact ⟨i + 1, ⟨by omega, hs hv⟩, by omega, Ent.keep rfl (by (try simp [subK, Kn.get, beq_eq]) <;> (repeat' with_reducible apply And.intro) <;> first | rfl | omega | (simp; done))⟩
    · rw [eqL_end n2 hq (by omega), Bool.true_and]
      unfold ac_R08_Same_k3
      (repeat (first | (simp (disch := first | exact dis1 | fail) only [evA, Nat.reduceBEq, Nat.reduceAdd, Nat.reduceLeDiff, boxR, rboxR, allocR, fldR, binI, unR, pickR, mknilR, mkslR, buildSlR, buildR, extR, convI, eqB, evU, wrap64]) | (with_reducible intro _) | ((with_reducible apply And.intro); omega)))
      refine loopX_intro (fun i : Nat => ([(2, encP 4 a.cells), (3, encP 4 b.cells), (6, .int .i64 i)], [])) 0 (fun i => i ≤ a.rels.length ∧ eqTo1 eqRl a.rels b.rels i) (fun i => a.rels.length - i) 0 ⟨Nat.zero_le _, eqTo_zero⟩ (Ent.keep rfl (by (try simp [subK, Kn.get, beq_eq]) <;> (repeat' with_reducible apply And.intro) <;> first | rfl | omega | (simp; done))) ?_
      rintro i ⟨hi, hq⟩ wf
      unfold ac_R08_Same_l1
      (repeat (first | (simp (disch := first | exact dis1 | fail) only [evA, Nat.reduceBEq, Nat.reduceAdd, Nat.reduceLeDiff, boxR, rboxR, allocR, fldR, binI, unR, pickR, mknilR, mkslR, buildSlR, buildR, extR, convI, eqB, evU, wrap64, fldP, Bin.c3, Bin.len]) | (with_reducible intro _) | ((with_reducible apply And.intro); omega)))
      (refine condX_intro (fun h => ?_) (fun h => ?_)) <;> (try simp only [decide_eq_true_eq, decide_eq_false_iff_not, Bool.not_eq_true', Bool.not_eq_false', Bool.and_eq_true, Bool.or_eq_true, not_true_eq_false, not_false_eq_true] at h)
      · have h1 : i < a.rels.length := by omega
        have h2 : i < b.rels.length := by omega
        have hs := eqTo_succ h1 h2 hq
        have hn := eqL_no (p := eqRl) h1 h2
        have he2 : ∀ {H : AH} {nx : Nat}, xopR (.eqs true [0, 0, 0, 1, 0]) [.agg (a.rels[i]).cells, .agg (b.rels[i]).cells] H nx = ⟨True, True, .bool (!eqRl a.rels[i] b.rels[i]), H, nx⟩ := fun {H nx} => rfl
        (repeat (first | (simp (disch := first | exact dis1 | fail) only [evA, Nat.reduceBEq, Nat.reduceAdd, Nat.reduceLeDiff, boxR, rboxR, allocR, fldR, binI, unR, pickR, mknilR, mkslR, buildSlR, buildR, extR, convI, eqB, evU, wrap64, fldP, Bin.c3, Bin.len, getD_map h1, getD_map h2, Rel.five, Rel.len, Rel.flat, he2]) | (with_reducible intro _) | ((with_reducible apply And.intro); omega)))
        cases hv : eqRl a.rels[i] b.rels[i] with
        | false =>
          rw [hn hv]
          (repeat (first | (simp (disch := first | exact dis1 | fail) only [evA, Nat.reduceBEq, Nat.reduceAdd, Nat.reduceLeDiff, boxR, rboxR, allocR, fldR, binI, unR, pickR, mknilR, mkslR, buildSlR, buildR, extR, convI, eqB, evU, wrap64, rs_R08_Same]) | (with_reducible intro _) | ((with_reducible apply And.intro); omega)))
          exact ⟨_, .bool _ _, rfl⟩
        | true =>
          (repeat (first | (simp (disch := first | exact dis1 | fail) only [evA, Nat.reduceBEq, Nat.reduceAdd, Nat.reduceLeDiff, boxR, rboxR, allocR, fldR, binI, unR, pickR, mknilR, mkslR, buildSlR, buildR, extR, convI, eqB, evU, wrap64]) | (with_reducible intro _) | ((with_reducible apply And.intro); omega)))
          exact ⟨i + 1, ⟨by omega, hs hv⟩, by omega, Ent.keep rfl (by (try simp [subK, Kn.get, beq_eq]) <;> (repeat' with_reducible apply And.intro) <;> first | rfl | omega | (simp; done))⟩
      · rw [eqL_end n3 hq (by omega)]
        unfold ac_R08_Same_k2
        (repeat (first | (simp (disch := first | exact dis1 | fail) only [evA, Nat.reduceBEq, Nat.reduceAdd, Nat.reduceLeDiff, boxR, rboxR, allocR, fldR, binI, unR, pickR, mknilR, mkslR, buildSlR, buildR, extR, convI, eqB, evU, wrap64, rs_R08_Same]) | (with_reducible intro _) | ((with_reducible apply And.intro); omega)))
        exact ⟨_, .bool _ _, rfl⟩

theorem eqS_refl (a : Sec) : eqS a a = true := by
  unfold eqS
  rw [eqL_refl (p := eqB1) (fun a => decide_eq_true rfl)]
  simp
theorem eqY_refl (a : Sym) : eqY a a = true := by simp [eqY]
theorem eqRl_refl (a : Rel) : eqRl a a = true := by simp [eqRl]
theorem sameO_refl (a : Bin) : sameO a a = true := by
  unfold sameO
  rw [eqL_refl eqS_refl, eqL_refl eqY_refl, eqL_refl eqRl_refl]
  simp

end Go.Ab

namespace Go.Ab
open Go.RowKit Go.Proofs


/-- (*decompiler/object.position).bytes -/
def ac_object_position_bytes : ACode := .seq /-0-/ (.region [ ⟨(some 4), .mknil 1, none⟩] [4]) (.seq /-1-/ (.seq /-2-/ (.region [ ⟨(some 6), .mov (.t 0), none⟩, ⟨(some 7), .xop .nilck [(.t 6)], none⟩, ⟨(some 8), .fldaddr 2 1 (.t 7), none⟩, ⟨(some 9), .load false 1 (.t 8), none⟩, ⟨(some 10), .bin .neq (.t 9) (.c (.int .i64 0)), none⟩] [6, 7, 8, 9]) (.cond (.t 10) (.seq /-3-/ (.region [ ⟨(some 4), .mknil 1, none⟩] [0, 1, 10]) (.ret)) (.skip))) (.seq /-4-/ (.seq /-5-/ (.draw ( .step ⟨(some 11), .mov (.t 1), none⟩ ( .step ⟨(some 12), .conv .u64 (.t 11), none⟩ ( .step ⟨(some 13), .mov (.t 0), none⟩ ( .step ⟨(some 14), .xop .nilck [(.t 13)], none⟩ ( .step ⟨(some 15), .fldaddr 0 1 (.t 14), none⟩ ( .step ⟨(some 16), .load false 1 (.t 15), none⟩ ( .step ⟨(some 17), .len (.t 16), none⟩ ( .step ⟨(some 18), .mov (.t 0), none⟩ ( .step ⟨(some 19), .xop .nilck [(.t 18)], none⟩ ( .step ⟨(some 20), .fldaddr 1 1 (.t 19), none⟩ ( .step ⟨(some 21), .load false 1 (.t 20), none⟩ ( .step ⟨(some 22), .bin .sub (.t 17) (.t 21), none⟩ ( .step ⟨(some 23), .conv .u64 (.t 22), none⟩ ( .step ⟨(some 24), .bin .gtr (.t 12) (.t 23), none⟩ ( .done))))))))))))))) [4, 10, 11, 12, 13, 14, 15, 16, 17, 18, 19, 20, 21, 22, 23]) (.cond (.t 24) (.seq /-6-/ (.region [ ⟨(some 25), .mov (.t 0), none⟩, ⟨(some 26), .call f_object_position_fail [(.t 25), (.c (.int .i64 5))], none⟩] [0, 1, 24, 25, 26]) (.seq /-7-/ (.region [ ⟨(some 4), .mknil 1, none⟩] []) (.ret))) (.skip))) (.seq /-8-/ (.draw ( .step ⟨(some 27), .mov (.t 0), none⟩ ( .step ⟨(some 28), .xop .nilck [(.t 27)], none⟩ ( .step ⟨(some 29), .fldaddr 0 1 (.t 28), none⟩ ( .step ⟨(some 30), .load false 1 (.t 29), none⟩ ( .step ⟨(some 31), .mov (.t 0), none⟩ ( .step ⟨(some 32), .xop .nilck [(.t 31)], none⟩ ( .step ⟨(some 33), .fldaddr 1 1 (.t 32), none⟩ ( .step ⟨(some 34), .load false 1 (.t 33), none⟩ ( .step ⟨(some 35), .mov (.t 0), none⟩ ( .step ⟨(some 36), .xop .nilck [(.t 35)], none⟩ ( .step ⟨(some 37), .fldaddr 1 1 (.t 36), none⟩ ( .step ⟨(some 38), .load false 1 (.t 37), none⟩ ( .step ⟨(some 39), .mov (.t 1), none⟩ ( .step ⟨(some 40), .conv .i64 (.t 39), none⟩ ( .step ⟨(some 41), .bin .add (.t 38) (.t 40), none⟩ ( .step ⟨(some 42), .slice 1 (.t 30) (some (.t 34)) (some (.t 41)), none⟩ ( .step ⟨(some 43), .callq f_slices_Clone_byte_byte [(.t 42)], none⟩ ( .step ⟨(some 5), .mov (.t 43), none⟩ ( .done))))))))))))))))))) [4, 24, 27, 28, 29, 30, 31, 32, 33, 34, 35, 36, 37, 38, 39, 40, 41, 42, 43]) (.seq /-9-/ (.region [ ⟨(some 44), .mov (.t 0), none⟩, ⟨(some 45), .xop .nilck [(.t 44)], none⟩, ⟨(some 46), .fldaddr 1 1 (.t 45), none⟩, ⟨(some 47), .load false 1 (.t 46), none⟩, ⟨(some 48), .mov (.t 1), none⟩, ⟨(some 49), .conv .i64 (.t 48), none⟩, ⟨(some 50), .bin .add (.t 47) (.t 49), none⟩, ⟨(some 51), .xop .nilck [(.t 44)], none⟩, ⟨(some 52), .fldaddr 1 1 (.t 51), none⟩, ⟨none, .store 1 (.t 52) (.t 50), none⟩] [0, 1, 44, 45, 46, 47, 48, 49, 50, 51, 52]) (.seq /-10-/ (.region [ ⟨(some 53), .mov (.t 5), none⟩, ⟨(some 4), .mov (.t 53), none⟩] [5, 53]) (.ret))))))

def rs_object_position_bytes : List ARet := [.tmp 4]

set_option maxRecDepth 100000 in
theorem cf_object_position_bytes : compF Try.prog f_object_position_bytes (qRo []) = some (ac_object_position_bytes.strip, rs_object_position_bytes, 54) := by kernel_rfl


/-- (*decompiler/object.position).fail -/
def ac_object_position_fail : ACode := .seq /-0-/ (.region [ ⟨(some 4), .mov (.t 0), none⟩, ⟨(some 5), .xop .nilck [(.t 4)], none⟩, ⟨(some 6), .fldaddr 2 1 (.t 5), none⟩, ⟨(some 7), .load false 1 (.t 6), none⟩, ⟨(some 8), .bin .eql (.t 7) (.c (.int .i64 0)), none⟩] [4, 5, 6, 7]) (.cond (.t 8) (.region [ ⟨(some 9), .mov (.t 0), none⟩, ⟨(some 10), .mov (.t 1), none⟩, ⟨(some 11), .xop .nilck [(.t 9)], none⟩, ⟨(some 12), .fldaddr 2 1 (.t 11), none⟩, ⟨none, .store 1 (.t 12) (.t 10), none⟩] [0, 1, 8, 9, 10, 11, 12]) (.skip))

def rs_object_position_fail : List ARet := []

set_option maxRecDepth 100000 in
theorem cf_object_position_fail : compF Try.prog f_object_position_fail (qRo []) = some (ac_object_position_fail.strip, rs_object_position_fail, 13) := by kernel_rfl


/-- (*decompiler/object.position).number -/
def ac_object_position_number : ACode := .seq /-0-/ (.region [ ⟨(some 4), .mov (.c (.int .u32 0)), none⟩] [4]) (.seq /-1-/ (.seq /-2-/ (.region [ ⟨(some 7), .mov (.t 0), none⟩, ⟨(some 8), .xop .nilck [(.t 7)], none⟩, ⟨(some 9), .fldaddr 2 1 (.t 8), none⟩, ⟨(some 10), .load false 1 (.t 9), none⟩, ⟨(some 11), .bin .neq (.t 10) (.c (.int .i64 0)), none⟩] [7, 8, 9, 10]) (.cond (.t 11) (.seq /-3-/ (.region [ ⟨(some 4), .mov (.c (.int .u32 0)), none⟩] [0, 1, 11]) (.ret)) (.skip))) (.seq /-4-/ (.draw ( .step ⟨(some 13), .mov (.t 0), none⟩ ( .step ⟨(some 14), .xop .nilck [(.t 13)], none⟩ ( .step ⟨(some 15), .fldaddr 0 1 (.t 14), none⟩ ( .step ⟨(some 16), .load false 1 (.t 15), none⟩ ( .step ⟨(some 17), .mov (.t 0), none⟩ ( .step ⟨(some 18), .xop .nilck [(.t 17)], none⟩ ( .step ⟨(some 19), .fldaddr 1 1 (.t 18), none⟩ ( .step ⟨(some 20), .load false 1 (.t 19), none⟩ ( .step ⟨(some 21), .mov (.t 1), none⟩ ( .step ⟨(some 22), .callq f_image_Get [(.t 16), (.t 20), (.t 21)], none⟩ ( .step ⟨(some 12), .mov (.t 22), none⟩ ( .step ⟨(some 23), .ext 0 (.t 12), none⟩ ( .step ⟨(some 24), .ext 1 (.t 12), none⟩ ( .step ⟨(some 5), .mov (.t 23), none⟩ ( .step ⟨(some 6), .mov (.t 24), none⟩ ( .done)))))))))))))))) [4, 11, 12, 13, 14, 15, 16, 17, 18, 19, 20, 21, 22, 23, 24]) (.seq /-5-/ (.region [ ⟨(some 25), .mov (.t 0), none⟩, ⟨(some 26), .mov (.t 6), none⟩, ⟨(some 27), .call f_object_position_fail [(.t 25), (.t 26)], none⟩] [6, 25, 26, 27]) (.seq /-6-/ (.region [ ⟨(some 28), .mov (.t 0), none⟩, ⟨(some 29), .xop .nilck [(.t 28)], none⟩, ⟨(some 30), .fldaddr 1 1 (.t 29), none⟩, ⟨(some 31), .load false 1 (.t 30), none⟩, ⟨(some 32), .mov (.t 1), none⟩, ⟨(some 33), .bin .add (.t 31) (.t 32), none⟩, ⟨(some 34), .xop .nilck [(.t 28)], none⟩, ⟨(some 35), .fldaddr 1 1 (.t 34), none⟩, ⟨none, .store 1 (.t 35) (.t 33), none⟩] [0, 1, 28, 29, 30, 31, 32, 33, 34, 35]) (.seq /-7-/ (.region [ ⟨(some 36), .mov (.t 5), none⟩, ⟨(some 4), .mov (.t 36), none⟩] [5, 36]) (.ret))))))

def rs_object_position_number : List ARet := [.tmp 4]

set_option maxRecDepth 100000 in
theorem cf_object_position_number : compF Try.prog f_object_position_number (qRo []) = some (ac_object_position_number.strip, rs_object_position_number, 37) := by kernel_rfl


def ac_image_Get_l0 : ACode :=
  /-live [0, 1, 8, 9]-/ .seq /-10-/ (.seq /-11-/ (.region [ ⟨(some 25), .mov (.t 9), none⟩, ⟨(some 26), .bin .geq (.t 25) (.c (.int .i64 0)), none⟩] [25]) (.cond (.t 26) (.skip) (.exit 0))) (.seq /-12-/ (.block 1 (.region [ ⟨(some 29), .mov (.t 8), none⟩, ⟨(some 30), .bin .shl (.t 29) (.c (.int .u64 8)), none⟩, ⟨(some 31), .mov (.t 0), none⟩, ⟨(some 32), .mov (.t 1), none⟩, ⟨(some 33), .mov (.t 9), none⟩, ⟨(some 34), .bin .add (.t 32) (.t 33), none⟩, ⟨(some 35), .idx 1 (.t 31) (.t 34), none⟩, ⟨(some 36), .load false 1 (.t 35), none⟩, ⟨(some 37), .conv .u32 (.t 36), none⟩, ⟨(some 38), .bin .or (.t 30) (.t 37), none⟩, ⟨(some 8), .mov (.t 38), none⟩] [26, 29, 30, 31, 32, 33, 34, 35, 36, 37, 38])) (.region [ ⟨(some 27), .mov (.t 9), none⟩, ⟨(some 28), .bin .sub (.t 27) (.c (.int .i64 1)), none⟩, ⟨(some 9), .mov (.t 28), none⟩] [27, 28]))

def ac_image_Get_k1 : ACode :=
  /-live [8]-/ .seq /-13-/ (.region [ ⟨(some 39), .mov (.t 8), none⟩, ⟨(some 6), .mov (.t 39), none⟩, ⟨(some 7), .mov (.c (.int .i64 0)), none⟩] [0, 1, 8, 9, 39]) (.ret)

/-- decompiler/image.Get -/
def ac_image_Get : ACode := .seq /-0-/ (.region [ ⟨(some 6), .mov (.c (.int .u32 0)), none⟩, ⟨(some 7), .mov (.c (.int .i64 0)), none⟩] [6, 7]) (.seq /-1-/ (.seq /-2-/ (.region [ ⟨(some 10), .mov (.t 2), none⟩, ⟨(some 11), .call f_image_valid [(.t 10)], none⟩, ⟨(some 12), .un .not (.t 11), none⟩] [10, 11]) (.cond (.t 12) (.seq /-3-/ (.region [ ⟨(some 6), .mov (.c (.int .u32 0)), none⟩, ⟨(some 7), .mov (.c (.int .i64 2)), none⟩] [0, 1, 2, 12]) (.ret)) (.skip))) (.seq /-4-/ (.seq /-5-/ (.region [ ⟨(some 13), .mov (.t 1), none⟩, ⟨(some 14), .bin .lss (.t 13) (.c (.int .i64 0)), none⟩, ⟨(some 15), .mov (.t 14), none⟩, ⟨(some 16), .mov (.t 1), (some (15, false))⟩, ⟨(some 17), .mov (.t 0), (some (15, false))⟩, ⟨(some 18), .len (.t 17), (some (15, false))⟩, ⟨(some 19), .mov (.t 2), (some (15, false))⟩, ⟨(some 20), .bin .sub (.t 18) (.t 19), (some (15, false))⟩, ⟨(some 21), .bin .gtr (.t 16) (.t 20), (some (15, false))⟩, ⟨(some 22), .pick (.t 15) (.c (.bool true)) (.t 21), none⟩] [6, 7, 12, 13, 14, 15, 16, 17, 18, 19, 20, 21]) (.cond (.t 22) (.seq /-6-/ (.region [ ⟨(some 6), .mov (.c (.int .u32 0)), none⟩, ⟨(some 7), .mov (.c (.int .i64 5)), none⟩] [0, 1, 2, 22]) (.ret)) (.skip))) (.seq /-7-/ (.region [ ⟨(some 8), .mov (.c (.int .u32 0)), none⟩] [6, 7, 22]) (.seq /-8-/ (.seq /-9-/ (.region [ ⟨(some 23), .mov (.t 2), none⟩, ⟨(some 24), .bin .sub (.t 23) (.c (.int .i64 1)), none⟩, ⟨(some 9), .mov (.t 24), none⟩] [2, 23, 24]) (.block 0 (.loop ac_image_Get_l0))) (ac_image_Get_k1)))))

def rs_image_Get : List ARet := [.tmp 6, .tmp 7]

set_option maxRecDepth 100000 in
theorem cf_image_Get : compF Try.prog f_image_Get (qRo []) = some (ac_image_Get.strip, rs_image_Get, 40) := by kernel_rfl


/-- (*decompiler/object.position).text -/
def ac_object_position_text : ACode := .seq /-0-/ (.region [ ⟨(some 2), .mov (.c (.str ⟨#[]⟩)), none⟩] [2]) (.seq /-1-/ (.seq /-2-/ (.region [ ⟨(some 6), .mov (.t 0), none⟩, ⟨(some 7), .xop .nilck [(.t 6)], none⟩, ⟨(some 8), .fldaddr 2 1 (.t 7), none⟩, ⟨(some 9), .load false 1 (.t 8), none⟩, ⟨(some 10), .bin .neq (.t 9) (.c (.int .i64 0)), none⟩] [6, 7, 8, 9]) (.cond (.t 10) (.seq /-3-/ (.region [ ⟨(some 2), .mov (.c (.str ⟨#[]⟩)), none⟩] [0, 10]) (.ret)) (.skip))) (.seq /-4-/ (.draw ( .step ⟨(some 12), .mov (.t 0), none⟩ ( .step ⟨(some 13), .xop .nilck [(.t 12)], none⟩ ( .step ⟨(some 14), .fldaddr 0 1 (.t 13), none⟩ ( .step ⟨(some 15), .load false 1 (.t 14), none⟩ ( .step ⟨(some 16), .mov (.t 0), none⟩ ( .step ⟨(some 17), .xop .nilck [(.t 16)], none⟩ ( .step ⟨(some 18), .fldaddr 1 1 (.t 17), none⟩ ( .step ⟨(some 19), .load false 1 (.t 18), none⟩ ( .step ⟨(some 20), .callq f_image_GetText [(.t 15), (.t 19)], none⟩ ( .step ⟨(some 11), .mov (.t 20), none⟩ ( .step ⟨(some 21), .ext 0 (.t 11), none⟩ ( .step ⟨(some 22), .ext 1 (.t 11), none⟩ ( .step ⟨(some 23), .ext 2 (.t 11), none⟩ ( .step ⟨(some 3), .mov (.t 21), none⟩ ( .step ⟨(some 4), .mov (.t 22), none⟩ ( .step ⟨(some 5), .mov (.t 23), none⟩ ( .done))))))))))))))))) [2, 10, 11, 12, 13, 14, 15, 16, 17, 18, 19, 20, 21, 22, 23]) (.seq /-5-/ (.seq /-6-/ (.region [ ⟨(some 24), .mov (.t 5), none⟩, ⟨(some 25), .bin .eql (.t 24) (.c (.int .i64 6)), none⟩] [24]) (.cond (.t 25) (.region [ ⟨(some 5), .mov (.c (.int .i64 4)), none⟩] [25]) (.skip))) (.seq /-7-/ (.region [ ⟨(some 26), .mov (.t 0), none⟩, ⟨(some 27), .mov (.t 5), none⟩, ⟨(some 28), .call f_object_position_fail [(.t 26), (.t 27)], none⟩] [5, 25, 26, 27, 28]) (.seq /-8-/ (.region [ ⟨(some 29), .mov (.t 0), none⟩, ⟨(some 30), .mov (.t 4), none⟩, ⟨(some 31), .xop .nilck [(.t 29)], none⟩, ⟨(some 32), .fldaddr 1 1 (.t 31), none⟩, ⟨none, .store 1 (.t 32) (.t 30), none⟩] [0, 4, 29, 30, 31, 32]) (.seq /-9-/ (.region [ ⟨(some 33), .mov (.t 3), none⟩, ⟨(some 2), .mov (.t 33), none⟩] [3, 33]) (.ret)))))))

def rs_object_position_text : List ARet := [.tmp 2]

set_option maxRecDepth 100000 in
theorem cf_object_position_text : compF Try.prog f_object_position_text (qRo []) = some (ac_object_position_text.strip, rs_object_position_text, 34) := by kernel_rfl

/-- decompiler/image.GetText -/
def ac_image_GetText : ACode := .seq /-0-/ (.region [ ⟨(some 4), .mov (.c (.str ⟨#[]⟩)), none⟩, ⟨(some 5), .mov (.c (.int .i64 0)), none⟩, ⟨(some 6), .mov (.c (.int .i64 0)), none⟩] [4, 5, 6]) (.seq /-1-/ (.seq /-2-/ (.region [ ⟨(some 8), .mov (.t 1), none⟩, ⟨(some 9), .bin .lss (.t 8) (.c (.int .i64 0)), none⟩, ⟨(some 10), .mov (.t 9), none⟩, ⟨(some 11), .mov (.t 1), (some (10, false))⟩, ⟨(some 12), .mov (.t 0), (some (10, false))⟩, ⟨(some 13), .len (.t 12), (some (10, false))⟩, ⟨(some 14), .bin .geq (.t 11) (.t 13), (some (10, false))⟩, ⟨(some 15), .pick (.t 10) (.c (.bool true)) (.t 14), none⟩] [8, 9, 10, 11, 12, 13, 14]) (.cond (.t 15) (.seq /-3-/ (.region [ ⟨(some 4), .mov (.c (.str ⟨#[]⟩)), none⟩, ⟨(some 5), .mov (.c (.int .i64 0)), none⟩, ⟨(some 6), .mov (.c (.int .i64 5)), none⟩] [0, 1, 15]) (.ret)) (.skip))) (.seq /-4-/ (.region [ ⟨(some 16), .mov (.t 0), none⟩, ⟨(some 17), .mov (.t 1), none⟩, ⟨(some 18), .idx 1 (.t 16) (.t 17), none⟩, ⟨(some 19), .load false 1 (.t 18), none⟩, ⟨(some 20), .conv .i64 (.t 19), none⟩, ⟨(some 7), .mov (.t 20), none⟩] [4, 5, 6, 15, 16, 17, 18, 19, 20]) (.seq /-5-/ (.seq /-6-/ (.region [ ⟨(some 21), .mov (.t 7), none⟩, ⟨(some 22), .bin .gtr (.t 21) (.c (.int .i64 32)), none⟩] [21]) (.cond (.t 22) (.seq /-7-/ (.region [ ⟨(some 4), .mov (.c (.str ⟨#[]⟩)), none⟩, ⟨(some 5), .mov (.c (.int .i64 0)), none⟩, ⟨(some 6), .mov (.c (.int .i64 6)), none⟩] [0, 1, 7, 22]) (.ret)) (.skip))) (.seq /-8-/ (.seq /-9-/ (.region [ ⟨(some 23), .mov (.t 7), none⟩, ⟨(some 24), .mov (.t 0), none⟩, ⟨(some 25), .len (.t 24), none⟩, ⟨(some 26), .mov (.t 1), none⟩, ⟨(some 27), .bin .sub (.t 25) (.t 26), none⟩, ⟨(some 28), .bin .sub (.t 27) (.c (.int .i64 1)), none⟩, ⟨(some 29), .bin .gtr (.t 23) (.t 28), none⟩] [4, 5, 6, 22, 23, 24, 25, 26, 27, 28]) (.cond (.t 29) (.seq /-10-/ (.region [ ⟨(some 4), .mov (.c (.str ⟨#[]⟩)), none⟩, ⟨(some 5), .mov (.c (.int .i64 0)), none⟩, ⟨(some 6), .mov (.c (.int .i64 5)), none⟩] [0, 1, 7, 29]) (.ret)) (.skip))) (.seq /-11-/ (.region [ ⟨(some 30), .mov (.t 0), none⟩, ⟨(some 31), .mov (.t 1), none⟩, ⟨(some 32), .bin .add (.t 31) (.c (.int .i64 1)), none⟩, ⟨(some 33), .mov (.t 1), none⟩, ⟨(some 34), .bin .add (.t 33) (.c (.int .i64 1)), none⟩, ⟨(some 35), .mov (.t 7), none⟩, ⟨(some 36), .bin .add (.t 34) (.t 35), none⟩, ⟨(some 37), .slice 1 (.t 30) (some (.t 32)) (some (.t 36)), none⟩, ⟨(some 38), .xop .b2s [(.t 37)], none⟩, ⟨(some 39), .mov (.t 1), none⟩, ⟨(some 40), .bin .add (.t 39) (.c (.int .i64 1)), none⟩, ⟨(some 41), .mov (.t 7), none⟩, ⟨(some 42), .bin .add (.t 40) (.t 41), none⟩, ⟨(some 4), .mov (.t 38), none⟩, ⟨(some 5), .mov (.t 42), none⟩, ⟨(some 6), .mov (.c (.int .i64 0)), none⟩] [0, 1, 7, 29, 30, 31, 32, 33, 34, 35, 36, 37, 38, 39, 40, 41, 42]) (.ret))))))

def rs_image_GetText : List ARet := [.tmp 4, .tmp 5, .tmp 6]

set_option maxRecDepth 100000 in
theorem cf_image_GetText : compF Try.prog f_image_GetText (qRo []) = some (ac_image_GetText.strip, rs_image_GetText, 43) := by kernel_rfl

end Go.Ab

namespace Go.Ab
open Go.RowKit Go.Proofs

/-- The number that bytes tell, the smallest first. -/
def leV : List UInt8 → Nat
  | [] => 0
  | b :: r => b.toNat + 256 * leV r

theorem leV_lt : ∀ l : List UInt8, leV l < 256 ^ l.length
  | [] => by simp [leV]
  | b :: r => by
    have h1 := leV_lt r
    have h2 := u8_lt b
    rw [leV, List.length_cons, Nat.pow_succ]
    omega

/-- Get: the number and the error. -/
def getN (l : List UInt8) (p : Int) (w : Nat) : Int × Int := if p < 0 ∨ (l.length : Int) - w < p then (0, 5) else ((leV ((l.drop p.toNat).take w) : Nat), 0)

theorem leV_step {l : List UInt8} {p w k : Nat} (h : k < w) (hl : p + w ≤ l.length) : leV (((l.drop p).take w).drop k) = (l.getD (p + k) 0).toNat + 256 * leV (((l.drop p).take w).drop (k + 1)) := by
  have hk : k < ((l.drop p).take w).length := by rw [List.length_take, List.length_drop]; omega
  rw [List.drop_eq_getElem_cons hk, leV]
  congr 2
  rw [List.getElem_take, List.getElem_drop, List.getD_eq_getElem?_getD, List.getElem?_eq_getElem (by omega)]
  rfl

theorem leV_small {l : List UInt8} {p w k : Nat} (hw : w ≤ 4) (hk : 1 ≤ k) : leV (((l.drop p).take w).drop k) < 16777216 := by
  refine Nat.lt_of_lt_of_le (leV_lt _) ?_
  refine Nat.le_trans (Nat.pow_le_pow_right (by decide) (show _ ≤ 3 from ?_)) (by decide)
  rw [List.length_drop, List.length_take]
  omega

theorem shl_or {n b : Nat} (hn : n < 16777216) (hb : b < 256) : IntKind.u32.wrap (((BitVec.ofInt 32 (IntKind.u32.wrap ((n : Int) * 2 ^ (min (Int.toNat 8) 32)))) ||| (BitVec.ofInt 32 (IntKind.u32.wrap (b : Int)))).toNat : Int) = ((b + 256 * n : Nat) : Int) := by
  have e1 : IntKind.u32.wrap ((n : Int) * 2 ^ (min (Int.toNat 8) 32)) = ((n * 256 : Nat) : Int) := by
    show ((n : Int) * 256) % 4294967296 = _
    omega
  have e2 : IntKind.u32.wrap (b : Int) = (b : Int) := wrapU32 (by omega) (by omega)
  rw [e1, e2, BitVec.ofInt_natCast, BitVec.ofInt_natCast, BitVec.toNat_or, BitVec.toNat_ofNat, BitVec.toNat_ofNat, Nat.mod_eq_of_lt (by omega), Nat.mod_eq_of_lt (by omega)]
  have e3 : n * 256 ||| b = n * 256 + b := by
    have := Nat.shiftLeft_add_eq_or_of_lt (show b < 2 ^ 8 by omega) n
    rw [Nat.shiftLeft_eq] at this
    exact this.symm
  rw [e3]
  show ((n * 256 + b : Nat) : Int) % 4294967296 = _
  omega

end Go.Ab

namespace Go.Ab
open Go.RowKit Go.Proofs

def encG (r : Int × Int) : AV := .tup [.int .u32 r.1, .int .i64 r.2]

theorem image_Get_ok (l : List UInt8) (p : Int) (w : Nat) (hw : w = 1 ∨ w = 2 ∨ w = 4) : PureFn Try.prog f_image_Get [encB l, .int .i64 p, .int .i64 w] (· = encG (getN l p w)) := by
  refine fn_x cf_image_Get rfl ?_
  unfold ac_image_Get
  have hB : big = 9223372036854775807 := rfl
  have hvw : (decide ((w : Int) = 1) || decide ((w : Int) = 2) || decide ((w : Int) = 4)) = true := by
    rcases hw with h | h | h <;> subst h <;> rfl
  (repeat (first | (simp (disch := first | exact dis1 | fail) only [evA, Nat.reduceBEq, Nat.reduceAdd, Nat.reduceLeDiff, boxR, rboxR, allocR, fldR, binI, unR, pickR, mknilR, mkslR, buildSlR, buildR, extR, convI, eqB, evU, wrap64, encB]) | (with_reducible intro _) | ((with_reducible apply And.intro); omega)))
  refine callX_fix (call_flat (image_valid_ok w) rfl) ?_
  rw [hvw]
  (repeat (first | (simp (disch := first | exact dis1 | fail) only [evA, Nat.reduceBEq, Nat.reduceAdd, Nat.reduceLeDiff, boxR, rboxR, allocR, fldR, binI, unR, pickR, mknilR, mkslR, buildSlR, buildR, extR, convI, eqB, evU, wrap64]) | (with_reducible intro _) | ((with_reducible apply And.intro); omega)))
  by_cases h1 : p < 0
  · rw [getN, if_pos (.inl h1)]
    (repeat (first | (simp (disch := first | exact dis1 | fail) only [evA, Nat.reduceBEq, Nat.reduceAdd, Nat.reduceLeDiff, boxR, rboxR, allocR, fldR, binI, unR, pickR, mknilR, mkslR, buildSlR, buildR, extR, convI, eqB, evU, wrap64, dT, rs_image_Get]) | (with_reducible intro _) | ((with_reducible apply And.intro); omega)))
    exact ⟨_, vw_flat rfl, rfl⟩
  by_cases h2 : (l.length : Int) - w < p
  · rw [getN, if_pos (.inr h2)]
    (repeat (first | (simp (disch := first | exact dis1 | fail) only [evA, Nat.reduceBEq, Nat.reduceAdd, Nat.reduceLeDiff, boxR, rboxR, allocR, fldR, binI, unR, pickR, mknilR, mkslR, buildSlR, buildR, extR, convI, eqB, evU, wrap64, dT, dF, rs_image_Get]) | (with_reducible intro _) | ((with_reducible apply And.intro); omega)))
    exact ⟨_, vw_flat rfl, rfl⟩
  rw [getN, if_neg (by omega)]
  obtain ⟨q, rfl⟩ : ∃ q : Nat, p = q := ⟨p.toNat, by omega⟩
  rw [Int.toNat_natCast]
  (repeat (first | (simp (disch := first | exact dis1 | fail) only [evA, Nat.reduceBEq, Nat.reduceAdd, Nat.reduceLeDiff, boxR, rboxR, allocR, fldR, binI, unR, pickR, mknilR, mkslR, buildSlR, buildR, extR, convI, eqB, evU, wrap64, dF]) | (with_reducible intro _) | ((with_reducible apply And.intro); omega)))
  have hwl : w ≤ 4 := by omega
  have hql : q + w ≤ l.length := by omega
  have hlast : leV (((l.drop q).take w).drop w) = 0 := by
    rw [List.drop_of_length_le (by rw [List.length_take]; omega)]
    rfl
  refine loopX_intro (fun k : Nat => ([(0, encL 1 cByte l), (1, .int .i64 q), (8, .int .u32 ((leV (((l.drop q).take w).drop k) : Nat) : Int)), (9, .int .i64 ((k : Int) - 1))], [])) 0 (fun k => k ≤ w) (fun k => k) w (Nat.le_refl _) (by rw [hlast]; exact Ent.keep rfl (by (try simp [subK, Kn.get, beq_eq]) <;> (repeat' with_reducible apply And.intro) <;> first | rfl | omega | (simp; done))) ?_
  intro k hk wf
  unfold ac_image_Get_l0
  (repeat (first | (simp (disch := first | exact dis1 | fail) only [evA, Nat.reduceBEq, Nat.reduceAdd, Nat.reduceLeDiff, boxR, rboxR, allocR, fldR, binI, unR, pickR, mknilR, mkslR, buildSlR, buildR, extR, convI, eqB, evU, wrap64]) | (with_reducible intro _) | ((with_reducible apply And.intro); omega)))
  (refine condX_intro (fun h => ?_) (fun h => ?_)) <;> (try simp only [decide_eq_true_eq, decide_eq_false_iff_not, Bool.not_eq_true', Bool.not_eq_false', Bool.and_eq_true, Bool.or_eq_true, not_true_eq_false, not_false_eq_true] at h)
  · obtain ⟨i, rfl⟩ : ∃ i, k = i + 1 := ⟨k - 1, by omega⟩
    have hst := leV_step (l := l) (p := q) (w := w) (k := i) (by omega) hql
    have hsm := leV_small (l := l) (p := q) (w := w) (k := i + 1) hwl (by omega)
    have hii : ((i + 1 : Nat) : Int) - 1 = (i : Int) := by omega
    have hqi : ((q : Int) + (i : Int)).toNat = q + i := by omega
    have hbc := byte_cell (l := l) (k := q + i) (by omega)
    generalize leV (((l.drop q).take w).drop (i + 1)) = n at *
    have hor := shl_or hsm (u8_lt (l.getD (q + i) 0))
    (repeat (first | (simp (disch := first | exact dis1 | fail) only [evA, Nat.reduceBEq, Nat.reduceAdd, Nat.reduceLeDiff, boxR, rboxR, allocR, fldR, binI, unR, pickR, mknilR, mkslR, buildSlR, buildR, extR, convI, eqB, evU, wrap64, hii, hqi, hbc]) | (with_reducible intro _) | ((with_reducible apply And.intro); omega)))
    refine ⟨i, by omega, by omega, ?_⟩
    rw [hst, ← hor]
    exact Ent.keep rfl (by (try simp [subK, Kn.get, beq_eq]) <;> (repeat' with_reducible apply And.intro) <;> first | rfl | omega | (simp; done))
  · rw [show k = 0 by omega]
    unfold ac_image_Get_k1
    (repeat (first | (simp (disch := first | exact dis1 | fail) only [evA, Nat.reduceBEq, Nat.reduceAdd, Nat.reduceLeDiff, boxR, rboxR, allocR, fldR, binI, unR, pickR, mknilR, mkslR, buildSlR, buildR, extR, convI, eqB, evU, wrap64, List.drop_zero, rs_image_Get]) | (with_reducible intro _) | ((with_reducible apply And.intro); omega)))
    exact ⟨_, vw_flat rfl, rfl⟩

end Go.Ab
