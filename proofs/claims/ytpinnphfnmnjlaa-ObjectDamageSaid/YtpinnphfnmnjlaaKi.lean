/-
  Part 9 of the proof: how the calls of this program run, over values instead of memory, and what each function computes.
-/
import Derived.KernelRfl
import Derived.Test.YtpinnphfnmnjlaaKh
set_option linter.unusedVariables false
set_option linter.unusedSimpArgs false
set_option linter.unnecessarySimpa false
set_option linter.unusedSectionVars false

namespace Go.Ab
open Go.RowKit Go.Proofs

def emptyB : Bin := ⟨0, [], [], []⟩
def magicB : List UInt8 := [68, 67, 79, 49]
def Rd.start (b : List UInt8) : Rd := ⟨b, 0, 0⟩

/-- The reader behind the first four bytes, as the program takes them. -/
def magicP (b : List UInt8) : Rd := if ((Rd.start b).bytes 4).2.e = 0 ∧ ((Rd.start b).bytes 4).1 ≠ magicB then ((Rd.start b).bytes 4).2.failR 4 else ((Rd.start b).bytes 4).2

structure Cnt where
  en : Nat
  nS : Nat
  nY : Nat
  nR : Nat
def Rd.cnts (r : Rd) : Cnt × Rd :=
  (⟨(r.number 4).1.toNat, ((r.number 4).2.number 1).1.toNat, (((r.number 4).2.number 1).2.number 2).1.toNat, ((((r.number 4).2.number 1).2.number 2).2.number 2).1.toNat⟩, ((((r.number 4).2.number 1).2.number 2).2.number 2).2)

def bodyR (secs : Nat → Rd → List Sec × Rd) (r : Rd) : Bin × Rd :=
  (⟨UInt32.ofNat r.cnts.1.en, (secs r.cnts.1.nS r.cnts.2).1, (Rd.syms r.cnts.1.nY (secs r.cnts.1.nS r.cnts.2).2).1, (Rd.rels r.cnts.1.nR (Rd.syms r.cnts.1.nY (secs r.cnts.1.nS r.cnts.2).2).2).1⟩,
    (Rd.rels r.cnts.1.nR (Rd.syms r.cnts.1.nY (secs r.cnts.1.nS r.cnts.2).2).2).2)

def tailR (b : List UInt8) (o : Bin) (r : Rd) : Bin × Int :=
  if (r.number 4).2.e ≠ 0 then (emptyB, (r.number 4).2.e)
  else if (r.number 4).1 ≠ sumK (b.take r.p.toNat) (b.take r.p.toNat).length ∨ (r.number 4).2.p ≠ b.length then (emptyB, 4)
  else if checkO o ≠ 0 then (emptyB, checkO o) else (o, 0)

def decodeP (b : List UInt8) : Bin × Int :=
  if 65536 < b.length then (emptyB, 6) else tailR b (bodyR Rd.secsP (magicP b)).1 (bodyR Rd.secsP (magicP b)).2

theorem tailR_err {b : List UInt8} {o : Bin} {r : Rd} (h : (r.number 4).2.e ≠ 0) : tailR b o r = (emptyB, (r.number 4).2.e) := if_pos h
theorem tailR_bad {b : List UInt8} {o : Bin} {r : Rd} (h : (r.number 4).2.e = 0) (h2 : (r.number 4).1 ≠ sumK (b.take r.p.toNat) (b.take r.p.toNat).length ∨ (r.number 4).2.p ≠ b.length) : tailR b o r = (emptyB, 4) := by
  rw [tailR, if_neg (by simp [h]), if_pos h2]
theorem tailR_check {b : List UInt8} {o : Bin} {r : Rd} (h : (r.number 4).2.e = 0) (h2 : ¬ ((r.number 4).1 ≠ sumK (b.take r.p.toNat) (b.take r.p.toNat).length ∨ (r.number 4).2.p ≠ b.length)) (h3 : checkO o ≠ 0) : tailR b o r = (emptyB, checkO o) := by
  rw [tailR, if_neg (by simp [h]), if_neg h2, if_pos h3]
theorem tailR_good {b : List UInt8} {o : Bin} {r : Rd} (h : (r.number 4).2.e = 0) (h2 : ¬ ((r.number 4).1 ≠ sumK (b.take r.p.toNat) (b.take r.p.toNat).length ∨ (r.number 4).2.p ≠ b.length)) (h3 : checkO o = 0) : tailR b o r = (o, 0) := by
  rw [tailR, if_neg (by simp [h]), if_neg h2, if_neg (by simp [h3])]

theorem getN_small (l : List UInt8) (p : Int) {w : Nat} : ∃ n : Nat, n < 256 ^ w ∧ (getN l p w).1 = (n : Int) := by
  unfold getN
  split
  · exact ⟨0, Nat.pow_pos (by decide), rfl⟩
  · refine ⟨_, Nat.lt_of_lt_of_le (leV_lt _) ?_, rfl⟩
    refine Nat.pow_le_pow_right (by decide) ?_
    rw [List.length_take]
    omega
theorem Rd.number_small (r : Rd) (w : Nat) : ∃ n : Nat, n < 256 ^ w ∧ (r.number w).1 = (n : Int) := by
  unfold Rd.number
  split
  · exact ⟨0, Nat.pow_pos (by decide), rfl⟩
  · exact getN_small _ _

theorem Rd.text_size (r : Rd) : r.text.1.size ≤ 32 := by
  unfold Rd.text
  split
  · exact Nat.zero_le _
  · show (getT r.b r.p).1.size ≤ 32
    unfold getT
    split
    · exact Nat.zero_le _
    · split
      · exact Nat.zero_le _
      · split
        · exact Nat.zero_le _
        · show (cutT _ _ _).size ≤ 32
          have : (cutT r.b (r.p.toNat + 1) (r.b.getD r.p.toNat 0).toNat).size = (((r.b.drop (r.p.toNat + 1)).take (r.b.getD r.p.toNat 0).toNat)).length := by simp [cutT, ByteArray.size]
          rw [this, List.length_take]
          omega

theorem secsP_in : ∀ (n : Nat) (r : Rd), (Rd.secsP n r).1.length ≤ n ∧ ∀ s ∈ (Rd.secsP n r).1, s.name.size ≤ 32
  | 0, r => ⟨Nat.le_refl _, fun s hs => by cases hs⟩
  | n + 1, r => by
    rw [Rd.secsP]
    split
    · exact ⟨Nat.zero_le _, fun s hs => by cases hs⟩
    · have ih := secsP_in n r.secP.2
      refine ⟨Nat.succ_le_succ ih.1, fun s hs => ?_⟩
      rcases List.mem_cons.1 hs with rfl | hs
      · exact Rd.text_size r
      · exact ih.2 s hs
theorem syms_in : ∀ (n : Nat) (r : Rd), (Rd.syms n r).1.length ≤ n ∧ ∀ s ∈ (Rd.syms n r).1, s.name.size ≤ 32
  | 0, r => ⟨Nat.le_refl _, fun s hs => by cases hs⟩
  | n + 1, r => by
    rw [Rd.syms]
    split
    · exact ⟨Nat.zero_le _, fun s hs => by cases hs⟩
    · have ih := syms_in n r.symS.2
      refine ⟨Nat.succ_le_succ ih.1, fun s hs => ?_⟩
      rcases List.mem_cons.1 hs with rfl | hs
      · exact Rd.text_size r
      · exact ih.2 s hs
theorem rels_in : ∀ (n : Nat) (r : Rd), (Rd.rels n r).1.length ≤ n
  | 0, r => Nat.le_refl _
  | n + 1, r => by
    rw [Rd.rels]
    split
    · exact Nat.zero_le _
    · exact Nat.succ_le_succ (rels_in n r.relS.2)

theorem secsP_fine : ∀ (n : Nat) (r : Rd), r.fine → (Rd.secsP n r).2.fine
  | 0, r, h => h
  | n + 1, r, h => by
    rw [Rd.secsP]
    split
    · exact h
    · exact secsP_fine n r.secP.2 (Rd.secP_fine h)
theorem syms_fine : ∀ (n : Nat) (r : Rd), r.fine → (Rd.syms n r).2.fine
  | 0, r, h => h
  | n + 1, r, h => by
    rw [Rd.syms]
    split
    · exact h
    · exact syms_fine n r.symS.2 (Rd.symS_fine h)
theorem rels_fine : ∀ (n : Nat) (r : Rd), r.fine → (Rd.rels n r).2.fine
  | 0, r, h => h
  | n + 1, r, h => by
    rw [Rd.rels]
    split
    · exact h
    · exact rels_fine n r.relS.2 (Rd.relS_fine h)

theorem Rd.bytes_b {r : Rd} {n : Nat} : (r.bytes n).2.b = r.b := by
  unfold Rd.bytes
  split
  · rfl
  · split <;> rfl
theorem Rd.text_b {r : Rd} : r.text.2.b = r.b := by
  unfold Rd.text
  split <;> rfl
theorem Rd.mark_b {r : Rd} {f : Int} : (r.mark f).b = r.b := by
  unfold Rd.mark
  split <;> rfl
theorem Rd.failR_b {r : Rd} {x : Int} : (r.failR x).b = r.b := by
  unfold Rd.failR
  split <;> rfl
theorem Rd.failR_fine {r : Rd} {x : Int} (h : r.fine) (hx : x ≠ 0) : (r.failR x).fine := by
  unfold Rd.failR
  split
  · exact ⟨h.lo, h.hi, h.len, fun h0 => absurd h0 hx⟩
  · exact h
theorem Rd.secP_b {r : Rd} : r.secP.2.b = r.b := by
  show ((r.r5.bytes r.size).2).b = _
  rw [Rd.bytes_b]
  show ((r.r4.number 4).2).b = _
  rw [Rd.number_b]
  show (r.r3.mark r.flag).b = _
  rw [Rd.mark_b]
  show ((r.r2.number 1).2).b = _
  rw [Rd.number_b]
  show ((r.r1.number 4).2).b = _
  rw [Rd.number_b]
  exact Rd.text_b
theorem Rd.symS_b {r : Rd} : r.symS.2.b = r.b := by
  show (((r.text.2.number 4).2.number 1).2).b = _
  rw [Rd.number_b, Rd.number_b, Rd.text_b]
theorem Rd.relS_b {r : Rd} : r.relS.2.b = r.b := by
  show (((((r.number 1).2.number 4).2.number 1).2.text.2.number 4).2).b = _
  rw [Rd.number_b, Rd.text_b, Rd.number_b, Rd.number_b, Rd.number_b]
theorem secsP_b : ∀ (n : Nat) (r : Rd), (Rd.secsP n r).2.b = r.b
  | 0, r => rfl
  | n + 1, r => by
    rw [Rd.secsP]
    split
    · rfl
    · exact (secsP_b n _).trans Rd.secP_b
theorem syms_b : ∀ (n : Nat) (r : Rd), (Rd.syms n r).2.b = r.b
  | 0, r => rfl
  | n + 1, r => by
    rw [Rd.syms]
    split
    · rfl
    · exact (syms_b n _).trans Rd.symS_b
theorem rels_b : ∀ (n : Nat) (r : Rd), (Rd.rels n r).2.b = r.b
  | 0, r => rfl
  | n + 1, r => by
    rw [Rd.rels]
    split
    · rfl
    · exact (rels_b n _).trans Rd.relS_b

theorem Rd.start_fine {b : List UInt8} (h : b.length ≤ 70000) : (Rd.start b).fine := ⟨Int.le_refl _, by show (0 : Int) ≤ _; omega, h, fun _ => by show (0 : Int) ≤ _; omega⟩
theorem magicP_fine {b : List UInt8} (h : b.length ≤ 70000) : (magicP b).fine := by
  have := Rd.bytes_fine (n := 4) (Rd.start_fine h)
  unfold magicP
  split
  · exact Rd.failR_fine this (by decide)
  · exact this
theorem magicP_b {b : List UInt8} : (magicP b).b = b := by
  unfold magicP
  split
  · rw [Rd.failR_b, Rd.bytes_b]; rfl
  · rw [Rd.bytes_b]; rfl

theorem empty_frz {H : AH} {e : Int} : Frz H (.tup [.agg [.int .u32 0, .nilsl, .nilsl, .nilsl], .int .i64 e]) (.tup [.agg emptyB.cells, .int .i64 e]) := by
  refine .tup _ _ _ rfl (fun i a c h1 h2 => ?_)
  rcases i with _ | _ | i
  · cases h1; cases h2
    refine .agg _ _ _ rfl (fun i a c h1 h2 => ?_)
    rcases i with _ | _ | _ | _ | i
    · cases h1; cases h2; exact .int _ _ _
    · cases h1; cases h2; exact .nil0 _ _ _
    · cases h1; cases h2; exact .nil0 _ _ _
    · cases h1; cases h2; exact .nil0 _ _ _
    · simp at h1
  · cases h1; cases h2; exact .int _ _ _
  · simp at h1

theorem vw_secs {H H2 : AH} {σ : Nat → Nat → Option (Nat × Nat × Nat)} {D : Nat → Nat → Prop} {t : Bool} {r g : Nat} {l : List Sec} (hD : D r 0) (hg : H.get r 0 = some (.row 5 (l.map Sec.cells) g)) (hb : l.length ≤ big) : Vw H H2 σ D t (.own r 0 g 0 l.length) (encL 5 Sec.cells l) :=
  vw_encL hD hg hb fun a _ j hj => by
    rcases j with _ | _ | _ | _ | _ | j <;> first | exact vw_flat0 rfl | omega
theorem vw_syms {H H2 : AH} {σ : Nat → Nat → Option (Nat × Nat × Nat)} {D : Nat → Nat → Prop} {t : Bool} {r g : Nat} {l : List Sym} (hD : D r 0) (hg : H.get r 0 = some (.row 3 (l.map Sym.cells) g)) (hb : l.length ≤ big) : Vw H H2 σ D t (.own r 0 g 0 l.length) (encL 3 Sym.cells l) :=
  vw_encL hD hg hb fun a _ j hj => by
    rcases j with _ | _ | _ | j <;> first | exact vw_flat0 rfl | omega
theorem vw_rels {H H2 : AH} {σ : Nat → Nat → Option (Nat × Nat × Nat)} {D : Nat → Nat → Prop} {t : Bool} {r g : Nat} {l : List Rel} (hD : D r 0) (hg : H.get r 0 = some (.row 5 (l.map Rel.cells) g)) (hb : l.length ≤ big) : Vw H H2 σ D t (.own r 0 g 0 l.length) (encL 5 Rel.cells l) :=
  vw_encL hD hg hb fun a _ j hj => by
    rcases j with _ | _ | _ | _ | _ | j <;> first | exact vw_flat0 rfl | omega

theorem vw_bin {H H2 : AH} {σ : Nat → Nat → Option (Nat × Nat × Nat)} {D : Nat → Nat → Prop} {t : Bool} {r1 r2 r3 g1 g2 g3 en : Nat} {S : List Sec} {Y : List Sym} {R : List Rel} (hen : en < 4294967296)
    (D1 : D r1 0) (D2 : D r2 0) (D3 : D r3 0) (h1 : H.get r1 0 = some (.row 5 (S.map Sec.cells) g1)) (h2 : H.get r2 0 = some (.row 3 (Y.map Sym.cells) g2)) (h3 : H.get r3 0 = some (.row 5 (R.map Rel.cells) g3))
    (hS : S.length ≤ big) (hY : Y.length ≤ big) (hR : R.length ≤ big) :
    Vw H H2 σ D t (.agg [.int .u32 en, .own r1 0 g1 0 S.length, .own r2 0 g2 0 Y.length, .own r3 0 g3 0 R.length]) (.agg (Bin.cells ⟨UInt32.ofNat en, S, Y, R⟩)) := by
  refine .agg _ _ _ rfl (fun i a c k1 k2 => ?_)
  rcases i with _ | _ | _ | _ | i
  · cases k1; cases k2
    have : ((UInt32.ofNat en).toNat : Int) = (en : Int) := by rw [UInt32.toNat_ofNat_of_lt' hen]
    rw [this]
    exact .int _ _ _
  · cases k1; cases k2; exact vw_secs D1 h1 hS
  · cases k1; cases k2; exact vw_syms D2 h2 hY
  · cases k1; cases k2; exact vw_rels D3 h3 hR
  · simp at k1

end Go.Ab

namespace Go.Ab
open Go.RowKit Go.Proofs

theorem start_cells {b : List UInt8} : [encL 1 cByte b, AV.int .i64 0, .int .i64 0] = (Rd.start b).cells := rfl

theorem Rd.number_e0 {r : Rd} {w : Nat} (h : (r.number w).2.e = 0) : r.e = 0 ∧ 0 ≤ r.p ∧ r.p + w ≤ r.b.length ∧ (r.number w).2 = ⟨r.b, r.p + w, 0⟩ := by
  by_cases he : r.e = 0
  · rw [Rd.number_ok he] at h ⊢
    have h : (getN r.b r.p w).2 = 0 := h
    rcases getN_cases r.b r.p w with h2 | ⟨_, h3, h4⟩
    · rw [h2] at h; cases h
    · exact ⟨he, h3, h4, by simp only [h]⟩
  · rw [Rd.number_err he] at h
    exact absurd h he

theorem frz_pair {H : AH} {a c : AV} {k : IntKind} {n : Int} (h : Frz H a c) : Frz H (.tup [a, .int k n]) (.tup [c, .int k n]) := by
  refine .tup _ _ _ rfl (fun i x y h1 h2 => ?_)
  rcases i with _ | _ | i
  · cases h1; cases h2; exact h
  · cases h1; cases h2; exact .int _ _ _
  · simp at h1

theorem ren_rowF {ρ : Nat → Nat} {sz g : Nat} {els : List (List AV)} (h : FlatRows els) : AObj.ren ρ (.row sz els g) = .row sz els g := by
  simp only [AObj.ren, ren_rows h]
theorem ren_secs {ρ : Nat → Nat} {l : List Sec} {g : Nat} : AObj.ren ρ (.row 5 (l.map Sec.cells) g) = .row 5 (l.map Sec.cells) g := ren_rowF (flat_map fun _ => rfl)
theorem ren_syms {ρ : Nat → Nat} {l : List Sym} {g : Nat} : AObj.ren ρ (.row 3 (l.map Sym.cells) g) = .row 3 (l.map Sym.cells) g := ren_rowF (flat_map fun _ => rfl)
theorem ren_rels {ρ : Nat → Nat} {l : List Rel} {g : Nat} : AObj.ren ρ (.row 5 (l.map Rel.cells) g) = .row 5 (l.map Rel.cells) g := ren_rowF (flat_map fun _ => rfl)

theorem object_Decode_ok (b : List UInt8) (hb : b.length ≤ 70000) : PureFn Try.prog f_object_Decode [encB b] (· = .tup [.agg (decodeP b).1.cells, .int .i64 (decodeP b).2]) := by
  refine fn_x cf_object_Decode rfl ?_
  unfold ac_object_Decode
  have hB : big = 9223372036854775807 := rfl
  have hee : ∀ x : Rd, (Rd.cells x).getD 2 .undef = .int .i64 x.e := fun _ => rfl
  have hpp : ∀ x : Rd, (Rd.cells x).getD 1 .undef = .int .i64 x.p := fun _ => rfl
  have hel : ∀ x : Rd, (Rd.cells x).length = 3 := fun _ => rfl
  (repeat (first | (simp (disch := first | exact dis1 | fail) only [evA, Nat.reduceBEq, Nat.reduceAdd, Nat.reduceLeDiff, boxR, rboxR, allocR, fldR, binI, unR, pickR, mknilR, mkslR, buildSlR, buildR, extR, convI, eqB, evU, wrap64, encB]) | (with_reducible intro _) | ((with_reducible apply And.intro); omega)))
  by_cases h1 : 65536 < b.length
  · have e : decodeP b = (emptyB, 6) := if_pos h1
    rw [e]
    (repeat (first | (simp (disch := first | exact dis1 | fail) only [evA, Nat.reduceBEq, Nat.reduceAdd, Nat.reduceLeDiff, boxR, rboxR, allocR, fldR, binI, unR, pickR, mknilR, mkslR, buildSlR, buildR, extR, convI, eqB, evU, wrap64, dT, rs_object_Decode]) | (with_reducible intro _) | ((with_reducible apply And.intro); omega)))
    exact ⟨_, empty_frz, rfl⟩
  have hdec : decodeP b = tailR b (bodyR Rd.secsP (magicP b)).1 (bodyR Rd.secsP (magicP b)).2 := if_neg h1
  rw [hdec]
  (repeat (first | (simp (disch := first | exact dis1 | fail) only [evA, Nat.reduceBEq, Nat.reduceAdd, Nat.reduceLeDiff, boxR, rboxR, allocR, fldR, binI, unR, pickR, mknilR, mkslR, buildSlR, buildR, extR, convI, eqB, evU, wrap64, dF]) | (with_reducible intro _) | ((with_reducible apply And.intro); omega)))
  refine joinX_intro (fun _ : Unit => ([(0, encB b), (2, .ptr 0 0 0 0 0), (4, .ptr 2 0 0 0 0)], [(0, .row 4 [[.int .u32 0, .nilsl, .nilsl, .nilsl]] 0), (1, .row 3 [(magicP b).cells] 0), (2, .row 5 [[.ptr 1 0 0 0 0, .int .u32 0, .nilsl, .nilsl, .nilsl]] 0)])) 3 (fun _ => True) ?_ ?_
  · have k0 := position_bytes_ok (Rd.start b) 4 (Rd.start_fine hb).toOk (Rd.start_fine hb).ok (by decide)
    (repeat (first | (simp (disch := first | exact dis1 | fail) only [evA, Nat.reduceBEq, Nat.reduceAdd, Nat.reduceLeDiff, boxR, rboxR, allocR, fldR, binI, unR, pickR, mknilR, mkslR, buildSlR, buildR, extR, convI, eqB, evU, wrap64, start_cells]) | (with_reducible intro _) | ((with_reducible apply And.intro); omega)))
    refine call_lows 3 rfl ?_; refine call_own [(0, 1, 0)] 1 _ (k0) rfl rfl (by (try simp only [evWA, Nat.reduceBEq, Nat.reduceAdd, Nat.reduceSub, Nat.reduceLeDiff, Nat.reduceLT, implies_true, and_self, Int.natCast_zero, Int.natCast_one, Int.cast_ofNat_Int, evV, encInts, encNats, encBools, encP, Rd.cells, encB]) <;> exact fin1) (by (try simp only [evWA, Nat.reduceBEq, Nat.reduceAdd, Nat.reduceSub, Nat.reduceLeDiff, Nat.reduceLT, implies_true, and_self, Int.natCast_zero, Int.natCast_one, Int.cast_ofNat_Int, evV, encInts, encNats, encBools, encP, Rd.cells, encB]) <;> exact fin1) ?_
    rintro v' H' nx' ⟨rfl, rfl, rfl⟩
    refine ⟨?_, ?_⟩; (· (repeat (first | (simp (disch := first | exact dis1 | fail) only [evA, Nat.reduceBEq, Nat.reduceAdd, Nat.reduceLeDiff, boxR, rboxR, allocR, fldR, binI, unR, pickR, mknilR, mkslR, buildSlR, buildR, extR, convI, eqB, evU, wrap64, rowsLt, elsLt_cons, AV.lt1, AV.lt0, AH.sort, AH.ins, Nat.reduceEqDiff, Nat.reduceLT, if_true, if_false, reduceIte, and_true, true_and, Rd.ren, encB_ren]) | (with_reducible intro _) | ((with_reducible apply And.intro); omega))) <;> ((repeat' with_reducible apply And.intro) <;> first | rfl | omega | exact elsLt_nil | (refine elsLt_map ?_; intro _; rfl) | fail)); (repeat (first | (simp (disch := first | exact dis1 | fail) only [evA, Nat.reduceBEq, Nat.reduceAdd, Nat.reduceLeDiff, boxR, rboxR, allocR, fldR, binI, unR, pickR, mknilR, mkslR, buildSlR, buildR, extR, convI, eqB, evU, wrap64, AH.sort, AH.ins, Nat.reduceEqDiff, Nat.reduceLT, if_true, if_false, reduceIte, Rd.ren, encB_ren]) | (with_reducible intro _) | ((with_reducible apply And.intro); omega)))
    have hM : magicP b = if ((Rd.start b).bytes 4).2.e = 0 ∧ ((Rd.start b).bytes 4).1 ≠ magicB then ((Rd.start b).bytes 4).2.failR 4 else ((Rd.start b).bytes 4).2 := rfl
    have hlq : ((Rd.start b).bytes 4).1.length ≤ 70000 := by
      unfold Rd.bytes
      split
      · exact Nat.zero_le _
      · split
        · exact Nat.zero_le _
        · rename_i h2
          have h2 : ¬ (b.length : Int) - 0 < 4 := h2
          show (cutB b 0 4).length ≤ _
          rw [cutB_len (by omega)]
          decide
    rw [hM]
    generalize (Rd.start b).bytes 4 = q at *
    obtain ⟨q1, q2⟩ := q
    simp only at hlq ⊢
    by_cases hq : q2.e = 0
    · have d1 : decide (q2.e = 0) = true := decide_eq_true hq
      have hsl : ∀ {H : AH}, elsOf 1 (encL 1 cByte q1) H = some (q1.map cByte) := fun {H} => elsOf_encL (fun _ _ => rfl)
      have hmg : ∀ x : List UInt8, decide ((⟨x.toArray⟩ : ByteArray) = ⟨#[68, 67, 79, 49]⟩) = decide (x = magicB) := fun x => by
        refine decide_eq_decide.2 ⟨fun h => ?_, fun h => by rw [h]; rfl⟩
        injection h with h
        have := congrArg Array.toList h
        exact this
      (repeat (first | (simp (disch := first | exact dis1 | fail) only [evA, Nat.reduceBEq, Nat.reduceAdd, Nat.reduceLeDiff, boxR, rboxR, allocR, fldR, binI, unR, pickR, mknilR, mkslR, buildSlR, buildR, extR, convI, eqB, evU, wrap64, hee, hel, d1, encB, hsl, hmg]) | (with_reducible intro _) | ((with_reducible apply And.intro); omega)))
      refine ⟨rfl, fun _ => ?_⟩
      by_cases hm : q1 = magicB
      · have d2 : decide (q1 = magicB) = true := decide_eq_true hm
        rw [if_neg (fun h => h.2 hm)]
        (repeat (first | (simp (disch := first | exact dis1 | fail) only [evA, Nat.reduceBEq, Nat.reduceAdd, Nat.reduceLeDiff, boxR, rboxR, allocR, fldR, binI, unR, pickR, mknilR, mkslR, buildSlR, buildR, extR, convI, eqB, evU, wrap64, d2, Bool.not_true]) | (with_reducible intro _) | ((with_reducible apply And.intro); omega)))
        exact ⟨(), Ent.keep rfl (by (try simp [subK, Kn.get, beq_eq]) <;> (repeat' with_reducible apply And.intro) <;> first | rfl | omega | (simp; done))⟩
      · have d2 : decide (q1 = magicB) = false := decide_eq_false hm
        have kf := position_fail_all q2 4
        rw [if_pos ⟨hq, hm⟩]
        (repeat (first | (simp (disch := first | exact dis1 | fail) only [evA, Nat.reduceBEq, Nat.reduceAdd, Nat.reduceLeDiff, boxR, rboxR, allocR, fldR, binI, unR, pickR, mknilR, mkslR, buildSlR, buildR, extR, convI, eqB, evU, wrap64, d2, Bool.not_false]) | (with_reducible intro _) | ((with_reducible apply And.intro); omega)))
        refine call_lows 3 rfl ?_; refine call_own [(0, 1, 0)] 1 _ (kf) rfl rfl (by (try simp only [evWA, Nat.reduceBEq, Nat.reduceAdd, Nat.reduceSub, Nat.reduceLeDiff, Nat.reduceLT, implies_true, and_self, Int.natCast_zero, Int.natCast_one, Int.cast_ofNat_Int, evV, encInts, encNats, encBools, encP, Rd.cells, encB]) <;> exact fin1) (by (try simp only [evWA, Nat.reduceBEq, Nat.reduceAdd, Nat.reduceSub, Nat.reduceLeDiff, Nat.reduceLT, implies_true, and_self, Int.natCast_zero, Int.natCast_one, Int.cast_ofNat_Int, evV, encInts, encNats, encBools, encP, Rd.cells, encB]) <;> exact fin1) ?_
        rintro v' H' nx' ⟨rfl, rfl, rfl⟩
        refine ⟨?_, ?_⟩; (· (repeat (first | (simp (disch := first | exact dis1 | fail) only [evA, Nat.reduceBEq, Nat.reduceAdd, Nat.reduceLeDiff, boxR, rboxR, allocR, fldR, binI, unR, pickR, mknilR, mkslR, buildSlR, buildR, extR, convI, eqB, evU, wrap64, rowsLt, elsLt_cons, AV.lt1, AV.lt0, AH.sort, AH.ins, Nat.reduceEqDiff, Nat.reduceLT, if_true, if_false, reduceIte, and_true, true_and, Rd.ren]) | (with_reducible intro _) | ((with_reducible apply And.intro); omega))) <;> ((repeat' with_reducible apply And.intro) <;> first | rfl | omega | exact elsLt_nil | (refine elsLt_map ?_; intro _; rfl) | fail)); (repeat (first | (simp (disch := first | exact dis1 | fail) only [evA, Nat.reduceBEq, Nat.reduceAdd, Nat.reduceLeDiff, boxR, rboxR, allocR, fldR, binI, unR, pickR, mknilR, mkslR, buildSlR, buildR, extR, convI, eqB, evU, wrap64, AH.sort, AH.ins, Nat.reduceEqDiff, Nat.reduceLT, if_true, if_false, reduceIte, Rd.ren]) | (with_reducible intro _) | ((with_reducible apply And.intro); omega)))
        exact ⟨(), Ent.keep rfl (by (try simp [subK, Kn.get, beq_eq]) <;> (repeat' with_reducible apply And.intro) <;> first | rfl | omega | (simp; done))⟩
    · have d1 : decide (q2.e = 0) = false := decide_eq_false hq
      rw [if_neg (fun h => hq h.1)]
      (repeat (first | (simp (disch := first | exact dis1 | fail) only [evA, Nat.reduceBEq, Nat.reduceAdd, Nat.reduceLeDiff, boxR, rboxR, allocR, fldR, binI, unR, pickR, mknilR, mkslR, buildSlR, buildR, extR, convI, eqB, evU, wrap64, hee, hel, d1]) | (with_reducible intro _) | ((with_reducible apply And.intro); omega)))
      exact ⟨(), Ent.keep rfl (by (try simp [subK, Kn.get, beq_eq]) <;> (repeat' with_reducible apply And.intro) <;> first | rfl | omega | (simp; done))⟩
  rintro ⟨⟩ _ wf
  unfold ac_object_Decode_k1
  have f0 : (magicP b).fine := magicP_fine hb
  have fb : (magicP b).b = b := magicP_b
  generalize magicP b = m at *
  obtain ⟨en, hen, e1⟩ := Rd.number_small m 4
  obtain ⟨m1, hm1⟩ : ∃ x, x = (m.number 4).2 := ⟨_, rfl⟩
  obtain ⟨nS, hnS, e2⟩ := Rd.number_small m1 1
  obtain ⟨m2, hm2⟩ : ∃ x, x = (m1.number 1).2 := ⟨_, rfl⟩
  obtain ⟨nY, hnY, e3⟩ := Rd.number_small m2 2
  obtain ⟨m3, hm3⟩ : ∃ x, x = (m2.number 2).2 := ⟨_, rfl⟩
  obtain ⟨nR, hnR, e4⟩ := Rd.number_small m3 2
  obtain ⟨m4, hm4⟩ : ∃ x, x = (m3.number 2).2 := ⟨_, rfl⟩
  have f1 : m1.fine := by rw [hm1]; exact Rd.number_fine f0 (by decide)
  have f2 : m2.fine := by rw [hm2]; exact Rd.number_fine f1 (by decide)
  have f3 : m3.fine := by rw [hm3]; exact Rd.number_fine f2 (by decide)
  have f4 : m4.fine := by rw [hm4]; exact Rd.number_fine f3 (by decide)
  have k1 := position_number_ok m 4 f0.toOk (by decide)
  have k2 := position_number_ok m1 1 f1.toOk (by decide)
  have k3 := position_number_ok m2 2 f2.toOk (by decide)
  have k4 := position_number_ok m3 2 f3.toOk (by decide)
  have hc : m.cnts = (⟨en, nS, nY, nR⟩, m4) := by
    unfold Rd.cnts
    simp only [← hm1, ← hm2, ← hm3, ← hm4, e1, e2, e3, e4, Int.toNat_natCast]
  rw [e1, ← hm1] at k1
  rw [e2, ← hm2] at k2
  rw [e3, ← hm3] at k3
  rw [e4, ← hm4] at k4
  obtain ⟨S, hS⟩ : ∃ x, x = (Rd.secsP nS m4).1 := ⟨_, rfl⟩
  obtain ⟨m5, hm5⟩ : ∃ x, x = (Rd.secsP nS m4).2 := ⟨_, rfl⟩
  obtain ⟨Y, hY⟩ : ∃ x, x = (Rd.syms nY m5).1 := ⟨_, rfl⟩
  obtain ⟨m6, hm6⟩ : ∃ x, x = (Rd.syms nY m5).2 := ⟨_, rfl⟩
  obtain ⟨R, hR⟩ : ∃ x, x = (Rd.rels nR m6).1 := ⟨_, rfl⟩
  obtain ⟨m7, hm7⟩ : ∃ x, x = (Rd.rels nR m6).2 := ⟨_, rfl⟩
  have f5 : m5.fine := by rw [hm5]; exact secsP_fine _ _ f4
  have f6 : m6.fine := by rw [hm6]; exact syms_fine _ _ f5
  have f7 : m7.fine := by rw [hm7]; exact rels_fine _ _ f6
  have hbody : bodyR Rd.secsP m = (⟨UInt32.ofNat en, S, Y, R⟩, m7) := by
    unfold bodyR
    simp only [hc, ← hS, ← hm5, ← hY, ← hm6, ← hR, ← hm7]
  have b7 : m7.b = b := by rw [hm7, rels_b, hm6, syms_b, hm5, secsP_b, hm4, Rd.number_b, hm3, Rd.number_b, hm2, Rd.number_b, hm1, Rd.number_b, fb]
  have iS := secsP_in nS m4
  have iY := syms_in nY m5
  have iR := rels_in nR m6
  rw [← hS] at iS
  rw [← hY] at iY
  rw [← hR] at iR
  rw [hbody]
  simp only
  simp only [show (256 : Nat) ^ 1 = 256 from rfl, show (256 : Nat) ^ 2 = 65536 from rfl, show (256 : Nat) ^ 4 = 4294967296 from rfl] at hen hnS hnY hnR
  have k5 := object_reader_sections_ok m4 nS en [] [] [] 0 0 0 f4 (by omega) (by decide)
  have k6 := object_reader_symbols_ok m5 nY en S [] [] S.length 0 0 f5 (by omega) (by decide)
  have k7 := object_reader_relocs_ok m6 nR en S Y [] S.length Y.length 0 f6 (by omega) (by decide)
  rw [← hS, ← hm5] at k5
  rw [← hY, ← hm6] at k6
  rw [← hR, ← hm7] at k7
  simp only [List.nil_append, Nat.zero_add] at k5 k6 k7
  clear hm1 hm2 hm3 hm4 hm5 hm6 hm7 hS hY hR hbody hc e1 e2 e3 e4
  (repeat (first | (simp (disch := first | exact dis1 | fail) only [evA, Nat.reduceBEq, Nat.reduceAdd, Nat.reduceLeDiff, boxR, rboxR, allocR, fldR, binI, unR, pickR, mknilR, mkslR, buildSlR, buildR, extR, convI, eqB, evU, wrap64, encB]) | (with_reducible intro _) | ((with_reducible apply And.intro); omega)))
  refine call_lows 3 rfl ?_; refine call_own [(0, 1, 0)] 1 _ (k1) rfl rfl (by (try simp only [evWA, Nat.reduceBEq, Nat.reduceAdd, Nat.reduceSub, Nat.reduceLeDiff, Nat.reduceLT, implies_true, and_self, Int.natCast_zero, Int.natCast_one, Int.cast_ofNat_Int, evV, encInts, encNats, encBools, encP, Rd.cells, encB]) <;> exact fin1) (by (try simp only [evWA, Nat.reduceBEq, Nat.reduceAdd, Nat.reduceSub, Nat.reduceLeDiff, Nat.reduceLT, implies_true, and_self, Int.natCast_zero, Int.natCast_one, Int.cast_ofNat_Int, evV, encInts, encNats, encBools, encP, Rd.cells, encB]) <;> exact fin1) ?_
  rintro v' H' nx' ⟨rfl, rfl, rfl⟩
  refine ⟨?_, ?_⟩; (· (repeat (first | (simp (disch := first | exact dis1 | fail) only [evA, Nat.reduceBEq, Nat.reduceAdd, Nat.reduceLeDiff, boxR, rboxR, allocR, fldR, binI, unR, pickR, mknilR, mkslR, buildSlR, buildR, extR, convI, eqB, evU, wrap64, rowsLt, elsLt_cons, AV.lt1, AV.lt0, AH.sort, AH.ins, Nat.reduceEqDiff, Nat.reduceLT, if_true, if_false, reduceIte, and_true, true_and, Rd.ren]) | (with_reducible intro _) | ((with_reducible apply And.intro); omega))) <;> ((repeat' with_reducible apply And.intro) <;> first | rfl | omega | exact elsLt_nil | (refine elsLt_map ?_; intro _; rfl) | fail)); (repeat (first | (simp (disch := first | exact dis1 | fail) only [evA, Nat.reduceBEq, Nat.reduceAdd, Nat.reduceLeDiff, boxR, rboxR, allocR, fldR, binI, unR, pickR, mknilR, mkslR, buildSlR, buildR, extR, convI, eqB, evU, wrap64, AH.sort, AH.ins, Nat.reduceEqDiff, Nat.reduceLT, if_true, if_false, reduceIte, Rd.ren]) | (with_reducible intro _) | ((with_reducible apply And.intro); omega)))
  refine draw_det dr_object_Decode_0_Ls dr_object_Decode_0_A dr_object_Decode_0_St dr_object_Decode_0_plan [(53, .ptr 2 0 0 0 0), (54, .ptr 2 0 0 0 0), (55, .ptr 2 0 0 0 0), (56, .ptr 1 0 0 0 0), (57, .int .u32 nS), (58, .ptr 2 0 0 0 0), (59, .ptr 2 0 0 0 0), (60, .ptr 2 0 0 0 0), (61, .ptr 1 0 0 0 0), (62, .int .u32 nY), (63, .ptr 2 0 0 0 0), (64, .ptr 2 0 0 0 0), (65, .ptr 2 0 0 0 0), (66, .ptr 1 0 0 0 0), (67, .int .u32 nR), (6, .int .u32 nS), (7, .int .u32 nY), (8, .int .u32 nR)] (hsOf [([(0, .row 4 [[.int .u32 0, .nilsl, .nilsl, .nilsl]] 0), (1, .row 3 [m1.cells] 0), (2, .row 5 [[.ptr 1 0 0 0 0, .int .u32 en, .nilsl, .nilsl, .nilsl]] 0)], 3), ([(0, .row 4 [[.int .u32 0, .nilsl, .nilsl, .nilsl]] 0), (1, .row 3 [m2.cells] 0), (2, .row 5 [[.ptr 1 0 0 0 0, .int .u32 en, .nilsl, .nilsl, .nilsl]] 0)], 3), ([(0, .row 4 [[.int .u32 0, .nilsl, .nilsl, .nilsl]] 0), (1, .row 3 [m3.cells] 0), (2, .row 5 [[.ptr 1 0 0 0 0, .int .u32 en, .nilsl, .nilsl, .nilsl]] 0)], 3), ([(0, .row 4 [[.int .u32 0, .nilsl, .nilsl, .nilsl]] 0), (1, .row 3 [m4.cells] 0), (2, .row 5 [[.ptr 1 0 0 0 0, .int .u32 en, .nilsl, .nilsl, .nilsl]] 0)], 3)]) (by kernel_rfl) (by rfl) (by rfl) (by repeat' first | exact QExt.retK | apply QExt.seq | apply QExt.block | apply QExt.loop | apply QExt.join | assumption) ?plan [(6, .int .u32 nS), (7, .int .u32 nY), (8, .int .u32 nR)] (by rfl) ?fin
  case' plan =>
    intro Kf hs hK hH
    have kf53 : Kf.get 53 = .ptr 2 0 0 0 0 := by rw [hK, setAll_look]; rfl
    have kf54 : Kf.get 54 = .ptr 2 0 0 0 0 := by rw [hK, setAll_look]; rfl
    have kf55 : Kf.get 55 = .ptr 2 0 0 0 0 := by rw [hK, setAll_look]; rfl
    have kf56 : Kf.get 56 = .ptr 1 0 0 0 0 := by rw [hK, setAll_look]; rfl
    have kf57 : Kf.get 57 = .int .u32 nS := by rw [hK, setAll_look]; rfl
    have kf58 : Kf.get 58 = .ptr 2 0 0 0 0 := by rw [hK, setAll_look]; rfl
    have kf59 : Kf.get 59 = .ptr 2 0 0 0 0 := by rw [hK, setAll_look]; rfl
    have kf60 : Kf.get 60 = .ptr 2 0 0 0 0 := by rw [hK, setAll_look]; rfl
    have kf61 : Kf.get 61 = .ptr 1 0 0 0 0 := by rw [hK, setAll_look]; rfl
    have kf62 : Kf.get 62 = .int .u32 nY := by rw [hK, setAll_look]; rfl
    have kf63 : Kf.get 63 = .ptr 2 0 0 0 0 := by rw [hK, setAll_look]; rfl
    have kf64 : Kf.get 64 = .ptr 2 0 0 0 0 := by rw [hK, setAll_look]; rfl
    have kf65 : Kf.get 65 = .ptr 2 0 0 0 0 := by rw [hK, setAll_look]; rfl
    have kf66 : Kf.get 66 = .ptr 1 0 0 0 0 := by rw [hK, setAll_look]; rfl
    have kf67 : Kf.get 67 = .int .u32 nR := by rw [hK, setAll_look]; rfl
    have kf6 : Kf.get 6 = .int .u32 nS := by rw [hK, setAll_look]; rfl
    have kf7 : Kf.get 7 = .int .u32 nY := by rw [hK, setAll_look]; rfl
    have kf8 : Kf.get 8 = .int .u32 nR := by rw [hK, setAll_look]; rfl
    have kf4 : Kf.get 4 = .ptr 2 0 0 0 0 := by rw [hK, setAll_look]; rfl
    simp only [dr_object_Decode_0_plan, planP_cons, planP_nil, and_true]
    (repeat' with_reducible apply And.intro)
    all_goals (rw [hH]; simp only [stepC, dr_object_Decode_0_ops, List.getD_cons_succ, List.getD_cons_zero, hsOf, hsAt, beqL, beq_eq, Nat.reduceBEq, Bool.and_true, Bool.true_and, Bool.and_false, Bool.false_and, cond_true, cond_false, List.length_cons, List.length_nil, Nat.reduceAdd])
    all_goals try (simp (disch := first | exact dis1 | fail) only [evA, Nat.reduceBEq, Nat.reduceAdd, Nat.reduceLeDiff, boxR, rboxR, allocR, fldR, binI, unR, pickR, mknilR, mkslR, buildSlR, buildR, extR, convI, eqB, evU, wrap64, dstEq_set, dstEq_none, kf53, kf54, kf55, kf56, kf57, kf58, kf59, kf60, kf61, kf62, kf63, kf64, kf65, kf66, kf67, kf6, kf7, kf8, kf4, hel]; done)
  case' fin => simp only [dr_object_Decode_0_Ls, hsOf, hsAt, beqL, beq_eq, Nat.reduceBEq, Bool.and_true, Bool.true_and, Bool.and_false, Bool.false_and, cond_true, cond_false, List.length_cons, List.length_nil, Nat.reduceAdd, List.getD_cons_succ, List.getD_cons_zero, setAll]
  · (repeat (first | (simp (disch := first | exact dis1 | fail) only [evA, Nat.reduceBEq, Nat.reduceAdd, Nat.reduceLeDiff, boxR, rboxR, allocR, fldR, binI, unR, pickR, mknilR, mkslR, buildSlR, buildR, extR, convI, eqB, evU, wrap64]) | (with_reducible intro _) | ((with_reducible apply And.intro); omega)))
    refine call_lows 8 rfl ?_
    refine call_own [(0, 1, 0), (1, 2, 0)] 5 _ k5 rfl rfl ?_ ?_ ?_
    · simp only [evWA, Nat.reduceBEq, Nat.reduceAdd, Nat.reduceSub, Nat.reduceLeDiff, Nat.reduceLT, implies_true, and_self, Int.natCast_zero, Int.natCast_one, Int.cast_ofNat_Int, evV, encInts, encNats, encBools, encP, rdH, List.length_nil, List.map_nil, Rd.cells, encB]
      exact ⟨⟨_, rfl⟩, ⟨_, rfl⟩, ⟨_, rfl⟩⟩
    · simp only [evWA, Nat.reduceBEq, Nat.reduceAdd, Nat.reduceSub, Nat.reduceLeDiff, Nat.reduceLT, implies_true, and_self, Int.natCast_zero, Int.natCast_one, Int.cast_ofNat_Int, evV, encInts, encNats, encBools, encP, rdH, List.length_nil, List.map_nil]
    rintro v' H' nx' ⟨rfl, rfl, rfl⟩
    simp only [rdH]
    refine ⟨?_, ?_⟩; (· (repeat (first | (simp (disch := first | exact dis1 | fail) only [evA, Nat.reduceBEq, Nat.reduceAdd, Nat.reduceLeDiff, boxR, rboxR, allocR, fldR, binI, unR, pickR, mknilR, mkslR, buildSlR, buildR, extR, convI, eqB, evU, wrap64, rowsLt, elsLt_cons, AV.lt1, AV.lt0, AH.sort, AH.ins, Nat.reduceEqDiff, Nat.reduceLT, if_true, if_false, reduceIte, and_true, true_and, Rd.ren, ren_secs, ren_syms, ren_rels]) | (with_reducible intro _) | ((with_reducible apply And.intro); omega))) <;> ((repeat' with_reducible apply And.intro) <;> first | rfl | omega | exact elsLt_nil | (refine elsLt_map ?_; intro _; rfl) | fail)); (repeat (first | (simp (disch := first | exact dis1 | fail) only [evA, Nat.reduceBEq, Nat.reduceAdd, Nat.reduceLeDiff, boxR, rboxR, allocR, fldR, binI, unR, pickR, mknilR, mkslR, buildSlR, buildR, extR, convI, eqB, evU, wrap64, AH.sort, AH.ins, Nat.reduceEqDiff, Nat.reduceLT, if_true, if_false, reduceIte, Rd.ren, ren_secs, ren_syms, ren_rels]) | (with_reducible intro _) | ((with_reducible apply And.intro); omega)))
    refine call_lows 8 rfl ?_
    refine call_own [(0, 1, 0), (1, 2, 0), (2, 5, 0), (3, 6, 0), (4, 7, 0)] 5 _ k6 rfl rfl ?_ ?_ ?_
    · simp only [evWA, Nat.reduceBEq, Nat.reduceAdd, Nat.reduceSub, Nat.reduceLeDiff, Nat.reduceLT, implies_true, and_self, Int.natCast_zero, Int.natCast_one, Int.cast_ofNat_Int, evV, encInts, encNats, encBools, encP, rdH, List.length_nil, List.map_nil, Rd.cells, encB]
      exact RowV.of_flat (flat_map fun _ => rfl)
    · simp only [evWA, Nat.reduceBEq, Nat.reduceAdd, Nat.reduceSub, Nat.reduceLeDiff, Nat.reduceLT, implies_true, and_self, Int.natCast_zero, Int.natCast_one, Int.cast_ofNat_Int, evV, encInts, encNats, encBools, encP, rdH, List.length_nil, List.map_nil]
    rintro v' H' nx' ⟨rfl, rfl, rfl⟩
    simp only [rdH]
    refine ⟨?_, ?_⟩; (· (repeat (first | (simp (disch := first | exact dis1 | fail) only [evA, Nat.reduceBEq, Nat.reduceAdd, Nat.reduceLeDiff, boxR, rboxR, allocR, fldR, binI, unR, pickR, mknilR, mkslR, buildSlR, buildR, extR, convI, eqB, evU, wrap64, rowsLt, elsLt_cons, AV.lt1, AV.lt0, AH.sort, AH.ins, Nat.reduceEqDiff, Nat.reduceLT, if_true, if_false, reduceIte, and_true, true_and, Rd.ren, ren_secs, ren_syms, ren_rels]) | (with_reducible intro _) | ((with_reducible apply And.intro); omega))) <;> ((repeat' with_reducible apply And.intro) <;> first | rfl | omega | exact elsLt_nil | (refine elsLt_map ?_; intro _; rfl) | fail)); (repeat (first | (simp (disch := first | exact dis1 | fail) only [evA, Nat.reduceBEq, Nat.reduceAdd, Nat.reduceLeDiff, boxR, rboxR, allocR, fldR, binI, unR, pickR, mknilR, mkslR, buildSlR, buildR, extR, convI, eqB, evU, wrap64, AH.sort, AH.ins, Nat.reduceEqDiff, Nat.reduceLT, if_true, if_false, reduceIte, Rd.ren, ren_secs, ren_syms, ren_rels]) | (with_reducible intro _) | ((with_reducible apply And.intro); omega)))
    refine call_lows 8 rfl ?_
    refine call_own [(0, 1, 0), (1, 2, 0), (2, 5, 0), (3, 6, 0), (4, 7, 0)] 5 _ k7 rfl rfl ?_ ?_ ?_
    · simp only [evWA, Nat.reduceBEq, Nat.reduceAdd, Nat.reduceSub, Nat.reduceLeDiff, Nat.reduceLT, implies_true, and_self, Int.natCast_zero, Int.natCast_one, Int.cast_ofNat_Int, evV, encInts, encNats, encBools, encP, rdH, List.length_nil, List.map_nil, Rd.cells, encB]
      exact ⟨RowV.of_flat (flat_map fun _ => rfl), RowV.of_flat (flat_map fun _ => rfl)⟩
    · simp only [evWA, Nat.reduceBEq, Nat.reduceAdd, Nat.reduceSub, Nat.reduceLeDiff, Nat.reduceLT, implies_true, and_self, Int.natCast_zero, Int.natCast_one, Int.cast_ofNat_Int, evV, encInts, encNats, encBools, encP, rdH, List.length_nil, List.map_nil]
    rintro v' H' nx' ⟨rfl, rfl, rfl⟩
    simp only [rdH]
    refine ⟨?_, ?_⟩; (· (repeat (first | (simp (disch := first | exact dis1 | fail) only [evA, Nat.reduceBEq, Nat.reduceAdd, Nat.reduceLeDiff, boxR, rboxR, allocR, fldR, binI, unR, pickR, mknilR, mkslR, buildSlR, buildR, extR, convI, eqB, evU, wrap64, rowsLt, elsLt_cons, AV.lt1, AV.lt0, AH.sort, AH.ins, Nat.reduceEqDiff, Nat.reduceLT, if_true, if_false, reduceIte, and_true, true_and, Rd.ren, ren_secs, ren_syms, ren_rels]) | (with_reducible intro _) | ((with_reducible apply And.intro); omega))) <;> ((repeat' with_reducible apply And.intro) <;> first | rfl | omega | exact elsLt_nil | (refine elsLt_map ?_; intro _; rfl) | fail)); (repeat (first | (simp (disch := first | exact dis1 | fail) only [evA, Nat.reduceBEq, Nat.reduceAdd, Nat.reduceLeDiff, boxR, rboxR, allocR, fldR, binI, unR, pickR, mknilR, mkslR, buildSlR, buildR, extR, convI, eqB, evU, wrap64, AH.sort, AH.ins, Nat.reduceEqDiff, Nat.reduceLT, if_true, if_false, reduceIte, Rd.ren, ren_secs, ren_syms, ren_rels]) | (with_reducible intro _) | ((with_reducible apply And.intro); omega)))
    obtain ⟨sm, hsm, e8⟩ := Rd.number_val m7 (w := 4) (by decide)
    have k8 := position_number_ok m7 4 f7.toOk (by decide)
    obtain ⟨m8, hm8⟩ : ∃ x, x = (m7.number 4).2 := ⟨_, rfl⟩
    rw [e8, ← hm8] at k8
    (repeat (first | (simp (disch := first | exact dis1 | fail) only [evA, Nat.reduceBEq, Nat.reduceAdd, Nat.reduceLeDiff, boxR, rboxR, allocR, fldR, binI, unR, pickR, mknilR, mkslR, buildSlR, buildR, extR, convI, eqB, evU, wrap64, hpp, hel]) | (with_reducible intro _) | ((with_reducible apply And.intro); omega)))
    refine call_lows 8 rfl ?_; refine call_own [(0, 1, 0)] 1 _ (k8) rfl rfl (by (try simp only [evWA, Nat.reduceBEq, Nat.reduceAdd, Nat.reduceSub, Nat.reduceLeDiff, Nat.reduceLT, implies_true, and_self, Int.natCast_zero, Int.natCast_one, Int.cast_ofNat_Int, evV, encInts, encNats, encBools, encP, Rd.cells, encB]) <;> exact fin1) (by (try simp only [evWA, Nat.reduceBEq, Nat.reduceAdd, Nat.reduceSub, Nat.reduceLeDiff, Nat.reduceLT, implies_true, and_self, Int.natCast_zero, Int.natCast_one, Int.cast_ofNat_Int, evV, encInts, encNats, encBools, encP, Rd.cells, encB]) <;> exact fin1) ?_
    rintro v' H' nx' ⟨rfl, rfl, rfl⟩
    refine ⟨?_, ?_⟩; (· (repeat (first | (simp (disch := first | exact dis1 | fail) only [evA, Nat.reduceBEq, Nat.reduceAdd, Nat.reduceLeDiff, boxR, rboxR, allocR, fldR, binI, unR, pickR, mknilR, mkslR, buildSlR, buildR, extR, convI, eqB, evU, wrap64, rowsLt, elsLt_cons, AV.lt1, AV.lt0, AH.sort, AH.ins, Nat.reduceEqDiff, Nat.reduceLT, if_true, if_false, reduceIte, and_true, true_and, Rd.ren, ren_secs, ren_syms, ren_rels, hee, hel]) | (with_reducible intro _) | ((with_reducible apply And.intro); omega))) <;> ((repeat' with_reducible apply And.intro) <;> first | rfl | omega | exact elsLt_nil | (refine elsLt_map ?_; intro _; rfl) | fail)); (repeat (first | (simp (disch := first | exact dis1 | fail) only [evA, Nat.reduceBEq, Nat.reduceAdd, Nat.reduceLeDiff, boxR, rboxR, allocR, fldR, binI, unR, pickR, mknilR, mkslR, buildSlR, buildR, extR, convI, eqB, evU, wrap64, AH.sort, AH.ins, Nat.reduceEqDiff, Nat.reduceLT, if_true, if_false, reduceIte, Rd.ren, ren_secs, ren_syms, ren_rels, hee, hel]) | (with_reducible intro _) | ((with_reducible apply And.intro); omega)))
    by_cases h8 : m8.e = 0
    case neg =>
      have d1 : decide (m8.e ≠ 0) = true := decide_eq_true h8
      have ht : tailR b ⟨UInt32.ofNat en, S, Y, R⟩ m7 = (emptyB, m8.e) := by rw [hm8] at h8 ⊢; exact tailR_err h8
      rw [ht]
      (repeat (first | (simp (disch := first | exact dis1 | fail) only [evA, Nat.reduceBEq, Nat.reduceAdd, Nat.reduceLeDiff, boxR, rboxR, allocR, fldR, binI, unR, pickR, mknilR, mkslR, buildSlR, buildR, extR, convI, eqB, evU, wrap64, d1, hee, hel, rs_object_Decode]) | (with_reducible intro _) | ((with_reducible apply And.intro); omega)))
      exact ⟨⟨⟨_, empty_frz, rfl⟩, ⟨_, empty_frz, rfl⟩⟩, ⟨_, empty_frz, rfl⟩⟩
    have d1 : decide (m8.e ≠ 0) = false := decide_eq_false (fun h => h h8)
    obtain ⟨q1, q2, q3, q4⟩ := Rd.number_e0 (r := m7) (w := 4) (by rw [← hm8]; exact h8)
    rw [b7] at q3 q4
    rw [← hm8] at q4
    have hp8 : m8.p = m7.p + 4 := by rw [q4]; rfl
    obtain ⟨z, hz⟩ : ∃ z : Nat, m7.p = z := ⟨m7.p.toNat, by omega⟩
    rw [hz] at q3 hp8
    (repeat (first | (simp (disch := first | exact dis1 | fail) only [evA, Nat.reduceBEq, Nat.reduceAdd, Nat.reduceLeDiff, boxR, rboxR, allocR, fldR, binI, unR, pickR, mknilR, mkslR, buildSlR, buildR, extR, convI, eqB, evU, wrap64, d1, hee, hel, hz, hpp, sliceR_to]) | (with_reducible intro _) | ((with_reducible apply And.intro); omega)))
    have hck := object_Checksum_ok (b.take z) (by rw [List.length_take]; omega)
    have hzz : m7.p.toNat = z := by rw [hz]; rfl
    have h80 : (m7.number 4).2.e = 0 := by rw [← hm8]; exact h8
    have hsl : Vw [(0, AObj.row 4 [[.int .u32 0, .nilsl, .nilsl, .nilsl]] 0), (1, AObj.row 3 [m8.cells] 0)] [] nos noR false (.sl 1 ((z : Int) - 0).toNat fun i j => ((List.map cByte b).getD (Int.toNat 0 + i) []).getD j .undef) (encB (b.take z)) := vw_cut (l := b) (z := 0) (n := z) (by omega)
    refine callX_fix (call_fix (D := noR) hck (.cons (vw_cut (l := b) (z := 0) (n := z) (by omega)) .nil) (.inl rfl)) ?_
    have hif : (m7.number 4).1 = (sm : Int) := e8
    have ht1 := @tailR_bad b ⟨UInt32.ofNat en, S, Y, R⟩ m7 h80
    have ht2 := @tailR_check b ⟨UInt32.ofNat en, S, Y, R⟩ m7 h80
    have ht3 := @tailR_good b ⟨UInt32.ofNat en, S, Y, R⟩ m7 h80
    rw [hif, hzz, ← hm8, hp8] at ht1 ht2 ht3
    generalize sumK (b.take z) (b.take z).length = su at *
    by_cases hsu : (sm : Int) = su
    case neg =>
      have d2 : decide ((sm : Int) ≠ su) = true := decide_eq_true hsu
      rw [ht1 (.inl hsu)]
      (repeat (first | (simp (disch := first | exact dis1 | fail) only [evA, Nat.reduceBEq, Nat.reduceAdd, Nat.reduceLeDiff, boxR, rboxR, allocR, fldR, binI, unR, pickR, mknilR, mkslR, buildSlR, buildR, extR, convI, eqB, evU, wrap64, d2, hee, hel, rs_object_Decode]) | (with_reducible intro _) | ((with_reducible apply And.intro); omega)))
      exact ⟨_, empty_frz, rfl⟩
    have d2 : decide ((sm : Int) ≠ su) = false := decide_eq_false (fun h => h hsu)
    (repeat (first | (simp (disch := first | exact dis1 | fail) only [evA, Nat.reduceBEq, Nat.reduceAdd, Nat.reduceLeDiff, boxR, rboxR, allocR, fldR, binI, unR, pickR, mknilR, mkslR, buildSlR, buildR, extR, convI, eqB, evU, wrap64, d2, hee, hel, hpp, hp8]) | (with_reducible intro _) | ((with_reducible apply And.intro); omega)))
    by_cases hpl : (z : Int) + 4 = b.length
    case neg =>
      have d3 : decide ((z : Int) + 4 ≠ b.length) = true := decide_eq_true hpl
      rw [ht1 (.inr hpl)]
      (repeat (first | (simp (disch := first | exact dis1 | fail) only [evA, Nat.reduceBEq, Nat.reduceAdd, Nat.reduceLeDiff, boxR, rboxR, allocR, fldR, binI, unR, pickR, mknilR, mkslR, buildSlR, buildR, extR, convI, eqB, evU, wrap64, d3, hee, hel, rs_object_Decode]) | (with_reducible intro _) | ((with_reducible apply And.intro); omega)))
      exact ⟨_, empty_frz, rfl⟩
    have d3 : decide ((z : Int) + 4 ≠ b.length) = false := decide_eq_false (fun h => h hpl)
    (repeat (first | (simp (disch := first | exact dis1 | fail) only [evA, Nat.reduceBEq, Nat.reduceAdd, Nat.reduceLeDiff, boxR, rboxR, allocR, fldR, binI, unR, pickR, mknilR, mkslR, buildSlR, buildR, extR, convI, eqB, evU, wrap64, d3, hee, hel, hpp, hp8]) | (with_reducible intro _) | ((with_reducible apply And.intro); omega)))
    have hok : (⟨UInt32.ofNat en, S, Y, R⟩ : Bin).okN := ⟨fun s hs => by have := iS.2 s hs; show _ ≤ big; omega, fun s hs => by have := iY.2 s hs; show _ ≤ big; omega, by have := iY.1; show Y.length ≤ _; omega, by show R.length ≤ _; omega⟩
    have hchk := object_Check_ok _ hok
    have lS := iS.1
    have lY := iY.1
    refine callX_fix (call_fix (D := allR) hchk (.cons (vw_bin hen trivial trivial trivial rfl rfl rfl (by omega) (by omega) (by omega)) .nil) (.inl rfl)) ?_
    generalize hcc : checkO _ = c at *
    by_cases hc0 : c = 0
    case neg =>
      have d4 : decide (c ≠ 0) = true := decide_eq_true hc0
      rw [ht2 (by rintro (h | h); exact h hsu; exact h hpl) hc0]
      (repeat (first | (simp (disch := first | exact dis1 | fail) only [evA, Nat.reduceBEq, Nat.reduceAdd, Nat.reduceLeDiff, boxR, rboxR, allocR, fldR, binI, unR, pickR, mknilR, mkslR, buildSlR, buildR, extR, convI, eqB, evU, wrap64, d4, hee, hel, rs_object_Decode]) | (with_reducible intro _) | ((with_reducible apply And.intro); omega)))
      exact ⟨_, empty_frz, rfl⟩
    have d4 : decide (c ≠ 0) = false := decide_eq_false (fun h => h hc0)
    rw [ht3 (by rintro (h | h); exact h hsu; exact h hpl) hc0]
    (repeat (first | (simp (disch := first | exact dis1 | fail) only [evA, Nat.reduceBEq, Nat.reduceAdd, Nat.reduceLeDiff, boxR, rboxR, allocR, fldR, binI, unR, pickR, mknilR, mkslR, buildSlR, buildR, extR, convI, eqB, evU, wrap64, d4, hee, hel, rs_object_Decode]) | (with_reducible intro _) | ((with_reducible apply And.intro); omega)))
    exact ⟨rfl, _, frz_pair (a := .agg [.int .u32 en, .own 5 0 S.length 0 S.length, .own 6 0 Y.length 0 Y.length, .own 7 0 R.length 0 R.length]) (vw_bin hen trivial trivial trivial rfl rfl rfl (by omega) (by omega) (by omega)), rfl⟩
  · (repeat (first | (simp (disch := first | exact dis1 | fail) only [evA, Nat.reduceBEq, Nat.reduceAdd, Nat.reduceLeDiff, boxR, rboxR, allocR, fldR, binI, unR, pickR, mknilR, mkslR, buildSlR, buildR, extR, convI, eqB, evU, wrap64, kf56]) | (with_reducible intro _) | ((with_reducible apply And.intro); omega)))
    refine call_lows 3 rfl ?_; refine call_own [(0, 1, 0)] 1 _ (k2) rfl rfl (by (try simp only [evWA, Nat.reduceBEq, Nat.reduceAdd, Nat.reduceSub, Nat.reduceLeDiff, Nat.reduceLT, implies_true, and_self, Int.natCast_zero, Int.natCast_one, Int.cast_ofNat_Int, evV, encInts, encNats, encBools, encP, Rd.cells, encB]) <;> exact fin1) (by (try simp only [evWA, Nat.reduceBEq, Nat.reduceAdd, Nat.reduceSub, Nat.reduceLeDiff, Nat.reduceLT, implies_true, and_self, Int.natCast_zero, Int.natCast_one, Int.cast_ofNat_Int, evV, encInts, encNats, encBools, encP, Rd.cells, encB]) <;> exact fin1) ?_
    rintro v' H' nx' ⟨rfl, rfl, rfl⟩
    (repeat (first | (simp (disch := first | exact dis1 | fail) only [evA, Nat.reduceBEq, Nat.reduceAdd, Nat.reduceLeDiff, boxR, rboxR, allocR, fldR, binI, unR, pickR, mknilR, mkslR, buildSlR, buildR, extR, convI, eqB, evU, wrap64, Rd.ren]) | (with_reducible intro _) | ((with_reducible apply And.intro); omega)))
    ((repeat (first | (simp (disch := first | exact dis1 | fail) only [evA, Nat.reduceBEq, Nat.reduceAdd, Nat.reduceLeDiff, boxR, rboxR, allocR, fldR, binI, unR, pickR, mknilR, mkslR, buildSlR, buildR, extR, convI, eqB, evU, wrap64, dstEq_set, dstEq_none, rowsLt, elsLt_cons, AV.lt1, AV.lt0, AH.sort, AH.ins, Nat.reduceEqDiff, Nat.reduceLT, if_true, if_false, reduceIte, and_true, true_and, kf57]) | (with_reducible intro _) | ((with_reducible apply And.intro); omega))); try ((repeat' with_reducible apply And.intro) <;> first | rfl | omega | exact elsLt_nil | exact elsLt_map (fun _ => rfl)))
  · (repeat (first | (simp (disch := first | exact dis1 | fail) only [evA, Nat.reduceBEq, Nat.reduceAdd, Nat.reduceLeDiff, boxR, rboxR, allocR, fldR, binI, unR, pickR, mknilR, mkslR, buildSlR, buildR, extR, convI, eqB, evU, wrap64, kf61]) | (with_reducible intro _) | ((with_reducible apply And.intro); omega)))
    refine call_lows 3 rfl ?_; refine call_own [(0, 1, 0)] 1 _ (k3) rfl rfl (by (try simp only [evWA, Nat.reduceBEq, Nat.reduceAdd, Nat.reduceSub, Nat.reduceLeDiff, Nat.reduceLT, implies_true, and_self, Int.natCast_zero, Int.natCast_one, Int.cast_ofNat_Int, evV, encInts, encNats, encBools, encP, Rd.cells, encB]) <;> exact fin1) (by (try simp only [evWA, Nat.reduceBEq, Nat.reduceAdd, Nat.reduceSub, Nat.reduceLeDiff, Nat.reduceLT, implies_true, and_self, Int.natCast_zero, Int.natCast_one, Int.cast_ofNat_Int, evV, encInts, encNats, encBools, encP, Rd.cells, encB]) <;> exact fin1) ?_
    rintro v' H' nx' ⟨rfl, rfl, rfl⟩
    (repeat (first | (simp (disch := first | exact dis1 | fail) only [evA, Nat.reduceBEq, Nat.reduceAdd, Nat.reduceLeDiff, boxR, rboxR, allocR, fldR, binI, unR, pickR, mknilR, mkslR, buildSlR, buildR, extR, convI, eqB, evU, wrap64, Rd.ren]) | (with_reducible intro _) | ((with_reducible apply And.intro); omega)))
    ((repeat (first | (simp (disch := first | exact dis1 | fail) only [evA, Nat.reduceBEq, Nat.reduceAdd, Nat.reduceLeDiff, boxR, rboxR, allocR, fldR, binI, unR, pickR, mknilR, mkslR, buildSlR, buildR, extR, convI, eqB, evU, wrap64, dstEq_set, dstEq_none, rowsLt, elsLt_cons, AV.lt1, AV.lt0, AH.sort, AH.ins, Nat.reduceEqDiff, Nat.reduceLT, if_true, if_false, reduceIte, and_true, true_and, kf62]) | (with_reducible intro _) | ((with_reducible apply And.intro); omega))); try ((repeat' with_reducible apply And.intro) <;> first | rfl | omega | exact elsLt_nil | exact elsLt_map (fun _ => rfl)))
  · (repeat (first | (simp (disch := first | exact dis1 | fail) only [evA, Nat.reduceBEq, Nat.reduceAdd, Nat.reduceLeDiff, boxR, rboxR, allocR, fldR, binI, unR, pickR, mknilR, mkslR, buildSlR, buildR, extR, convI, eqB, evU, wrap64, kf66]) | (with_reducible intro _) | ((with_reducible apply And.intro); omega)))
    refine call_lows 3 rfl ?_; refine call_own [(0, 1, 0)] 1 _ (k4) rfl rfl (by (try simp only [evWA, Nat.reduceBEq, Nat.reduceAdd, Nat.reduceSub, Nat.reduceLeDiff, Nat.reduceLT, implies_true, and_self, Int.natCast_zero, Int.natCast_one, Int.cast_ofNat_Int, evV, encInts, encNats, encBools, encP, Rd.cells, encB]) <;> exact fin1) (by (try simp only [evWA, Nat.reduceBEq, Nat.reduceAdd, Nat.reduceSub, Nat.reduceLeDiff, Nat.reduceLT, implies_true, and_self, Int.natCast_zero, Int.natCast_one, Int.cast_ofNat_Int, evV, encInts, encNats, encBools, encP, Rd.cells, encB]) <;> exact fin1) ?_
    rintro v' H' nx' ⟨rfl, rfl, rfl⟩
    (repeat (first | (simp (disch := first | exact dis1 | fail) only [evA, Nat.reduceBEq, Nat.reduceAdd, Nat.reduceLeDiff, boxR, rboxR, allocR, fldR, binI, unR, pickR, mknilR, mkslR, buildSlR, buildR, extR, convI, eqB, evU, wrap64, Rd.ren]) | (with_reducible intro _) | ((with_reducible apply And.intro); omega)))
    ((repeat (first | (simp (disch := first | exact dis1 | fail) only [evA, Nat.reduceBEq, Nat.reduceAdd, Nat.reduceLeDiff, boxR, rboxR, allocR, fldR, binI, unR, pickR, mknilR, mkslR, buildSlR, buildR, extR, convI, eqB, evU, wrap64, dstEq_set, dstEq_none, rowsLt, elsLt_cons, AV.lt1, AV.lt0, AH.sort, AH.ins, Nat.reduceEqDiff, Nat.reduceLT, if_true, if_false, reduceIte, and_true, true_and, kf67]) | (with_reducible intro _) | ((with_reducible apply And.intro); omega))); try ((repeat' with_reducible apply And.intro) <;> first | rfl | omega | exact elsLt_nil | exact elsLt_map (fun _ => rfl)))

end Go.Ab

namespace Go.Ab
open Go.RowKit Go.Proofs

end Go.Ab

namespace Go.Ab
open Go.RowKit Go.Proofs

def Rd.secsR : Nat → Rd → List Sec × Rd
  | 0, r => ([], r)
  | n + 1, r => if r.e ≠ 0 then ([], r) else (r.sec.1 :: (Rd.secsR n r.sec.2).1, (Rd.secsR n r.sec.2).2)

end Go.Ab

namespace Go.Ab
open Go.RowKit Go.Proofs

def magicR (b : List UInt8) : Rd := if ((Rd.start b).number 4).2.e = 0 ∧ ((Rd.start b).number 4).1 ≠ 827278148 then ((Rd.start b).number 4).2.failR 4 else ((Rd.start b).number 4).2

def decodeR (b : List UInt8) : Bin × Int :=
  if 65536 < b.length then (emptyB, 6) else tailR b (bodyR Rd.secsR (magicR b)).1 (bodyR Rd.secsR (magicR b)).2

end Go.Ab

namespace Go.Ab
open Go.RowKit Go.Proofs

theorem leB_leV : ∀ l : List UInt8, leB (leV l) l.length = l
  | [] => rfl
  | b :: r => by
    have ih := leB_leV r
    have hb := u8_lt b
    unfold leB at ih ⊢
    rw [List.length_cons, List.range_succ_eq_map, List.map_cons, List.map_map]
    congr 1
    · have : (leV (b :: r) / 256 ^ 0) % 256 = b.toNat := by rw [leV, Nat.pow_zero, Nat.div_one]; omega
      unfold byteOf
      rw [this]
      exact UInt8.ofNat_toNat
    · refine Eq.trans ?_ ih
      refine List.map_congr_left fun i _ => ?_
      show byteOf (leV (b :: r) / 256 ^ (i + 1)) = byteOf (leV r / 256 ^ i)
      congr 1
      rw [leV, Nat.pow_succ, Nat.mul_comm (256 ^ i) 256, ← Nat.div_div_eq_div_mul]
      congr 1
      omega

theorem leV_leB (v : Nat) : ∀ w : Nat, leV (leB v w) = v % 256 ^ w := by
  have key : ∀ (w v : Nat), leV ((List.range w).map fun i => byteOf (v / 256 ^ i)) = v % 256 ^ w := by
    intro w
    induction w with
    | zero => intro v; simp [leV, Nat.mod_one]
    | succ w ih =>
      intro v
      rw [List.range_succ_eq_map, List.map_cons, List.map_map, leV, byteOf_val, Nat.pow_zero, Nat.div_one]
      have e : ((fun i => byteOf (v / 256 ^ i)) ∘ Nat.succ) = fun i => byteOf ((v / 256) / 256 ^ i) := by
        funext i
        show byteOf (v / 256 ^ (i + 1)) = _
        rw [Nat.pow_succ, Nat.mul_comm (256 ^ i) 256, Nat.div_div_eq_div_mul]
      rw [e, ih (v / 256)]
      rw [Nat.pow_succ, Nat.mul_comm (256 ^ w) 256, Nat.mod_mul]
  exact fun w => key w v

theorem leV_inj {l m : List UInt8} (hl : l.length = m.length) (h : leV l = leV m) : l = m := by
  rw [← leB_leV l, ← leB_leV m, h, hl]

/-! ### An error stays -/

theorem Rd.text_stay {r : Rd} (h : r.e ≠ 0) : r.text.2 = r := by rw [Rd.text_err h]
theorem Rd.number_stay {r : Rd} {w : Nat} (h : r.e ≠ 0) : (r.number w).2 = r := by rw [Rd.number_err h]
theorem Rd.bytes_stay {r : Rd} {n : Nat} (h : r.e ≠ 0) : (r.bytes n).2 = r := by rw [Rd.bytes_err h]
theorem Rd.mark_stay {r : Rd} {f : Int} (h : r.e ≠ 0) : r.mark f = r := if_neg fun hh => h hh.2
theorem Rd.sec_stay {r : Rd} (h : r.e ≠ 0) : r.sec.2 = r := by
  have e1 : r.r1 = r := Rd.text_stay h
  have e2 : r.r2 = r := by unfold Rd.r2; rw [e1]; exact Rd.number_stay h
  have e3 : r.r3 = r := by unfold Rd.r3; rw [e2]; exact Rd.number_stay h
  have e4 : r.r4 = r := by unfold Rd.r4; rw [e3]; exact Rd.mark_stay h
  have e5 : r.r5 = r := by unfold Rd.r5; rw [e4]; exact Rd.number_stay h
  show (r.r5.bytes r.size).2 = r
  rw [e5]
  exact Rd.bytes_stay h
theorem Rd.symS_stay {r : Rd} (h : r.e ≠ 0) : r.symS.2 = r := by
  show ((r.text.2.number 4).2.number 1).2 = r
  rw [Rd.text_stay h, Rd.number_stay h, Rd.number_stay h]
theorem Rd.relS_stay {r : Rd} (h : r.e ≠ 0) : r.relS.2 = r := by
  show ((((r.number 1).2.number 4).2.number 1).2.text.2.number 4).2 = r
  rw [Rd.number_stay h, Rd.number_stay h, Rd.number_stay h, Rd.text_stay h, Rd.number_stay h]
theorem secsP_stay {n : Nat} {r : Rd} (h : r.e ≠ 0) : Rd.secsP n r = ([], r) := by
  cases n with
  | zero => rfl
  | succ n => rw [Rd.secsP, if_pos h]
theorem secsR_stay {n : Nat} {r : Rd} (h : r.e ≠ 0) : Rd.secsR n r = ([], r) := by
  cases n with
  | zero => rfl
  | succ n => rw [Rd.secsR, if_pos h]
theorem syms_stay {n : Nat} {r : Rd} (h : r.e ≠ 0) : Rd.syms n r = ([], r) := by
  cases n with
  | zero => rfl
  | succ n => rw [Rd.syms, if_pos h]
theorem rels_stay {n : Nat} {r : Rd} (h : r.e ≠ 0) : Rd.rels n r = ([], r) := by
  cases n with
  | zero => rfl
  | succ n => rw [Rd.rels, if_pos h]
theorem cnts_stay {r : Rd} (h : r.e ≠ 0) : r.cnts.2 = r := by
  show ((((r.number 4).2.number 1).2.number 2).2.number 2).2 = r
  rw [Rd.number_stay h, Rd.number_stay h, Rd.number_stay h, Rd.number_stay h]
theorem tail_stay {b : List UInt8} {o : Bin} {r : Rd} (h : r.e ≠ 0) : tailR b o r = (emptyB, r.e) := by
  have := tailR_err (b := b) (o := o) (r := r) (by rw [Rd.number_stay h]; exact h)
  rw [this, Rd.number_stay h]
theorem bodyP_stay {r : Rd} (h : r.e ≠ 0) : (bodyR Rd.secsP r).2 = r := by
  show (Rd.rels r.cnts.1.nR (Rd.syms r.cnts.1.nY (Rd.secsP r.cnts.1.nS r.cnts.2).2).2).2 = r
  rw [cnts_stay h, secsP_stay h, syms_stay h, rels_stay h]
theorem bodyR_stay {r : Rd} (h : r.e ≠ 0) : (bodyR Rd.secsR r).2 = r := by
  show (Rd.rels r.cnts.1.nR (Rd.syms r.cnts.1.nY (Rd.secsR r.cnts.1.nS r.cnts.2).2).2).2 = r
  rw [cnts_stay h, secsR_stay h, syms_stay h, rels_stay h]

/-! ### Sections -/

theorem number_e {r : Rd} {w : Nat} (h : (r.number w).2.e = 0) : r.e = 0 := by
  by_cases he : r.e = 0
  · exact he
  · rw [Rd.number_stay he] at h; exact h
theorem text_e {r : Rd} (h : r.text.2.e = 0) : r.e = 0 := by
  by_cases he : r.e = 0
  · exact he
  · rw [Rd.text_stay he] at h; exact h
theorem bytes_e {r : Rd} {n : Nat} (h : (r.bytes n).2.e = 0) : r.e = 0 := by
  by_cases he : r.e = 0
  · exact he
  · rw [Rd.bytes_stay he] at h; exact h
theorem mark_e {r : Rd} {f : Int} (h : (r.mark f).e = 0) : r.e = 0 ∧ ¬ 3 < f := by
  by_cases he : r.e = 0
  · refine ⟨he, fun hf => ?_⟩
    have : r.mark f = ⟨r.b, r.p, 4⟩ := if_pos ⟨hf, he⟩
    rw [this] at h
    cases h
  · rw [Rd.mark_stay he] at h; exact absurd h he
theorem sec_flag {r : Rd} (h : r.sec.2.e = 0) : ∃ f : Nat, f ≤ 3 ∧ r.flag = f ∧ r.r3.e = 0 := by
  have h1 : (r.r5.bytes r.size).2.e = 0 := h
  have h2 : (r.r4.number 4).2.e = 0 := bytes_e h1
  have h3 : (r.r3.mark r.flag).e = 0 := number_e h2
  obtain ⟨h4, h5⟩ := mark_e h3
  obtain ⟨f, _, hf⟩ := Rd.number_val r.r2 (w := 1) (by decide)
  have hf : r.flag = f := hf
  exact ⟨f, by omega, hf, h4⟩
theorem flags_same {f : Nat} (h : f ≤ 3) : wrP f = decide ((f : Int).toNat % 2 = 1) ∧ exP f = decide ((f : Int).toNat / 2 = 1) := by
  rcases (by omega : f = 0 ∨ f = 1 ∨ f = 2 ∨ f = 3) with rfl | rfl | rfl | rfl <;> exact ⟨by decide, by decide⟩
theorem secP_same {r : Rd} (h : r.sec.2.e = 0) : r.secP = r.sec := by
  obtain ⟨f, hf, hfl, _⟩ := sec_flag h
  obtain ⟨h1, h2⟩ := flags_same hf
  unfold Rd.secP Rd.sec
  rw [hfl, h1, h2]
theorem secP_snd (r : Rd) : r.secP.2 = r.sec.2 := rfl

theorem secsP_snd : ∀ (n : Nat) (r : Rd), (Rd.secsP n r).2 = (Rd.secsR n r).2
  | 0, r => rfl
  | n + 1, r => by
    rw [Rd.secsP, Rd.secsR]
    by_cases h : r.e ≠ 0
    · rw [if_pos h, if_pos h]
    · rw [if_neg h, if_neg h]
      show (Rd.secsP n r.secP.2).2 = (Rd.secsR n r.sec.2).2
      rw [secP_snd]
      exact secsP_snd n _
theorem secsR_e {n : Nat} {r : Rd} (h : (Rd.secsR n r).2.e = 0) : r.e = 0 := by
  by_cases he : r.e = 0
  · exact he
  · rw [secsR_stay he] at h; exact h
theorem syms_e {n : Nat} {r : Rd} (h : (Rd.syms n r).2.e = 0) : r.e = 0 := by
  by_cases he : r.e = 0
  · exact he
  · rw [syms_stay he] at h; exact h
theorem rels_e {n : Nat} {r : Rd} (h : (Rd.rels n r).2.e = 0) : r.e = 0 := by
  by_cases he : r.e = 0
  · exact he
  · rw [rels_stay he] at h; exact h
theorem secsP_fst : ∀ (n : Nat) (r : Rd), (Rd.secsR n r).2.e = 0 → (Rd.secsP n r).1 = (Rd.secsR n r).1
  | 0, r, _ => rfl
  | n + 1, r, h => by
    have he : ¬ r.e ≠ 0 := fun hc => hc (secsR_e h)
    rw [Rd.secsR, if_neg he] at h
    rw [Rd.secsP, Rd.secsR, if_neg he, if_neg he]
    have h : (Rd.secsR n r.sec.2).2.e = 0 := h
    show r.secP.1 :: (Rd.secsP n r.secP.2).1 = r.sec.1 :: (Rd.secsR n r.sec.2).1
    rw [secP_same (secsR_e h), secsP_fst n _ h]

theorem tail_body (b : List UInt8) (r : Rd) : tailR b (bodyR Rd.secsP r).1 (bodyR Rd.secsP r).2 = tailR b (bodyR Rd.secsR r).1 (bodyR Rd.secsR r).2 := by
  have e2 : (bodyR Rd.secsP r).2 = (bodyR Rd.secsR r).2 := by
    unfold bodyR
    simp only [secsP_snd]
  rw [e2]
  by_cases h : (bodyR Rd.secsR r).2.e = 0
  · have h1 : (Rd.secsR r.cnts.1.nS r.cnts.2).2.e = 0 := syms_e (rels_e h)
    have e1 : (bodyR Rd.secsP r).1 = (bodyR Rd.secsR r).1 := by
      unfold bodyR
      simp only [secsP_snd, secsP_fst _ _ h1]
    rw [e1]
  · rw [tail_stay h, tail_stay h]

theorem five_ne : (5 : Int) ≠ 0 := by decide

theorem decode_same (b : List UInt8) : decodeP b = decodeR b := by
  unfold decodeP decodeR
  by_cases h1 : 65536 < b.length
  · rw [if_pos h1, if_pos h1]
  rw [if_neg h1, if_neg h1]
  by_cases h2 : b.length < 4
  · have hp : magicP b = ⟨b, 0, 5⟩ := by
      have : (Rd.start b).bytes 4 = ([], ⟨b, 0, 5⟩) := Rd.bytes_short rfl (by show (b.length : Int) - 0 < 4; omega)
      unfold magicP
      rw [this]
      exact if_neg fun h => absurd h.1 five_ne
    have hr : magicR b = ⟨b, 4, 5⟩ := by
      have hg : getN b 0 4 = (0, 5) := if_pos (.inr (by omega))
      have : (Rd.start b).number 4 = (0, ⟨b, 4, 5⟩) := by rw [Rd.number_ok rfl]; show ((getN b 0 4).1, (⟨b, 0 + 4, (getN b 0 4).2⟩ : Rd)) = _; rw [hg]; rfl
      unfold magicR
      rw [this]
      exact if_neg fun h => absurd h.1 five_ne
    rw [hp, hr, bodyP_stay (r := ⟨b, 0, 5⟩) five_ne, bodyR_stay (r := ⟨b, 4, 5⟩) five_ne, tail_stay (r := ⟨b, 0, 5⟩) five_ne, tail_stay (r := ⟨b, 4, 5⟩) five_ne]
  · have hm : magicP b = magicR b := by
      have e1 : (Rd.start b).bytes 4 = (cutB b 0 4, ⟨b, 4, 0⟩) := Rd.bytes_ok rfl (by show ¬ (b.length : Int) - 0 < 4; omega)
      have hg : getN b 0 4 = (((leV (cutB b 0 4) : Nat) : Int), 0) := if_neg (by omega)
      have e2 : (Rd.start b).number 4 = (((leV (cutB b 0 4) : Nat) : Int), ⟨b, 4, 0⟩) := by rw [Rd.number_ok rfl]; show ((getN b 0 4).1, (⟨b, 0 + 4, (getN b 0 4).2⟩ : Rd)) = _; rw [hg]; rfl
      unfold magicP magicR
      rw [e1, e2]
      have hl : (cutB b 0 4).length = 4 := cutB_len (by omega)
      have hiff : cutB b 0 4 ≠ magicB ↔ ((leV (cutB b 0 4) : Nat) : Int) ≠ 827278148 := by
        refine not_congr ⟨fun h => by rw [h]; rfl, fun h => leV_inj hl ?_⟩
        have : leV magicB = 827278148 := rfl
        omega
      by_cases hc : cutB b 0 4 ≠ magicB
      · rw [if_pos ⟨rfl, hc⟩, if_pos ⟨rfl, hiff.1 hc⟩]
      · rw [if_neg (fun h => hc h.2), if_neg (fun h => hc (hiff.2 h.2))]
    rw [hm]
    exact tail_body b _

end Go.Ab

namespace Go.Ab
open Go.RowKit Go.Proofs

/-- b has A at p. -/
def Has (b : List UInt8) (p : Nat) (A : List UInt8) : Prop := p + A.length ≤ b.length ∧ cutB b p A.length = A

theorem has_append {b : List UInt8} {p : Nat} {A B : List UInt8} : Has b p (A ++ B) ↔ Has b p A ∧ Has b (p + A.length) B := by
  unfold Has cutB
  rw [List.length_append]
  constructor
  · rintro ⟨h1, h2⟩
    have e1 : List.take A.length (List.drop p b) = A := by
      have := congrArg (List.take A.length) h2
      rw [List.take_take, List.take_left' rfl, Nat.min_eq_left (by omega)] at this
      exact this
    refine ⟨⟨by omega, e1⟩, by omega, ?_⟩
    have := congrArg (List.drop A.length) h2
    rw [List.drop_left' rfl, List.drop_take, List.drop_drop, Nat.add_sub_cancel_left] at this
    exact this
  · rintro ⟨⟨h1, h2⟩, h3, h4⟩
    refine ⟨by omega, ?_⟩
    rw [List.take_add, List.drop_drop, h2, h4]
theorem has_nil {b : List UInt8} {p : Nat} (h : p ≤ b.length) : Has b p [] := ⟨by simpa using h, rfl⟩
theorem has_self {A B : List UInt8} : Has (A ++ B) 0 A := by
  refine ⟨by rw [List.length_append]; omega, ?_⟩
  unfold cutB
  rw [List.drop_zero, List.take_left' rfl]
theorem has_all {A : List UInt8} : Has A 0 A := by
  refine ⟨by omega, ?_⟩
  unfold cutB
  rw [List.drop_zero, List.take_length]
theorem has_take {b A : List UInt8} (h : Has b 0 A) : b.take A.length = A := by
  have := h.2
  unfold cutB at this
  rw [List.drop_zero] at this
  exact this

theorem cutB_has {b : List UInt8} {p n : Nat} (h : p + n ≤ b.length) : Has b p (cutB b p n) := by
  have hl := cutB_len h
  exact ⟨by rw [hl]; exact h, by rw [hl]⟩

/-! ### One field -/

theorem number_at {b : List UInt8} {p w : Nat} (h : p + w ≤ b.length) : (⟨b, (p : Int), 0⟩ : Rd).number w = (((leV (cutB b p w) : Nat) : Int), ⟨b, ((p + w : Nat) : Int), 0⟩) := by
  rw [Rd.number_ok rfl]
  have hg : getN b p w = (((leV (cutB b p w) : Nat) : Int), 0) := by
    unfold getN
    rw [if_neg (by omega), Int.toNat_natCast]
    rfl
  show ((getN b p w).1, (⟨b, (p : Int) + w, (getN b p w).2⟩ : Rd)) = _
  rw [hg]
  rfl
theorem number_fw {b : List UInt8} {p w v : Nat} (h : Has b p (leB v w)) (hv : v < 256 ^ w) : (⟨b, (p : Int), 0⟩ : Rd).number w = ((v : Int), ⟨b, ((p + w : Nat) : Int), 0⟩) := by
  obtain ⟨h1, h2⟩ := h
  rw [leB_len] at h1 h2
  rw [number_at h1, h2, leV_leB, Nat.mod_eq_of_lt hv]
theorem number_bw {b : List UInt8} {p w : Nat} (h : ((⟨b, (p : Int), 0⟩ : Rd).number w).2.e = 0) :
    ∃ v : Nat, v < 256 ^ w ∧ (⟨b, (p : Int), 0⟩ : Rd).number w = ((v : Int), ⟨b, ((p + w : Nat) : Int), 0⟩) ∧ Has b p (leB v w) := by
  obtain ⟨_, _, h3, _⟩ := Rd.number_e0 h
  have h3 : (p : Int) + w ≤ b.length := h3
  have hl := cutB_len (l := b) (z := p) (n := w) (by omega)
  refine ⟨leV (cutB b p w), ?_, number_at (by omega), ?_⟩
  · have := leV_lt (cutB b p w)
    rw [hl] at this
    exact this
  · have := leB_leV (cutB b p w)
    rw [hl] at this
    rw [this]
    exact cutB_has (by omega)

theorem bytes_fw {b : List UInt8} {p : Nat} {D : List UInt8} (h : Has b p D) : (⟨b, (p : Int), 0⟩ : Rd).bytes D.length = (D, ⟨b, ((p + D.length : Nat) : Int), 0⟩) := by
  have h1 := h.1
  rw [Rd.bytes_ok rfl (by show ¬ (b.length : Int) - (p : Int) < _; omega)]
  show (cutB b (p : Int).toNat D.length, (⟨b, (p : Int) + D.length, 0⟩ : Rd)) = _
  rw [Int.toNat_natCast, h.2]
  rfl
theorem bytes_bw {b : List UInt8} {p n : Nat} (h : ((⟨b, (p : Int), 0⟩ : Rd).bytes n).2.e = 0) :
    ∃ D : List UInt8, D.length = n ∧ (⟨b, (p : Int), 0⟩ : Rd).bytes n = (D, ⟨b, ((p + n : Nat) : Int), 0⟩) ∧ Has b p D := by
  by_cases h1 : (b.length : Int) - (p : Int) < n
  · rw [Rd.bytes_short rfl h1] at h
    exact absurd h five_ne
  · have hl := cutB_len (l := b) (z := p) (n := n) (by omega)
    refine ⟨cutB b p n, hl, ?_, cutB_has (by omega)⟩
    have := bytes_fw (cutB_has (b := b) (p := p) (n := n) (by omega))
    rw [hl] at this
    exact this

theorem cutT_fw {b : List UInt8} {p : Nat} {s : ByteArray} (h : Has b p s.data.toList) : cutT b p s.size = s := by
  have h2 := h.2
  have hs : s.data.toList.length = s.size := rfl
  unfold cutB at h2
  rw [hs] at h2
  unfold cutT
  rw [h2]
theorem errT_0 : errT 0 = 0 := rfl

theorem text_fw {b : List UInt8} {p : Nat} {s : ByteArray} (h : Has b p (txB s)) (hs : s.size ≤ 32) : (⟨b, (p : Int), 0⟩ : Rd).text = (s, ⟨b, ((p + (s.size + 1) : Nat) : Int), 0⟩) := by
  have h0 : Has b p ([byteOf s.size] ++ s.data.toList) := h
  obtain ⟨⟨h1, h2⟩, h3⟩ := has_append.1 h0
  have hsz : s.data.toList.length = s.size := rfl
  have h4 := h3.1
  rw [hsz] at h4
  simp only [List.length_singleton] at h1 h2 h3 h4
  have hd : b.getD p 0 = byteOf s.size := by
    unfold cutB at h2
    have e : (List.take 1 (List.drop p b))[0]? = some (byteOf s.size) := by rw [h2]; rfl
    rw [List.getElem?_take_of_lt (by decide), List.getElem?_drop] at e
    rw [List.getD_eq_getElem?_getD]
    have e : b[p]? = some (byteOf s.size) := by simpa using e
    rw [e]
    rfl
  have hn : (b.getD p 0).toNat = s.size := by rw [hd, byteOf_val]; omega
  have hg : getT b p = (s, (((p + (s.size + 1) : Nat) : Int)), 0) := by
    unfold getT
    rw [if_neg (by omega), Int.toNat_natCast, hn, if_neg (by omega), if_neg (by omega), cutT_fw h3]
    congr 2
    omega
  rw [Rd.text_ok rfl]
  show ((getT b p).1, (⟨b, (getT b p).2.1, errT (getT b p).2.2⟩ : Rd)) = _
  rw [hg, errT_0]
theorem errT_e {e : Int} (h : errT e = 0) : e = 0 := by
  unfold errT at h
  split at h
  · cases h
  · exact h
theorem text_bw {b : List UInt8} {p : Nat} (h : (⟨b, (p : Int), 0⟩ : Rd).text.2.e = 0) :
    ∃ s : ByteArray, s.size ≤ 32 ∧ (⟨b, (p : Int), 0⟩ : Rd).text = (s, ⟨b, ((p + (s.size + 1) : Nat) : Int), 0⟩) ∧ Has b p (txB s) := by
  rw [Rd.text_ok rfl] at h
  have h : errT (getT b p).2.2 = 0 := h
  have h := errT_e h
  unfold getT at h
  split at h
  · exact absurd h five_ne
  · rename_i h1
    split at h
    · exact absurd h (by decide)
    · rename_i h2
      split at h
      · exact absurd h five_ne
      · rename_i h3
        rw [Int.toNat_natCast] at h2 h3
        generalize hn : (b.getD p 0).toNat = n at *
        have hl := cutB_len (l := b) (z := p + 1) (n := n) (by omega)
        have hsz : (cutT b (p + 1) n).size = n := hl
        have hd : (cutT b (p + 1) n).data.toList = cutB b (p + 1) n := rfl
        have hH : Has b p (txB (cutT b (p + 1) n)) := by
          show Has b p ([byteOf (cutT b (p + 1) n).size] ++ (cutT b (p + 1) n).data.toList)
          rw [hsz, hd]
          refine has_append.2 ⟨⟨by simp only [List.length_singleton]; omega, ?_⟩, (show Has b (p + 1) _ from cutB_has (by omega))⟩
          have hp : p < b.length := by omega
          have e : b[p] = byteOf n := by
            have e2 : b.getD p 0 = b[p] := by rw [List.getD_eq_getElem?_getD, List.getElem?_eq_getElem hp]; rfl
            rw [e2] at hn
            rw [← hn]
            unfold byteOf
            have := u8_lt b[p]
            rw [Nat.mod_eq_of_lt (by omega)]
            exact UInt8.ofNat_toNat.symm
          unfold cutB
          rw [List.drop_eq_getElem_cons hp, List.length_singleton, List.take_succ_cons, List.take_zero, e]
        refine ⟨cutT b (p + 1) n, by rw [hsz]; omega, text_fw hH (by rw [hsz]; omega), hH⟩

/-! ### Many -/

def Rd.many {α : Type} (X : Rd → α × Rd) : Nat → Rd → List α × Rd
  | 0, r => ([], r)
  | n + 1, r => if r.e ≠ 0 then ([], r) else ((X r).1 :: (Rd.many X n (X r).2).1, (Rd.many X n (X r).2).2)
theorem secsR_many : ∀ (n : Nat) (r : Rd), Rd.secsR n r = Rd.many Rd.sec n r
  | 0, r => rfl
  | n + 1, r => by rw [Rd.secsR, Rd.many, secsR_many n]
theorem syms_many : ∀ (n : Nat) (r : Rd), Rd.syms n r = Rd.many Rd.symS n r
  | 0, r => rfl
  | n + 1, r => by rw [Rd.syms, Rd.many, syms_many n]
theorem rels_many : ∀ (n : Nat) (r : Rd), Rd.rels n r = Rd.many Rd.relS n r
  | 0, r => rfl
  | n + 1, r => by rw [Rd.rels, Rd.many, rels_many n]

/-- X reads x's bytes. -/
def Fw {α : Type} (X : Rd → α × Rd) (f : α → List UInt8) (ok : α → Prop) : Prop := ∀ (b : List UInt8) (p : Nat) (x : α), ok x → Has b p (f x) → X ⟨b, (p : Int), 0⟩ = (x, ⟨b, ((p + (f x).length : Nat) : Int), 0⟩)
def Bw {α : Type} (X : Rd → α × Rd) (f : α → List UInt8) (ok : α → Prop) : Prop := ∀ (b : List UInt8) (p : Nat), (X ⟨b, (p : Int), 0⟩).2.e = 0 →
  ∃ x, ok x ∧ X ⟨b, (p : Int), 0⟩ = (x, ⟨b, ((p + (f x).length : Nat) : Int), 0⟩) ∧ Has b p (f x)

theorem many_fw {α : Type} {X : Rd → α × Rd} {f : α → List UInt8} {ok : α → Prop} (h : Fw X f ok) (b : List UInt8) : ∀ (l : List α) (p : Nat), (∀ x ∈ l, ok x) → Has b p (l.map f).flatten →
    Rd.many X l.length ⟨b, (p : Int), 0⟩ = (l, ⟨b, ((p + (l.map f).flatten.length : Nat) : Int), 0⟩)
  | [], p, _, _ => rfl
  | x :: l, p, hok, hh => by
    rw [List.map_cons, List.flatten_cons] at hh ⊢
    obtain ⟨h1, h2⟩ := has_append.1 hh
    have hx := h b p x (hok x (by simp)) h1
    have ih := many_fw h b l (p + (f x).length) (fun y hy => hok y (by simp [hy])) h2
    rw [List.length_cons, Rd.many, if_neg (by simp), hx]
    simp only
    rw [ih, List.length_append, Nat.add_assoc]

theorem many_bw {α : Type} {X : Rd → α × Rd} {f : α → List UInt8} {ok : α → Prop} (h : Bw X f ok) (hs : ∀ r : Rd, r.e ≠ 0 → (X r).2 = r) (b : List UInt8) : ∀ (n : Nat) (p : Nat), p ≤ b.length → (Rd.many X n ⟨b, (p : Int), 0⟩).2.e = 0 →
    ∃ l, l.length = n ∧ (∀ x ∈ l, ok x) ∧ Rd.many X n ⟨b, (p : Int), 0⟩ = (l, ⟨b, ((p + (l.map f).flatten.length : Nat) : Int), 0⟩) ∧ Has b p (l.map f).flatten
  | 0, p, hp, _ => ⟨[], rfl, fun x hx => (by cases hx), rfl, has_nil hp⟩
  | n + 1, p, hp, he => by
    rw [Rd.many, if_neg (by simp)] at he ⊢
    have he : (Rd.many X n (X ⟨b, (p : Int), 0⟩).2).2.e = 0 := he
    have h0 : (X ⟨b, (p : Int), 0⟩).2.e = 0 := by
      by_cases hc : (X ⟨b, (p : Int), 0⟩).2.e = 0
      · exact hc
      · have : ∀ (n : Nat) (r : Rd), r.e ≠ 0 → (Rd.many X n r).2 = r := fun n r hr => by
          cases n with
          | zero => rfl
          | succ n => rw [Rd.many, if_pos hr]
        rw [this n _ hc] at he
        exact absurd he hc
    obtain ⟨x, hx, e1, h1⟩ := h b p h0
    rw [e1] at he ⊢
    obtain ⟨l, hl, hok, e2, h2⟩ := many_bw h hs b n (p + (f x).length) h1.1 he
    simp only
    rw [e2]
    refine ⟨x :: l, by simp [hl], fun y hy => ?_, ?_, ?_⟩
    · rcases List.mem_cons.1 hy with rfl | hy
      · exact hx
      · exact hok y hy
    · rw [List.map_cons, List.flatten_cons, List.length_append, Nat.add_assoc]
    · rw [List.map_cons, List.flatten_cons]
      exact has_append.2 ⟨h1, h2⟩

end Go.Ab

namespace Go.Ab
open Go.RowKit Go.Proofs

theorem wrapI32 (n : Int) : IntKind.i32.wrap n = (n + 2147483648) % 4294967296 - 2147483648 := by
  unfold IntKind.wrap
  by_cases h : n % 4294967296 < 2147483648
  · have h1 : (IntKind.i32.signed && decide ((n % (2 ^ IntKind.i32.bits : Int)) ≥ (2 ^ (IntKind.i32.bits - 1) : Int))) = false := by
      rw [show decide ((n % (2 ^ IntKind.i32.bits : Int)) ≥ (2 ^ (IntKind.i32.bits - 1) : Int)) = false from decide_eq_false (show ¬ (n % 4294967296 ≥ 2147483648) by omega)]
      rfl
    simp only [h1]
    show n % 4294967296 = _
    omega
  · have h1 : (IntKind.i32.signed && decide ((n % (2 ^ IntKind.i32.bits : Int)) ≥ (2 ^ (IntKind.i32.bits - 1) : Int))) = true := by
      rw [show decide ((n % (2 ^ IntKind.i32.bits : Int)) ≥ (2 ^ (IntKind.i32.bits - 1) : Int)) = true from decide_eq_true (show (n % 4294967296 ≥ 2147483648) by omega)]
      rfl
    simp only [h1]
    show n % 4294967296 - 4294967296 = _
    omega
theorem wrapU32' (n : Int) : IntKind.u32.wrap n = n % 4294967296 := rfl

theorem i32_back {v : Nat} (h : v < 4294967296) : (IntKind.u32.wrap (IntKind.i32.wrap (v : Int))).toNat = v := by
  rw [wrapI32, wrapU32']
  by_cases h1 : v < 2147483648
  · rw [Int.emod_eq_of_lt (a := (v : Int) + 2147483648) (by omega) (by omega), show (v : Int) + 2147483648 - 2147483648 = (v : Int) by omega, Int.emod_eq_of_lt (by omega) (by omega)]
    rfl
  · have e : ((v : Int) + 2147483648) % 4294967296 = (v : Int) - 2147483648 := by
      rw [show (v : Int) + 2147483648 = ((v : Int) - 2147483648) + 4294967296 by omega, Int.add_emod_right]
      exact Int.emod_eq_of_lt (by omega) (by omega)
    have e2 : ((v : Int) - 2147483648 - 2147483648) % 4294967296 = (v : Int) := by
      rw [show (v : Int) - 2147483648 - 2147483648 = (v : Int) - 4294967296 by omega, Int.sub_emod_right]
      exact Int.emod_eq_of_lt (by omega) (by omega)
    rw [e, e2]
    rfl

def okS (s : Sec) : Prop := s.name.size ≤ 32 ∧ s.data.length < 4294967296
def okY (s : Sym) : Prop := s.name.size ≤ 32 ∧ 0 ≤ s.kind ∧ s.kind < 256
def okR (r : Rel) : Prop := r.sym.size ≤ 32 ∧ (0 ≤ r.sec ∧ r.sec < 256) ∧ (0 ≤ r.off ∧ r.off < 4294967296) ∧ (0 ≤ r.kind ∧ r.kind < 256) ∧ (-2147483648 ≤ r.add ∧ r.add ≤ 2147483647)

theorem u32_of (x : UInt32) : UInt32.ofNat x.toNat = x := UInt32.ofNat_toNat

theorem symB_assoc (s : Sym) : symB s = txB s.name ++ (leB s.addr.toNat 4 ++ leB s.kind.toNat 1) := by rw [symB, List.append_assoc]
theorem relB_assoc (r : Rel) : relB r = leB r.sec.toNat 1 ++ (leB r.off.toNat 4 ++ (leB r.kind.toNat 1 ++ (txB r.sym ++ leB (IntKind.u32.wrap r.add).toNat 4))) := by simp only [relB, List.append_assoc]
theorem secB_assoc (s : Sec) : secB s = txB s.name ++ (leB s.addr.toNat 4 ++ (leB (flagsN s) 1 ++ (leB s.data.length 4 ++ s.data))) := by simp only [secB, List.append_assoc]

theorem sym_fw : Fw Rd.symS symB okY := by
  intro b p s ⟨h1, h2, h3⟩ hh
  rw [symB_assoc] at hh
  obtain ⟨ha, hh⟩ := has_append.1 hh
  obtain ⟨hb, hc⟩ := has_append.1 hh
  rw [txB_len] at hb hc
  rw [leB_len] at hc
  have e1 := text_fw ha h1
  have e2 := number_fw hb (u32_lt s.addr)
  have e3 := number_fw hc (show s.kind.toNat < 256 ^ 1 by omega)
  unfold Rd.symS
  rw [e1]
  simp only
  rw [e2]
  simp only
  rw [e3]
  simp only
  have hk : ((s.kind.toNat : Nat) : Int) = s.kind := by omega
  rw [Int.toNat_natCast, u32_of, hk, symB_len]
  rfl

theorem sym_bw : Bw Rd.symS symB okY := by
  intro b p h
  have hA : (((⟨b, (p : Int), 0⟩ : Rd).text.2.number 4).2.number 1).2.e = 0 := by unfold Rd.symS at h; exact h
  have hB : ((⟨b, (p : Int), 0⟩ : Rd).text.2.number 4).2.e = 0 := number_e hA
  have hC : (⟨b, (p : Int), 0⟩ : Rd).text.2.e = 0 := number_e hB
  clear h
  obtain ⟨s, hs, e1, ha⟩ := text_bw hC
  rw [e1] at hA hB
  obtain ⟨v, hv, e2, hb⟩ := number_bw hB
  simp only at hA
  rw [e2] at hA
  obtain ⟨k, hk, e3, hc⟩ := number_bw hA
  have hv : v < 4294967296 := hv
  have hk : k < 256 := hk
  have hbytes : symB ⟨s, UInt32.ofNat v, (k : Int)⟩ = txB s ++ (leB v 4 ++ leB k 1) := by
    rw [symB_assoc]
    simp only [UInt32.toNat_ofNat_of_lt' (show v < UInt32.size from hv), Int.toNat_natCast]
  refine ⟨⟨s, UInt32.ofNat v, (k : Int)⟩, ⟨hs, by show (0 : Int) ≤ k; omega, by show (k : Int) < 256; omega⟩, ?_, ?_⟩
  · have hp : p + (s.size + 1) + 4 + 1 = p + (symB ⟨s, UInt32.ofNat v, (k : Int)⟩).length := by
      rw [symB_len]
      show _ = p + (s.size + 6)
      omega
    unfold Rd.symS
    rw [← hp, e1]
    simp only
    rw [e2]
    simp only
    rw [e3]
    simp only [Int.toNat_natCast]
  · rw [hbytes]
    exact has_append.2 ⟨ha, by rw [txB_len]; exact has_append.2 ⟨hb, by rw [leB_len]; exact hc⟩⟩

theorem rel_fw : Fw Rd.relS relB okR := by
  intro b p r ⟨h1, h2, h3, h4, h5⟩ hh
  rw [relB_assoc] at hh
  obtain ⟨ha, hh⟩ := has_append.1 hh
  obtain ⟨hb, hh⟩ := has_append.1 hh
  obtain ⟨hc, hh⟩ := has_append.1 hh
  obtain ⟨hd, hf⟩ := has_append.1 hh
  simp only [leB_len, txB_len] at hb hc hd hf
  have hw := wrapU32_lt r.add
  have e1 := number_fw ha (show r.sec.toNat < 256 ^ 1 by omega)
  have e2 := number_fw hb (show r.off.toNat < 256 ^ 4 by omega)
  have e3 := number_fw hc (show r.kind.toNat < 256 ^ 1 by omega)
  have e4 := text_fw hd h1
  have e5 := number_fw hf (show (IntKind.u32.wrap r.add).toNat < 256 ^ 4 by omega)
  unfold Rd.relS
  rw [e1]
  simp only
  rw [e2]
  simp only
  rw [e3]
  simp only
  rw [e4]
  simp only
  rw [e5]
  simp only
  have k1 : ((r.sec.toNat : Nat) : Int) = r.sec := by omega
  have k2 : ((r.off.toNat : Nat) : Int) = r.off := by omega
  have k3 : ((r.kind.toNat : Nat) : Int) = r.kind := by omega
  have k4 : IntKind.i32.wrap (((IntKind.u32.wrap r.add).toNat : Nat) : Int) = r.add := by
    have : (((IntKind.u32.wrap r.add).toNat : Nat) : Int) = IntKind.u32.wrap r.add := by omega
    rw [this, wrapI32, wrapU32']
    omega
  rw [k1, k2, k3, k4, relB_len]
  have : p + 1 + 4 + 1 + (r.sym.size + 1) + 4 = p + (r.sym.size + 11) := by omega
  rw [this]

theorem rel_bw : Bw Rd.relS relB okR := by
  intro b p h
  have hA : ((((((⟨b, (p : Int), 0⟩ : Rd).number 1).2.number 4).2.number 1).2.text.2).number 4).2.e = 0 := by unfold Rd.relS at h; exact h
  have hB : (((((⟨b, (p : Int), 0⟩ : Rd).number 1).2.number 4).2.number 1).2.text.2).e = 0 := number_e hA
  have hC : ((((⟨b, (p : Int), 0⟩ : Rd).number 1).2.number 4).2.number 1).2.e = 0 := text_e hB
  have hD : (((⟨b, (p : Int), 0⟩ : Rd).number 1).2.number 4).2.e = 0 := number_e hC
  have hE : ((⟨b, (p : Int), 0⟩ : Rd).number 1).2.e = 0 := number_e hD
  clear h
  obtain ⟨x1, h1, e1, ha⟩ := number_bw hE
  rw [e1] at hA hB hC hD
  simp only at hA hB hC hD
  obtain ⟨x2, h2, e2, hb⟩ := number_bw hD
  rw [e2] at hA hB hC
  simp only at hA hB hC
  obtain ⟨x3, h3, e3, hc⟩ := number_bw hC
  rw [e3] at hA hB
  simp only at hA hB
  obtain ⟨s, hs, e4, hd⟩ := text_bw hB
  rw [e4] at hA
  simp only at hA
  obtain ⟨x5, h5, e5, hf⟩ := number_bw hA
  have h1 : x1 < 256 := h1
  have h2 : x2 < 4294967296 := h2
  have h3 : x3 < 256 := h3
  have h5 : x5 < 4294967296 := h5
  have hw := wrapI32 x5
  have hadd : (IntKind.u32.wrap (IntKind.i32.wrap (x5 : Int))).toNat = x5 := by
    exact i32_back h5
  have hbytes : relB ⟨(x1 : Int), (x2 : Int), (x3 : Int), s, IntKind.i32.wrap (x5 : Int)⟩ = leB x1 1 ++ (leB x2 4 ++ (leB x3 1 ++ (txB s ++ leB x5 4))) := by
    rw [relB_assoc]
    simp only [Int.toNat_natCast, hadd]
  refine ⟨⟨(x1 : Int), (x2 : Int), (x3 : Int), s, IntKind.i32.wrap (x5 : Int)⟩, ⟨hs, ⟨by show (0 : Int) ≤ x1; omega, by show (x1 : Int) < 256; omega⟩, ⟨by show (0 : Int) ≤ x2; omega, by show (x2 : Int) < _; omega⟩, ⟨by show (0 : Int) ≤ x3; omega, by show (x3 : Int) < 256; omega⟩, ?_⟩, ?_, ?_⟩
  · show -2147483648 ≤ IntKind.i32.wrap (x5 : Int) ∧ IntKind.i32.wrap (x5 : Int) ≤ 2147483647
    rw [hw]
    omega
  · have hp : p + 1 + 4 + 1 + (s.size + 1) + 4 = p + (relB ⟨(x1 : Int), (x2 : Int), (x3 : Int), s, IntKind.i32.wrap (x5 : Int)⟩).length := by
      rw [relB_len]
      show _ = p + (s.size + 11)
      omega
    unfold Rd.relS
    rw [← hp, e1]
    simp only
    rw [e2]
    simp only
    rw [e3]
    simp only
    rw [e4]
    simp only
    rw [e5]
  · rw [hbytes]
    refine has_append.2 ⟨ha, ?_⟩
    rw [leB_len]
    refine has_append.2 ⟨hb, ?_⟩
    rw [leB_len]
    refine has_append.2 ⟨hc, ?_⟩
    rw [leB_len]
    refine has_append.2 ⟨hd, ?_⟩
    rw [txB_len]
    exact hf

theorem flagsN_le (s : Sec) : flagsN s ≤ 3 := by
  unfold flagsN
  cases s.wr <;> cases s.ex <;> decide
theorem flags_dec (s : Sec) : decide (flagsN s % 2 = 1) = s.wr ∧ decide (flagsN s / 2 = 1) = s.ex := by
  unfold flagsN
  cases s.wr <;> cases s.ex <;> exact ⟨rfl, rfl⟩
theorem flags_enc {f : Nat} (h : f ≤ 3) (n : ByteArray) (a : UInt32) (d : List UInt8) : flagsN ⟨n, a, d, decide (f % 2 = 1), decide (f / 2 = 1)⟩ = f := by
  rcases (by omega : f = 0 ∨ f = 1 ∨ f = 2 ∨ f = 3) with rfl | rfl | rfl | rfl <;> rfl
theorem mark_ok {b : List UInt8} {p f : Int} (h : f ≤ 3) : (⟨b, p, 0⟩ : Rd).mark f = ⟨b, p, 0⟩ := if_neg fun hh => by have := hh.1; omega

theorem sec_steps {b : List UInt8} {p p1 p2 p3 p4 p5 : Int} {nm : ByteArray} {a f d : Nat} {D : List UInt8} (e1 : (⟨b, p, 0⟩ : Rd).text = (nm, ⟨b, p1, 0⟩)) (e2 : (⟨b, p1, 0⟩ : Rd).number 4 = ((a : Int), ⟨b, p2, 0⟩))
    (e3 : (⟨b, p2, 0⟩ : Rd).number 1 = ((f : Int), ⟨b, p3, 0⟩)) (hf : f ≤ 3) (e4 : (⟨b, p3, 0⟩ : Rd).number 4 = ((d : Int), ⟨b, p4, 0⟩)) (e5 : (⟨b, p4, 0⟩ : Rd).bytes d = (D, ⟨b, p5, 0⟩)) :
    (⟨b, p, 0⟩ : Rd).sec = (⟨nm, UInt32.ofNat a, D, decide (f % 2 = 1), decide (f / 2 = 1)⟩, ⟨b, p5, 0⟩) := by
  have q1 : (⟨b, p, 0⟩ : Rd).r1 = ⟨b, p1, 0⟩ := by unfold Rd.r1; rw [e1]
  have q2 : (⟨b, p, 0⟩ : Rd).r2 = ⟨b, p2, 0⟩ := by unfold Rd.r2; rw [q1, e2]
  have q3 : (⟨b, p, 0⟩ : Rd).r3 = ⟨b, p3, 0⟩ := by unfold Rd.r3; rw [q2, e3]
  have qf : (⟨b, p, 0⟩ : Rd).flag = (f : Int) := by unfold Rd.flag; rw [q2, e3]
  have q4 : (⟨b, p, 0⟩ : Rd).r4 = ⟨b, p3, 0⟩ := by unfold Rd.r4; rw [q3, qf, mark_ok (by omega)]
  have q5 : (⟨b, p, 0⟩ : Rd).r5 = ⟨b, p4, 0⟩ := by unfold Rd.r5; rw [q4, e4]
  have qs : (⟨b, p, 0⟩ : Rd).size = d := by unfold Rd.size; rw [q4, e4]; rfl
  unfold Rd.sec
  rw [q5, qs, q1, qf, e1, e2, e5]
  rfl

theorem sec_fw : Fw Rd.sec secB okS := by
  intro b p s ⟨h1, h2⟩ hh
  rw [secB_assoc] at hh
  obtain ⟨ha, hh⟩ := has_append.1 hh
  obtain ⟨hb, hh⟩ := has_append.1 hh
  obtain ⟨hc, hh⟩ := has_append.1 hh
  obtain ⟨hd, hf⟩ := has_append.1 hh
  simp only [leB_len, txB_len] at hb hc hd hf
  have hfl := flagsN_le s
  have e := sec_steps (text_fw ha h1) (number_fw hb (u32_lt s.addr)) (number_fw hc (show flagsN s < 256 ^ 1 by omega)) hfl (number_fw hd h2) (bytes_fw hf)
  rw [e, u32_of, (flags_dec s).1, (flags_dec s).2, secB_len]
  have : p + (s.name.size + 1) + 4 + 1 + 4 + s.data.length = p + (s.name.size + 10 + s.data.length) := by omega
  rw [this]

theorem sec_bw : Bw Rd.sec secB okS := by
  intro b p h
  obtain ⟨f0, hf0, hfl, h3⟩ := sec_flag h
  have hA : ((⟨b, (p : Int), 0⟩ : Rd).r5.bytes (⟨b, (p : Int), 0⟩ : Rd).size).2.e = 0 := h
  have hB : ((⟨b, (p : Int), 0⟩ : Rd).r4.number 4).2.e = 0 := bytes_e hA
  have hC : ((⟨b, (p : Int), 0⟩ : Rd).r2.number 1).2.e = 0 := h3
  have hD : ((⟨b, (p : Int), 0⟩ : Rd).r1.number 4).2.e = 0 := number_e hC
  have hE : (⟨b, (p : Int), 0⟩ : Rd).text.2.e = 0 := number_e hD
  obtain ⟨s, hs, e1, ha⟩ := text_bw hE
  have q1 : (⟨b, (p : Int), 0⟩ : Rd).r1 = ⟨b, ((p + (s.size + 1) : Nat) : Int), 0⟩ := by unfold Rd.r1; rw [e1]
  rw [q1] at hD
  obtain ⟨a, hav, e2, hb⟩ := number_bw hD
  have q2 : (⟨b, (p : Int), 0⟩ : Rd).r2 = ⟨b, ((p + (s.size + 1) + 4 : Nat) : Int), 0⟩ := by unfold Rd.r2; rw [q1, e2]
  rw [q2] at hC
  obtain ⟨f, hfv, e3, hc⟩ := number_bw hC
  have qf : (⟨b, (p : Int), 0⟩ : Rd).flag = (f : Int) := by unfold Rd.flag; rw [q2, e3]
  have hff : f ≤ 3 := by rw [qf] at hfl; omega
  have q3 : (⟨b, (p : Int), 0⟩ : Rd).r3 = ⟨b, ((p + (s.size + 1) + 4 + 1 : Nat) : Int), 0⟩ := by unfold Rd.r3; rw [q2, e3]
  have q4 : (⟨b, (p : Int), 0⟩ : Rd).r4 = ⟨b, ((p + (s.size + 1) + 4 + 1 : Nat) : Int), 0⟩ := by unfold Rd.r4; rw [q3, qf, mark_ok (by omega)]
  rw [q4] at hB
  obtain ⟨d, hdv, e4, hd⟩ := number_bw hB
  have q5 : (⟨b, (p : Int), 0⟩ : Rd).r5 = ⟨b, ((p + (s.size + 1) + 4 + 1 + 4 : Nat) : Int), 0⟩ := by unfold Rd.r5; rw [q4, e4]
  have qs : (⟨b, (p : Int), 0⟩ : Rd).size = d := by unfold Rd.size; rw [q4, e4]; rfl
  rw [q5, qs] at hA
  obtain ⟨D, hDl, e5, hg⟩ := bytes_bw hA
  have e := sec_steps e1 e2 e3 hff e4 e5
  have hav : a < 4294967296 := hav
  have hdv : d < 4294967296 := hdv
  have hbytes : secB ⟨s, UInt32.ofNat a, D, decide (f % 2 = 1), decide (f / 2 = 1)⟩ = txB s ++ (leB a 4 ++ (leB f 1 ++ (leB d 4 ++ D))) := by
    rw [secB_assoc, flags_enc hff]
    simp only [UInt32.toNat_ofNat_of_lt' (show a < UInt32.size from hav), hDl]
  refine ⟨⟨s, UInt32.ofNat a, D, decide (f % 2 = 1), decide (f / 2 = 1)⟩, ?_, ?_, ?_⟩
  · exact ⟨hs, by show D.length < _; omega⟩
  · rw [e, secB_len]
    have : p + (s.size + 1) + 4 + 1 + 4 + d = p + (s.size + 10 + D.length) := by omega
    rw [this]
  · rw [hbytes]
    refine has_append.2 ⟨ha, ?_⟩
    rw [txB_len]
    refine has_append.2 ⟨hb, ?_⟩
    rw [leB_len]
    refine has_append.2 ⟨hc, ?_⟩
    rw [leB_len]
    refine has_append.2 ⟨hd, ?_⟩
    rw [leB_len]
    exact hg

end Go.Ab

namespace Go.Ab
open Go.RowKit Go.Proofs

theorem manyB_all {α : Type} {f : α → List UInt8} {l : List α} : manyB f l l.length = (l.map f).flatten := by
  unfold manyB
  rw [List.take_length]

theorem bodyB_eq (o : Bin) : bodyB o = magicB ++ (leB o.entry.toNat 4 ++ (leB o.secs.length 1 ++ (leB o.syms.length 2 ++ (leB o.rels.length 2 ++ ((o.secs.map secB).flatten ++ ((o.syms.map symB).flatten ++ (o.rels.map relB).flatten)))))) := by
  unfold bodyB headB
  simp only [manyB_all, List.append_assoc]
  rfl

structure Bin.good (o : Bin) : Prop where
  nS : o.secs.length < 256
  nY : o.syms.length < 65536
  nR : o.rels.length < 65536
  secs : ∀ s ∈ o.secs, okS s
  syms : ∀ s ∈ o.syms, okY s
  rels : ∀ r ∈ o.rels, okR r

theorem four_eq : leV magicB = 827278148 := rfl
theorem mag_len : magicB.length = 4 := rfl

theorem magicR_fw {b : List UInt8} (h : Has b 0 magicB) : magicR b = ⟨b, ((0 + 4 : Nat) : Int), 0⟩ := by
  have e : (Rd.start b).number 4 = (827278148, ⟨b, ((0 + 4 : Nat) : Int), 0⟩) := by
    have h1 : 0 + 4 ≤ b.length := h.1
    have := number_at (b := b) (p := 0) (w := 4) h1
    have h2 : cutB b 0 4 = magicB := h.2
    rw [h2, four_eq] at this
    exact this
  unfold magicR
  rw [e]
  exact if_neg fun hh => hh.2 rfl
theorem magicR_bw {b : List UInt8} (h : (magicR b).e = 0) : magicR b = ⟨b, ((0 + 4 : Nat) : Int), 0⟩ ∧ Has b 0 magicB := by
  have h0 : ((Rd.start b).number 4).2.e = 0 := by
    by_cases hc : ((Rd.start b).number 4).2.e = 0
    · exact hc
    · have : magicR b = ((Rd.start b).number 4).2 := if_neg fun hh => hc hh.1
      rw [this] at h
      exact h
  have hm : ((Rd.start b).number 4).1 = 827278148 := by
    by_cases hc : ((Rd.start b).number 4).1 = 827278148
    · exact hc
    · have : magicR b = ((Rd.start b).number 4).2.failR 4 := if_pos ⟨h0, hc⟩
      rw [this] at h
      have hf : (((Rd.start b).number 4).2.failR 4) = ⟨((Rd.start b).number 4).2.b, ((Rd.start b).number 4).2.p, 4⟩ := if_pos h0
      rw [hf] at h
      exact absurd (show (4 : Int) = 0 from h) (by decide)
  obtain ⟨v, hv, e1, hh⟩ := number_bw (b := b) (p := 0) h0
  have e1' : (Rd.start b).number 4 = ((v : Int), ⟨b, ((0 + 4 : Nat) : Int), 0⟩) := e1
  rw [e1'] at hm
  have hv2 : v = leV magicB := by rw [four_eq]; have : (v : Int) = 827278148 := hm; omega
  have hB : leB v 4 = magicB := by rw [hv2]; exact leB_leV magicB
  rw [hB] at hh
  exact ⟨magicR_fw hh, hh⟩

theorem body_fw {b : List UInt8} {o : Bin} (ho : o.good) (h : Has b 0 (bodyB o)) : bodyR Rd.secsR (magicR b) = (o, ⟨b, ((bodyB o).length : Int), 0⟩) := by
  have hlen : (bodyB o).length = 4 + (4 + (1 + (2 + (2 + ((o.secs.map secB).flatten.length + ((o.syms.map symB).flatten.length + (o.rels.map relB).flatten.length)))))) := by
    rw [bodyB_eq]
    simp only [List.length_append, leB_len, mag_len]
  rw [hlen]
  rw [bodyB_eq] at h
  obtain ⟨h0, h⟩ := has_append.1 h
  obtain ⟨h1, h⟩ := has_append.1 h
  obtain ⟨h2, h⟩ := has_append.1 h
  obtain ⟨h3, h⟩ := has_append.1 h
  obtain ⟨h4, h⟩ := has_append.1 h
  obtain ⟨h5, h⟩ := has_append.1 h
  obtain ⟨h6, h7⟩ := has_append.1 h
  simp only [leB_len, mag_len] at h1 h2 h3 h4 h5 h6 h7
  have e1 := number_fw h1 (u32_lt o.entry)
  have e2 := number_fw h2 (show o.secs.length < 256 ^ 1 from ho.nS)
  have e3 := number_fw h3 (show o.syms.length < 256 ^ 2 from ho.nY)
  have e4 := number_fw h4 (show o.rels.length < 256 ^ 2 from ho.nR)
  have e5 := many_fw sec_fw b o.secs _ ho.secs h5
  have e6 := many_fw sym_fw b o.syms _ ho.syms h6
  have e7 := many_fw rel_fw b o.rels _ ho.rels h7
  have hc : (⟨b, ((0 + 4 : Nat) : Int), 0⟩ : Rd).cnts = (⟨o.entry.toNat, o.secs.length, o.syms.length, o.rels.length⟩, ⟨b, ((0 + 4 + 4 + 1 + 2 + 2 : Nat) : Int), 0⟩) := by
    unfold Rd.cnts
    rw [e1]
    simp only
    rw [e2]
    simp only
    rw [e3]
    simp only
    rw [e4]
    simp only [Int.toNat_natCast]
  rw [magicR_fw h0]
  unfold bodyR
  rw [hc]
  simp only [secsR_many, syms_many, rels_many]
  rw [e5]
  simp only
  rw [e6]
  simp only
  rw [e7]
  simp only [u32_of]
  have : 0 + 4 + 4 + 1 + 2 + 2 + (o.secs.map secB).flatten.length + (o.syms.map symB).flatten.length + (o.rels.map relB).flatten.length = 4 + (4 + (1 + (2 + (2 + ((o.secs.map secB).flatten.length + ((o.syms.map symB).flatten.length + (o.rels.map relB).flatten.length)))))) := by omega
  rw [this]

theorem decode_fw {o : Bin} (ho : o.good) (hc : checkO o = 0) (hl : (fullB o).length ≤ 65536) : decodeP (fullB o) = (o, 0) := by
  rw [decode_same]
  unfold decodeR
  rw [if_neg (by omega)]
  have hb : Has (fullB o) 0 (bodyB o) := has_self
  have hall : Has (fullB o) 0 (bodyB o ++ leB (sumK (bodyB o) (bodyB o).length).toNat 4) := has_all
  have hs := (has_append.1 hall).2
  rw [Nat.zero_add] at hs
  rw [body_fw ho hb]
  simp only
  obtain ⟨v, hv, he⟩ := sumK_nat (bodyB o) (bodyB o).length
  have e := number_fw hs (show (sumK (bodyB o) (bodyB o).length).toNat < 256 ^ 4 by rw [he]; exact hv)
  have hlen : (fullB o).length = (bodyB o).length + 4 := by unfold fullB; rw [List.length_append, leB_len]
  refine tailR_good (by rw [e]) ?_ hc
  rintro (h | h)
  · rw [e] at h
    apply h
    show (((sumK (bodyB o) (bodyB o).length).toNat : Nat) : Int) = sumK ((fullB o).take ((bodyB o).length : Int).toNat) ((fullB o).take ((bodyB o).length : Int).toNat).length
    rw [Int.toNat_natCast, has_take hb]
    omega
  · rw [e] at h
    apply h
    show (((bodyB o).length + 4 : Nat) : Int) = ((fullB o).length : Int)
    rw [hlen]

/-! ### Back -/

theorem tail_bw {b : List UInt8} {o o2 : Bin} {r : Rd} (h : tailR b o r = (o2, 0)) : (r.number 4).2.e = 0 ∧ (r.number 4).1 = sumK (b.take r.p.toNat) (b.take r.p.toNat).length ∧ (r.number 4).2.p = b.length ∧ checkO o = 0 ∧ o2 = o := by
  by_cases h1 : (r.number 4).2.e = 0
  · by_cases h2 : (r.number 4).1 ≠ sumK (b.take r.p.toNat) (b.take r.p.toNat).length ∨ (r.number 4).2.p ≠ b.length
    · rw [tailR_bad h1 h2] at h
      have := congrArg Prod.snd h
      exact absurd (show (4 : Int) = 0 from this) (by decide)
    · by_cases h3 : checkO o = 0
      · rw [tailR_good h1 h2 h3] at h
        refine ⟨h1, Classical.byContradiction fun hc => h2 (.inl hc), Classical.byContradiction fun hc => h2 (.inr hc), h3, (congrArg Prod.fst h).symm⟩
      · rw [tailR_check h1 h2 h3] at h
        exact absurd (congrArg Prod.snd h) h3
  · rw [tailR_err h1] at h
    exact absurd (congrArg Prod.snd h) h1

theorem body_bw {b : List UInt8} (h : (bodyR Rd.secsR (magicR b)).2.e = 0) : ∃ o : Bin, o.good ∧ bodyR Rd.secsR (magicR b) = (o, ⟨b, ((bodyB o).length : Int), 0⟩) ∧ Has b 0 (bodyB o) := by
  have hR : (Rd.rels (magicR b).cnts.1.nR (Rd.syms (magicR b).cnts.1.nY (Rd.secsR (magicR b).cnts.1.nS (magicR b).cnts.2).2).2).2.e = 0 := h
  have hY := rels_e hR
  have hS := syms_e hY
  have hC := secsR_e hS
  have hC1 : ((((((magicR b).number 4).2.number 1).2.number 2).2).number 2).2.e = 0 := hC
  have hC2 := number_e hC1
  have hC3 := number_e hC2
  have hC4 := number_e hC3
  have hM := number_e hC4
  obtain ⟨em, h0⟩ := magicR_bw hM
  rw [em] at hC1 hC2 hC3 hC4
  obtain ⟨en, k1, e1, h1⟩ := number_bw hC4
  rw [e1] at hC1 hC2 hC3
  simp only at hC1 hC2 hC3
  obtain ⟨nS, k2, e2, h2⟩ := number_bw hC3
  rw [e2] at hC1 hC2
  simp only at hC1 hC2
  obtain ⟨nY, k3, e3, h3⟩ := number_bw hC2
  rw [e3] at hC1
  simp only at hC1
  obtain ⟨nR, k4, e4, h4⟩ := number_bw hC1
  have hc : (magicR b).cnts = (⟨en, nS, nY, nR⟩, ⟨b, ((0 + 4 + 4 + 1 + 2 + 2 : Nat) : Int), 0⟩) := by
    rw [em]
    unfold Rd.cnts
    rw [e1]
    simp only
    rw [e2]
    simp only
    rw [e3]
    simp only
    rw [e4]
    simp only [Int.toNat_natCast]
  rw [hc] at hR hY hS
  simp only [secsR_many, syms_many, rels_many] at hR hY hS
  have hp : 0 + 4 + 4 + 1 + 2 + 2 ≤ b.length := by have := h4.1; rw [leB_len] at this; exact this
  obtain ⟨S, lS, oS, e5, h5⟩ := many_bw sec_bw (fun r hr => Rd.sec_stay hr) b nS _ hp hS
  rw [e5] at hR hY
  simp only at hR hY
  obtain ⟨Y, lY, oY, e6, h6⟩ := many_bw sym_bw (fun r hr => Rd.symS_stay hr) b nY _ h5.1 hY
  rw [e6] at hR
  simp only at hR
  obtain ⟨R, lR, oR, e7, h7⟩ := many_bw rel_bw (fun r hr => Rd.relS_stay hr) b nR _ h6.1 hR
  have k1 : en < 4294967296 := k1
  have k2 : nS < 256 := k2
  have k3 : nY < 65536 := k3
  have k4 : nR < 65536 := k4
  have good : (⟨UInt32.ofNat en, S, Y, R⟩ : Bin).good := ⟨by show S.length < 256; omega, by show Y.length < 65536; omega, by show R.length < 65536; omega, oS, oY, oR⟩
  have hH : Has b 0 (bodyB ⟨UInt32.ofNat en, S, Y, R⟩) := by
    rw [bodyB_eq]
    simp only [UInt32.toNat_ofNat_of_lt' (show en < UInt32.size from k1), lS, lY, lR]
    refine has_append.2 ⟨h0, ?_⟩
    rw [mag_len]
    refine has_append.2 ⟨h1, ?_⟩
    rw [leB_len]
    refine has_append.2 ⟨h2, ?_⟩
    rw [leB_len]
    refine has_append.2 ⟨h3, ?_⟩
    rw [leB_len]
    refine has_append.2 ⟨h4, ?_⟩
    rw [leB_len]
    exact has_append.2 ⟨h5, has_append.2 ⟨h6, h7⟩⟩
  exact ⟨_, good, body_fw good hH, hH⟩

theorem decode_bw {b : List UInt8} {o : Bin} (h : decodeP b = (o, 0)) : o.good ∧ checkO o = 0 ∧ b = fullB o ∧ b.length ≤ 65536 := by
  rw [decode_same] at h
  unfold decodeR at h
  by_cases h1 : 65536 < b.length
  · rw [if_pos h1] at h
    exact absurd (show (6 : Int) = 0 from congrArg Prod.snd h) (by decide)
  rw [if_neg h1] at h
  obtain ⟨t1, t2, t3, t4, t5⟩ := tail_bw h
  have hb : (bodyR Rd.secsR (magicR b)).2.e = 0 := number_e t1
  obtain ⟨o', good, e, hH⟩ := body_bw hb
  rw [e] at t1 t2 t3 t4 t5
  simp only at t1 t2 t3 t4 t5
  subst t5
  obtain ⟨v, hv, e2, hs⟩ := number_bw t1
  rw [e2] at t2 t3
  have t2 : (v : Int) = sumK (b.take ((bodyB o).length : Int).toNat) (b.take ((bodyB o).length : Int).toNat).length := t2
  have t3 : (((bodyB o).length + 4 : Nat) : Int) = b.length := t3
  rw [Int.toNat_natCast, has_take hH] at t2
  refine ⟨good, t4, ?_, by omega⟩
  have hH2 : Has b 0 (bodyB o ++ leB v 4) := has_append.2 ⟨hH, by rw [Nat.zero_add]; exact hs⟩
  have hv2 : leB v 4 = leB (sumK (bodyB o) (bodyB o).length).toNat 4 := by rw [← t2, Int.toNat_natCast]
  have := has_take hH2
  rw [List.length_append, leB_len, List.take_of_length_le (by omega), hv2] at this
  exact this

end Go.Ab

namespace Go.Ab
open Go.RowKit Go.Proofs


/-- decompiler/decompilerlaw08.ObjectRoundTrip -/
def ac_L08_ObjectRoundTrip : ACode := .seq /-0-/ (.region [ ⟨(some 1), .rbox (.t 0), none⟩, ⟨(some 2), .mov (.c (.bool false)), none⟩] [0, 2]) (.seq /-1-/ (.seq /-2-/ (.region [ ⟨(some 7), .load true 4 (.t 1), none⟩, ⟨(some 8), .call f_L08_large [(.t 7)], none⟩] [7]) (.cond (.t 8) (.seq /-3-/ (.region [ ⟨(some 9), .call f_L08_exampleHolds [], none⟩, ⟨(some 2), .mov (.t 9), none⟩] [1, 8, 9]) (.ret)) (.skip))) (.seq /-4-/ (.region [ ⟨(some 11), .load true 4 (.t 1), none⟩, ⟨(some 12), .call f_object_Encode [(.t 11)], none⟩, ⟨(some 10), .mov (.t 12), none⟩, ⟨(some 13), .ext 0 (.t 10), none⟩, ⟨(some 14), .ext 1 (.t 10), none⟩, ⟨(some 3), .mov (.t 13), none⟩, ⟨(some 4), .mov (.t 14), none⟩] [2, 8, 10, 11, 12, 13, 14]) (.seq /-5-/ (.seq /-6-/ (.region [ ⟨(some 15), .mov (.t 4), none⟩, ⟨(some 16), .bin .neq (.t 15) (.c (.int .i64 0)), none⟩] [4, 15]) (.cond (.t 16) (.seq /-7-/ (.region [ ⟨(some 17), .mov (.t 3), none⟩, ⟨(some 18), .len (.t 17), none⟩, ⟨(some 19), .bin .eql (.t 18) (.c (.int .i64 0)), none⟩, ⟨(some 20), .mov (.t 19), none⟩, ⟨(some 21), .call f_L08_exampleHolds [], (some (20, true))⟩, ⟨(some 22), .pick (.t 20) (.t 21) (.c (.bool false)), none⟩, ⟨(some 2), .mov (.t 22), none⟩] [1, 3, 16, 17, 18, 19, 20, 21, 22]) (.ret)) (.skip))) (.seq /-8-/ (.region [ ⟨(some 24), .mov (.t 3), none⟩, ⟨(some 25), .call f_object_Decode [(.t 24)], none⟩, ⟨(some 23), .mov (.t 25), none⟩, ⟨(some 26), .ext 0 (.t 23), none⟩, ⟨(some 27), .ext 1 (.t 23), none⟩, ⟨(some 5), .alloc [.int .u32 0, .nilsl, .nilsl, .nilsl], none⟩, ⟨none, .store 4 (.t 5) (.t 26), none⟩, ⟨(some 6), .mov (.t 27), none⟩] [2, 3, 16, 23, 24, 25, 26, 27]) (.seq /-9-/ (.region [ ⟨(some 28), .mov (.t 6), none⟩, ⟨(some 29), .bin .eql (.t 28) (.c (.int .i64 0)), none⟩, ⟨(some 30), .mov (.t 29), none⟩, ⟨(some 31), .load true 4 (.t 5), (some (30, true))⟩, ⟨(some 32), .load true 4 (.t 1), (some (30, true))⟩, ⟨(some 33), .call f_object_Same [(.t 31), (.t 32)], (some (30, true))⟩, ⟨(some 34), .pick (.t 30) (.t 33) (.c (.bool false)), none⟩, ⟨(some 35), .mov (.t 34), none⟩, ⟨(some 36), .load true 4 (.t 5), (some (35, true))⟩, ⟨(some 37), .load true 4 (.t 1), (some (35, true))⟩, ⟨(some 38), .call f_R08_Same [(.t 36), (.t 37)], (some (35, true))⟩, ⟨(some 39), .pick (.t 35) (.t 38) (.c (.bool false)), none⟩, ⟨(some 40), .mov (.t 39), none⟩, ⟨(some 41), .load true 4 (.t 5), (some (40, true))⟩, ⟨(some 42), .call f_object_Check [(.t 41)], (some (40, true))⟩, ⟨(some 43), .bin .eql (.t 42) (.c (.int .i64 0)), (some (40, true))⟩, ⟨(some 44), .pick (.t 40) (.t 43) (.c (.bool false)), none⟩, ⟨(some 45), .mov (.t 44), none⟩, ⟨(some 46), .call f_L08_exampleHolds [], (some (45, true))⟩, ⟨(some 47), .pick (.t 45) (.t 46) (.c (.bool false)), none⟩, ⟨(some 2), .mov (.t 47), none⟩] [1, 5, 6, 28, 29, 30, 31, 32, 33, 34, 35, 36, 37, 38, 39, 40, 41, 42, 43, 44, 45, 46, 47]) (.ret))))))

def rs_L08_ObjectRoundTrip : List ARet := [.tmp 2]

set_option maxRecDepth 100000 in
theorem cf_L08_ObjectRoundTrip : compF Try.prog f_L08_ObjectRoundTrip (qRo [1]) = some (ac_L08_ObjectRoundTrip.strip, rs_L08_ObjectRoundTrip, 48) := by kernel_rfl


/-- decompiler/decompilerlaw08.ObjectCanonical -/
def ac_L08_ObjectCanonical : ACode := .seq /-0-/ (.region [ ⟨(some 2), .mov (.c (.bool false)), none⟩] [2]) (.seq /-1-/ (.seq /-2-/ (.region [ ⟨(some 7), .mov (.t 0), none⟩, ⟨(some 8), .len (.t 7), none⟩, ⟨(some 9), .bin .gtr (.t 8) (.c (.int .i64 70000)), none⟩] [7, 8]) (.cond (.t 9) (.seq /-3-/ (.region [ ⟨(some 10), .call f_L08_exampleHolds [], none⟩, ⟨(some 2), .mov (.t 10), none⟩] [0, 9, 10]) (.ret)) (.skip))) (.seq /-4-/ (.region [ ⟨(some 12), .mov (.t 0), none⟩, ⟨(some 13), .call f_object_Decode [(.t 12)], none⟩, ⟨(some 11), .mov (.t 13), none⟩, ⟨(some 14), .ext 0 (.t 11), none⟩, ⟨(some 15), .ext 1 (.t 11), none⟩, ⟨(some 3), .alloc [.int .u32 0, .nilsl, .nilsl, .nilsl], none⟩, ⟨none, .store 4 (.t 3) (.t 14), none⟩, ⟨(some 4), .mov (.t 15), none⟩] [2, 9, 11, 12, 13, 14, 15]) (.seq /-5-/ (.seq /-6-/ (.region [ ⟨(some 16), .mov (.t 4), none⟩, ⟨(some 17), .bin .neq (.t 16) (.c (.int .i64 0)), none⟩] [4, 16]) (.cond (.t 17) (.seq /-7-/ (.region [ ⟨(some 18), .call f_L08_exampleHolds [], none⟩, ⟨(some 2), .mov (.t 18), none⟩] [0, 3, 17, 18]) (.ret)) (.skip))) (.seq /-8-/ (.region [ ⟨(some 20), .load true 4 (.t 3), none⟩, ⟨(some 21), .call f_object_Encode [(.t 20)], none⟩, ⟨(some 19), .mov (.t 21), none⟩, ⟨(some 22), .ext 0 (.t 19), none⟩, ⟨(some 23), .ext 1 (.t 19), none⟩, ⟨(some 5), .mov (.t 22), none⟩, ⟨(some 6), .mov (.t 23), none⟩] [2, 3, 17, 19, 20, 21, 22, 23]) (.seq /-9-/ (.region [ ⟨(some 24), .mov (.t 6), none⟩, ⟨(some 25), .bin .eql (.t 24) (.c (.int .i64 0)), none⟩, ⟨(some 26), .mov (.t 25), none⟩, ⟨(some 27), .mov (.t 0), (some (26, true))⟩, ⟨(some 28), .mov (.t 5), (some (26, true))⟩, ⟨(some 29), .call f_R05_SameBytes [(.t 27), (.t 28)], (some (26, true))⟩, ⟨(some 30), .pick (.t 26) (.t 29) (.c (.bool false)), none⟩, ⟨(some 31), .mov (.t 30), none⟩, ⟨(some 32), .call f_L08_exampleHolds [], (some (31, true))⟩, ⟨(some 33), .pick (.t 31) (.t 32) (.c (.bool false)), none⟩, ⟨(some 2), .mov (.t 33), none⟩] [0, 5, 6, 24, 25, 26, 27, 28, 29, 30, 31, 32, 33]) (.ret))))))

def rs_L08_ObjectCanonical : List ARet := [.tmp 2]

set_option maxRecDepth 100000 in
theorem cf_L08_ObjectCanonical : compF Try.prog f_L08_ObjectCanonical (qRo []) = some (ac_L08_ObjectCanonical.strip, rs_L08_ObjectCanonical, 34) := by kernel_rfl

def ac_L08_ObjectDamage_k0 : ACode :=
  /-live [9]-/ .seq /-11-/ (.region [ ⟨(some 50), .mov (.t 9), none⟩, ⟨(some 51), .call f_object_Decode [(.t 50)], none⟩, ⟨(some 49), .mov (.t 51), none⟩, ⟨(some 52), .ext 0 (.t 49), none⟩, ⟨(some 53), .ext 1 (.t 49), none⟩, ⟨(some 10), .alloc [.int .u32 0, .nilsl, .nilsl, .nilsl], none⟩, ⟨none, .store 4 (.t 10) (.t 52), none⟩, ⟨(some 11), .mov (.t 53), none⟩] [9, 10, 49, 50, 51, 52, 53]) (.seq /-12-/ (.region [ ⟨(some 54), .mov (.t 11), none⟩, ⟨(some 55), .bin .neq (.t 54) (.c (.int .i64 0)), none⟩, ⟨(some 56), .mov (.t 55), none⟩, ⟨(some 57), .call f_L08_exampleHolds [], (some (56, true))⟩, ⟨(some 58), .pick (.t 56) (.t 57) (.c (.bool false)), none⟩, ⟨(some 6), .mov (.t 58), none⟩] [11, 54, 55, 56, 57, 58]) (.ret))

/-- decompiler/decompilerlaw08.ObjectDamage -/
def ac_L08_ObjectDamage : ACode := .seq /-0-/ (.region [ ⟨(some 3), .rbox (.t 0), none⟩, ⟨(some 6), .mov (.c (.bool false)), none⟩] [0, 6]) (.seq /-1-/ (.seq /-2-/ (.region [ ⟨(some 12), .load true 4 (.t 3), none⟩, ⟨(some 13), .call f_L08_large [(.t 12)], none⟩] [12]) (.cond (.t 13) (.seq /-3-/ (.region [ ⟨(some 14), .call f_L08_exampleHolds [], none⟩, ⟨(some 6), .mov (.t 14), none⟩] [1, 2, 3, 13, 14]) (.ret)) (.skip))) (.seq /-4-/ (.region [ ⟨(some 16), .load true 4 (.t 3), none⟩, ⟨(some 17), .call f_object_Encode [(.t 16)], none⟩, ⟨(some 15), .mov (.t 17), none⟩, ⟨(some 18), .ext 0 (.t 15), none⟩, ⟨(some 19), .ext 1 (.t 15), none⟩, ⟨(some 7), .mov (.t 18), none⟩, ⟨(some 8), .mov (.t 19), none⟩] [3, 6, 13, 15, 16, 17, 18, 19]) (.seq /-5-/ (.seq /-6-/ (.region [ ⟨(some 20), .mov (.t 8), none⟩, ⟨(some 21), .bin .neq (.t 20) (.c (.int .i64 0)), none⟩, ⟨(some 22), .mov (.t 21), none⟩, ⟨(some 23), .mov (.t 1), (some (22, false))⟩, ⟨(some 24), .bin .lss (.t 23) (.c (.int .i64 0)), (some (22, false))⟩, ⟨(some 25), .pick (.t 22) (.c (.bool true)) (.t 24), none⟩, ⟨(some 26), .mov (.t 25), none⟩, ⟨(some 27), .mov (.t 1), (some (26, false))⟩, ⟨(some 28), .mov (.t 7), (some (26, false))⟩, ⟨(some 29), .len (.t 28), (some (26, false))⟩, ⟨(some 30), .bin .geq (.t 27) (.t 29), (some (26, false))⟩, ⟨(some 31), .pick (.t 26) (.c (.bool true)) (.t 30), none⟩, ⟨(some 32), .mov (.t 31), none⟩, ⟨(some 33), .mov (.t 2), (some (32, false))⟩, ⟨(some 34), .bin .eql (.t 33) (.c (.int .u8 0)), (some (32, false))⟩, ⟨(some 35), .pick (.t 32) (.c (.bool true)) (.t 34), none⟩] [8, 20, 21, 22, 23, 24, 25, 26, 27, 28, 29, 30, 31, 32, 33, 34]) (.cond (.t 35) (.seq /-7-/ (.region [ ⟨(some 36), .call f_L08_exampleHolds [], none⟩, ⟨(some 6), .mov (.t 36), none⟩] [1, 2, 7, 35, 36]) (.ret)) (.skip))) (.seq /-8-/ (.region [ ⟨(some 9), .mknil 1, none⟩] [6, 35]) (.seq /-9-/ (.region [ ⟨(some 37), .mov (.t 9), none⟩, ⟨(some 38), .mov (.t 7), none⟩, ⟨(some 39), .append 1 1 (.t 37) (.t 38), none⟩, ⟨(some 9), .mov (.t 39), none⟩] [7, 37, 38, 39]) (.seq /-10-/ (.region [ ⟨(some 40), .mov (.t 9), none⟩, ⟨(some 41), .mov (.t 1), none⟩, ⟨(some 42), .mov (.t 9), none⟩, ⟨(some 43), .mov (.t 1), none⟩, ⟨(some 44), .idx 1 (.t 42) (.t 43), none⟩, ⟨(some 45), .load false 1 (.t 44), none⟩, ⟨(some 46), .mov (.t 2), none⟩, ⟨(some 47), .bin .add (.t 45) (.t 46), none⟩, ⟨(some 48), .idx 1 (.t 40) (.t 41), none⟩, ⟨none, .store 1 (.t 48) (.t 47), none⟩] [1, 2, 40, 41, 42, 43, 44, 45, 46, 47, 48]) (.mark 10 (ac_L08_ObjectDamage_k0))))))))

def rs_L08_ObjectDamage : List ARet := [.tmp 6]

set_option maxRecDepth 100000 in
theorem cf_L08_ObjectDamage : compF Try.prog f_L08_ObjectDamage (qRo [3]) = some (ac_L08_ObjectDamage.strip, rs_L08_ObjectDamage, 59) := by kernel_rfl

end Go.Ab

namespace Go.Ab
open Go.RowKit Go.Proofs

end Go.Ab
