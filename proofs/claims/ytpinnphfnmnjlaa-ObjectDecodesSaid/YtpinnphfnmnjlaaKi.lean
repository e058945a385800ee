/-
  Part 9 of the proof: how the calls of this program run, over values instead of memory, and what each function computes.
-/
import Derived.KernelRfl
import Derived.Test.YtpinnphfnmnjlaaKh
set_option linter.unusedVariables false
set_option linter.unusedSimpArgs false
set_option linter.unnecessarySimpa false
set_option linter.unusedSectionVars false

namespace Go.Ab
open Go.RowKit Go.Proofs

def emptyB : Bin := ⟨0, [], [], []⟩
def magicB : List UInt8 := [68, 67, 79, 49]
def Rd.start (b : List UInt8) : Rd := ⟨b, 0, 0⟩

/-- The reader behind the first four bytes, as the program takes them. -/
def magicP (b : List UInt8) : Rd := if ((Rd.start b).bytes 4).2.e = 0 ∧ ((Rd.start b).bytes 4).1 ≠ magicB then ((Rd.start b).bytes 4).2.failR 4 else ((Rd.start b).bytes 4).2

structure Cnt where
  en : Nat
  nS : Nat
  nY : Nat
  nR : Nat
def Rd.cnts (r : Rd) : Cnt × Rd :=
  (⟨(r.number 4).1.toNat, ((r.number 4).2.number 1).1.toNat, (((r.number 4).2.number 1).2.number 2).1.toNat, ((((r.number 4).2.number 1).2.number 2).2.number 2).1.toNat⟩, ((((r.number 4).2.number 1).2.number 2).2.number 2).2)

def bodyR (secs : Nat → Rd → List Sec × Rd) (r : Rd) : Bin × Rd :=
  (⟨UInt32.ofNat r.cnts.1.en, (secs r.cnts.1.nS r.cnts.2).1, (Rd.syms r.cnts.1.nY (secs r.cnts.1.nS r.cnts.2).2).1, (Rd.rels r.cnts.1.nR (Rd.syms r.cnts.1.nY (secs r.cnts.1.nS r.cnts.2).2).2).1⟩,
    (Rd.rels r.cnts.1.nR (Rd.syms r.cnts.1.nY (secs r.cnts.1.nS r.cnts.2).2).2).2)

def tailR (b : List UInt8) (o : Bin) (r : Rd) : Bin × Int :=
  if (r.number 4).2.e ≠ 0 then (emptyB, (r.number 4).2.e)
  else if (r.number 4).1 ≠ sumK (b.take r.p.toNat) (b.take r.p.toNat).length ∨ (r.number 4).2.p ≠ b.length then (emptyB, 4)
  else if checkO o ≠ 0 then (emptyB, checkO o) else (o, 0)

def decodeP (b : List UInt8) : Bin × Int :=
  if 65536 < b.length then (emptyB, 6) else tailR b (bodyR Rd.secsP (magicP b)).1 (bodyR Rd.secsP (magicP b)).2

theorem tailR_err {b : List UInt8} {o : Bin} {r : Rd} (h : (r.number 4).2.e ≠ 0) : tailR b o r = (emptyB, (r.number 4).2.e) := if_pos h
theorem tailR_bad {b : List UInt8} {o : Bin} {r : Rd} (h : (r.number 4).2.e = 0) (h2 : (r.number 4).1 ≠ sumK (b.take r.p.toNat) (b.take r.p.toNat).length ∨ (r.number 4).2.p ≠ b.length) : tailR b o r = (emptyB, 4) := by
  rw [tailR, if_neg (by simp [h]), if_pos h2]
theorem tailR_check {b : List UInt8} {o : Bin} {r : Rd} (h : (r.number 4).2.e = 0) (h2 : ¬ ((r.number 4).1 ≠ sumK (b.take r.p.toNat) (b.take r.p.toNat).length ∨ (r.number 4).2.p ≠ b.length)) (h3 : checkO o ≠ 0) : tailR b o r = (emptyB, checkO o) := by
  rw [tailR, if_neg (by simp [h]), if_neg h2, if_pos h3]
theorem tailR_good {b : List UInt8} {o : Bin} {r : Rd} (h : (r.number 4).2.e = 0) (h2 : ¬ ((r.number 4).1 ≠ sumK (b.take r.p.toNat) (b.take r.p.toNat).length ∨ (r.number 4).2.p ≠ b.length)) (h3 : checkO o = 0) : tailR b o r = (o, 0) := by
  rw [tailR, if_neg (by simp [h]), if_neg h2, if_neg (by simp [h3])]

theorem getN_small (l : List UInt8) (p : Int) {w : Nat} : ∃ n : Nat, n < 256 ^ w ∧ (getN l p w).1 = (n : Int) := by
  unfold getN
  split
  · exact ⟨0, Nat.pow_pos (by decide), rfl⟩
  · refine ⟨_, Nat.lt_of_lt_of_le (leV_lt _) ?_, rfl⟩
    refine Nat.pow_le_pow_right (by decide) ?_
    rw [List.length_take]
    omega
theorem Rd.number_small (r : Rd) (w : Nat) : ∃ n : Nat, n < 256 ^ w ∧ (r.number w).1 = (n : Int) := by
  unfold Rd.number
  split
  · exact ⟨0, Nat.pow_pos (by decide), rfl⟩
  · exact getN_small _ _

theorem Rd.text_size (r : Rd) : r.text.1.size ≤ 32 := by
  unfold Rd.text
  split
  · exact Nat.zero_le _
  · show (getT r.b r.p).1.size ≤ 32
    unfold getT
    split
    · exact Nat.zero_le _
    · split
      · exact Nat.zero_le _
      · split
        · exact Nat.zero_le _
        · show (cutT _ _ _).size ≤ 32
          have : (cutT r.b (r.p.toNat + 1) (r.b.getD r.p.toNat 0).toNat).size = (((r.b.drop (r.p.toNat + 1)).take (r.b.getD r.p.toNat 0).toNat)).length := by simp [cutT, ByteArray.size]
          rw [this, List.length_take]
          omega

theorem secsP_in : ∀ (n : Nat) (r : Rd), (Rd.secsP n r).1.length ≤ n ∧ ∀ s ∈ (Rd.secsP n r).1, s.name.size ≤ 32
  | 0, r => ⟨Nat.le_refl _, fun s hs => by cases hs⟩
  | n + 1, r => by
    rw [Rd.secsP]
    split
    · exact ⟨Nat.zero_le _, fun s hs => by cases hs⟩
    · have ih := secsP_in n r.secP.2
      refine ⟨Nat.succ_le_succ ih.1, fun s hs => ?_⟩
      rcases List.mem_cons.1 hs with rfl | hs
      · exact Rd.text_size r
      · exact ih.2 s hs
theorem syms_in : ∀ (n : Nat) (r : Rd), (Rd.syms n r).1.length ≤ n ∧ ∀ s ∈ (Rd.syms n r).1, s.name.size ≤ 32
  | 0, r => ⟨Nat.le_refl _, fun s hs => by cases hs⟩
  | n + 1, r => by
    rw [Rd.syms]
    split
    · exact ⟨Nat.zero_le _, fun s hs => by cases hs⟩
    · have ih := syms_in n r.symS.2
      refine ⟨Nat.succ_le_succ ih.1, fun s hs => ?_⟩
      rcases List.mem_cons.1 hs with rfl | hs
      · exact Rd.text_size r
      · exact ih.2 s hs
theorem rels_in : ∀ (n : Nat) (r : Rd), (Rd.rels n r).1.length ≤ n
  | 0, r => Nat.le_refl _
  | n + 1, r => by
    rw [Rd.rels]
    split
    · exact Nat.zero_le _
    · exact Nat.succ_le_succ (rels_in n r.relS.2)

theorem secsP_fine : ∀ (n : Nat) (r : Rd), r.fine → (Rd.secsP n r).2.fine
  | 0, r, h => h
  | n + 1, r, h => by
    rw [Rd.secsP]
    split
    · exact h
    · exact secsP_fine n r.secP.2 (Rd.secP_fine h)
theorem syms_fine : ∀ (n : Nat) (r : Rd), r.fine → (Rd.syms n r).2.fine
  | 0, r, h => h
  | n + 1, r, h => by
    rw [Rd.syms]
    split
    · exact h
    · exact syms_fine n r.symS.2 (Rd.symS_fine h)
theorem rels_fine : ∀ (n : Nat) (r : Rd), r.fine → (Rd.rels n r).2.fine
  | 0, r, h => h
  | n + 1, r, h => by
    rw [Rd.rels]
    split
    · exact h
    · exact rels_fine n r.relS.2 (Rd.relS_fine h)

theorem Rd.bytes_b {r : Rd} {n : Nat} : (r.bytes n).2.b = r.b := by
  unfold Rd.bytes
  split
  · rfl
  · split <;> rfl
theorem Rd.text_b {r : Rd} : r.text.2.b = r.b := by
  unfold Rd.text
  split <;> rfl
theorem Rd.mark_b {r : Rd} {f : Int} : (r.mark f).b = r.b := by
  unfold Rd.mark
  split <;> rfl
theorem Rd.failR_b {r : Rd} {x : Int} : (r.failR x).b = r.b := by
  unfold Rd.failR
  split <;> rfl
theorem Rd.failR_fine {r : Rd} {x : Int} (h : r.fine) (hx : x ≠ 0) : (r.failR x).fine := by
  unfold Rd.failR
  split
  · exact ⟨h.lo, h.hi, h.len, fun h0 => absurd h0 hx⟩
  · exact h
theorem Rd.secP_b {r : Rd} : r.secP.2.b = r.b := by
  show ((r.r5.bytes r.size).2).b = _
  rw [Rd.bytes_b]
  show ((r.r4.number 4).2).b = _
  rw [Rd.number_b]
  show (r.r3.mark r.flag).b = _
  rw [Rd.mark_b]
  show ((r.r2.number 1).2).b = _
  rw [Rd.number_b]
  show ((r.r1.number 4).2).b = _
  rw [Rd.number_b]
  exact Rd.text_b
theorem Rd.symS_b {r : Rd} : r.symS.2.b = r.b := by
  show (((r.text.2.number 4).2.number 1).2).b = _
  rw [Rd.number_b, Rd.number_b, Rd.text_b]
theorem Rd.relS_b {r : Rd} : r.relS.2.b = r.b := by
  show (((((r.number 1).2.number 4).2.number 1).2.text.2.number 4).2).b = _
  rw [Rd.number_b, Rd.text_b, Rd.number_b, Rd.number_b, Rd.number_b]
theorem secsP_b : ∀ (n : Nat) (r : Rd), (Rd.secsP n r).2.b = r.b
  | 0, r => rfl
  | n + 1, r => by
    rw [Rd.secsP]
    split
    · rfl
    · exact (secsP_b n _).trans Rd.secP_b
theorem syms_b : ∀ (n : Nat) (r : Rd), (Rd.syms n r).2.b = r.b
  | 0, r => rfl
  | n + 1, r => by
    rw [Rd.syms]
    split
    · rfl
    · exact (syms_b n _).trans Rd.symS_b
theorem rels_b : ∀ (n : Nat) (r : Rd), (Rd.rels n r).2.b = r.b
  | 0, r => rfl
  | n + 1, r => by
    rw [Rd.rels]
    split
    · rfl
    · exact (rels_b n _).trans Rd.relS_b

theorem Rd.start_fine {b : List UInt8} (h : b.length ≤ 70000) : (Rd.start b).fine := ⟨Int.le_refl _, by show (0 : Int) ≤ _; omega, h, fun _ => by show (0 : Int) ≤ _; omega⟩
theorem magicP_fine {b : List UInt8} (h : b.length ≤ 70000) : (magicP b).fine := by
  have := Rd.bytes_fine (n := 4) (Rd.start_fine h)
  unfold magicP
  split
  · exact Rd.failR_fine this (by decide)
  · exact this
theorem magicP_b {b : List UInt8} : (magicP b).b = b := by
  unfold magicP
  split
  · rw [Rd.failR_b, Rd.bytes_b]; rfl
  · rw [Rd.bytes_b]; rfl

theorem empty_frz {H : AH} {e : Int} : Frz H (.tup [.agg [.int .u32 0, .nilsl, .nilsl, .nilsl], .int .i64 e]) (.tup [.agg emptyB.cells, .int .i64 e]) := by
  refine .tup _ _ _ rfl (fun i a c h1 h2 => ?_)
  rcases i with _ | _ | i
  · cases h1; cases h2
    refine .agg _ _ _ rfl (fun i a c h1 h2 => ?_)
    rcases i with _ | _ | _ | _ | i
    · cases h1; cases h2; exact .int _ _ _
    · cases h1; cases h2; exact .nil0 _ _ _
    · cases h1; cases h2; exact .nil0 _ _ _
    · cases h1; cases h2; exact .nil0 _ _ _
    · simp at h1
  · cases h1; cases h2; exact .int _ _ _
  · simp at h1

theorem vw_secs {H H2 : AH} {σ : Nat → Nat → Option (Nat × Nat × Nat)} {D : Nat → Nat → Prop} {t : Bool} {r g : Nat} {l : List Sec} (hD : D r 0) (hg : H.get r 0 = some (.row 5 (l.map Sec.cells) g)) (hb : l.length ≤ big) : Vw H H2 σ D t (.own r 0 g 0 l.length) (encL 5 Sec.cells l) :=
  vw_encL hD hg hb fun a _ j hj => by
    rcases j with _ | _ | _ | _ | _ | j <;> first | exact vw_flat0 rfl | omega
theorem vw_syms {H H2 : AH} {σ : Nat → Nat → Option (Nat × Nat × Nat)} {D : Nat → Nat → Prop} {t : Bool} {r g : Nat} {l : List Sym} (hD : D r 0) (hg : H.get r 0 = some (.row 3 (l.map Sym.cells) g)) (hb : l.length ≤ big) : Vw H H2 σ D t (.own r 0 g 0 l.length) (encL 3 Sym.cells l) :=
  vw_encL hD hg hb fun a _ j hj => by
    rcases j with _ | _ | _ | j <;> first | exact vw_flat0 rfl | omega
theorem vw_rels {H H2 : AH} {σ : Nat → Nat → Option (Nat × Nat × Nat)} {D : Nat → Nat → Prop} {t : Bool} {r g : Nat} {l : List Rel} (hD : D r 0) (hg : H.get r 0 = some (.row 5 (l.map Rel.cells) g)) (hb : l.length ≤ big) : Vw H H2 σ D t (.own r 0 g 0 l.length) (encL 5 Rel.cells l) :=
  vw_encL hD hg hb fun a _ j hj => by
    rcases j with _ | _ | _ | _ | _ | j <;> first | exact vw_flat0 rfl | omega

theorem vw_bin {H H2 : AH} {σ : Nat → Nat → Option (Nat × Nat × Nat)} {D : Nat → Nat → Prop} {t : Bool} {r1 r2 r3 g1 g2 g3 en : Nat} {S : List Sec} {Y : List Sym} {R : List Rel} (hen : en < 4294967296)
    (D1 : D r1 0) (D2 : D r2 0) (D3 : D r3 0) (h1 : H.get r1 0 = some (.row 5 (S.map Sec.cells) g1)) (h2 : H.get r2 0 = some (.row 3 (Y.map Sym.cells) g2)) (h3 : H.get r3 0 = some (.row 5 (R.map Rel.cells) g3))
    (hS : S.length ≤ big) (hY : Y.length ≤ big) (hR : R.length ≤ big) :
    Vw H H2 σ D t (.agg [.int .u32 en, .own r1 0 g1 0 S.length, .own r2 0 g2 0 Y.length, .own r3 0 g3 0 R.length]) (.agg (Bin.cells ⟨UInt32.ofNat en, S, Y, R⟩)) := by
  refine .agg _ _ _ rfl (fun i a c k1 k2 => ?_)
  rcases i with _ | _ | _ | _ | i
  · cases k1; cases k2
    have : ((UInt32.ofNat en).toNat : Int) = (en : Int) := by rw [UInt32.toNat_ofNat_of_lt' hen]
    rw [this]
    exact .int _ _ _
  · cases k1; cases k2; exact vw_secs D1 h1 hS
  · cases k1; cases k2; exact vw_syms D2 h2 hY
  · cases k1; cases k2; exact vw_rels D3 h3 hR
  · simp at k1

end Go.Ab

namespace Go.Ab
open Go.RowKit Go.Proofs

theorem start_cells {b : List UInt8} : [encL 1 cByte b, AV.int .i64 0, .int .i64 0] = (Rd.start b).cells := rfl

theorem Rd.number_e0 {r : Rd} {w : Nat} (h : (r.number w).2.e = 0) : r.e = 0 ∧ 0 ≤ r.p ∧ r.p + w ≤ r.b.length ∧ (r.number w).2 = ⟨r.b, r.p + w, 0⟩ := by
  by_cases he : r.e = 0
  · rw [Rd.number_ok he] at h ⊢
    have h : (getN r.b r.p w).2 = 0 := h
    rcases getN_cases r.b r.p w with h2 | ⟨_, h3, h4⟩
    · rw [h2] at h; cases h
    · exact ⟨he, h3, h4, by simp only [h]⟩
  · rw [Rd.number_err he] at h
    exact absurd h he

theorem frz_pair {H : AH} {a c : AV} {k : IntKind} {n : Int} (h : Frz H a c) : Frz H (.tup [a, .int k n]) (.tup [c, .int k n]) := by
  refine .tup _ _ _ rfl (fun i x y h1 h2 => ?_)
  rcases i with _ | _ | i
  · cases h1; cases h2; exact h
  · cases h1; cases h2; exact .int _ _ _
  · simp at h1

theorem ren_rowF {ρ : Nat → Nat} {sz g : Nat} {els : List (List AV)} (h : FlatRows els) : AObj.ren ρ (.row sz els g) = .row sz els g := by
  simp only [AObj.ren, ren_rows h]
theorem ren_secs {ρ : Nat → Nat} {l : List Sec} {g : Nat} : AObj.ren ρ (.row 5 (l.map Sec.cells) g) = .row 5 (l.map Sec.cells) g := ren_rowF (flat_map fun _ => rfl)
theorem ren_syms {ρ : Nat → Nat} {l : List Sym} {g : Nat} : AObj.ren ρ (.row 3 (l.map Sym.cells) g) = .row 3 (l.map Sym.cells) g := ren_rowF (flat_map fun _ => rfl)
theorem ren_rels {ρ : Nat → Nat} {l : List Rel} {g : Nat} : AObj.ren ρ (.row 5 (l.map Rel.cells) g) = .row 5 (l.map Rel.cells) g := ren_rowF (flat_map fun _ => rfl)

theorem object_Decode_ok (b : List UInt8) (hb : b.length ≤ 70000) : PureFn Try.prog f_object_Decode [encB b] (· = .tup [.agg (decodeP b).1.cells, .int .i64 (decodeP b).2]) := by
  refine fn_x cf_object_Decode rfl ?_
  unfold ac_object_Decode
  have hB : big = 9223372036854775807 := rfl
  have hee : ∀ x : Rd, (Rd.cells x).getD 2 .undef = .int .i64 x.e := fun _ => rfl
  have hpp : ∀ x : Rd, (Rd.cells x).getD 1 .undef = .int .i64 x.p := fun _ => rfl
  have hel : ∀ x : Rd, (Rd.cells x).length = 3 := fun _ => rfl
  (repeat (first | (simp (disch := first | exact dis1 | fail) only [evA, Nat.reduceBEq, Nat.reduceAdd, Nat.reduceLeDiff, boxR, rboxR, allocR, fldR, binI, unR, pickR, mknilR, mkslR, buildSlR, buildR, extR, convI, eqB, evU, wrap64, encB]) | (with_reducible intro _) | ((with_reducible apply And.intro); omega)))
  by_cases h1 : 65536 < b.length
  · have e : decodeP b = (emptyB, 6) := if_pos h1
    rw [e]
    (repeat (first | (simp (disch := first | exact dis1 | fail) only [evA, Nat.reduceBEq, Nat.reduceAdd, Nat.reduceLeDiff, boxR, rboxR, allocR, fldR, binI, unR, pickR, mknilR, mkslR, buildSlR, buildR, extR, convI, eqB, evU, wrap64, dT, rs_object_Decode]) | (with_reducible intro _) | ((with_reducible apply And.intro); omega)))
    exact ⟨_, empty_frz, rfl⟩
  have hdec : decodeP b = tailR b (bodyR Rd.secsP (magicP b)).1 (bodyR Rd.secsP (magicP b)).2 := if_neg h1
  rw [hdec]
  (repeat (first | (simp (disch := first | exact dis1 | fail) only [evA, Nat.reduceBEq, Nat.reduceAdd, Nat.reduceLeDiff, boxR, rboxR, allocR, fldR, binI, unR, pickR, mknilR, mkslR, buildSlR, buildR, extR, convI, eqB, evU, wrap64, dF]) | (with_reducible intro _) | ((with_reducible apply And.intro); omega)))
  refine joinX_intro (fun _ : Unit => ([(0, encB b), (2, .ptr 0 0 0 0 0), (4, .ptr 2 0 0 0 0)], [(0, .row 4 [[.int .u32 0, .nilsl, .nilsl, .nilsl]] 0), (1, .row 3 [(magicP b).cells] 0), (2, .row 5 [[.ptr 1 0 0 0 0, .int .u32 0, .nilsl, .nilsl, .nilsl]] 0)])) 3 (fun _ => True) ?_ ?_
  · have k0 := position_bytes_ok (Rd.start b) 4 (Rd.start_fine hb).toOk (Rd.start_fine hb).ok (by decide)
    (repeat (first | (simp (disch := first | exact dis1 | fail) only [evA, Nat.reduceBEq, Nat.reduceAdd, Nat.reduceLeDiff, boxR, rboxR, allocR, fldR, binI, unR, pickR, mknilR, mkslR, buildSlR, buildR, extR, convI, eqB, evU, wrap64, start_cells]) | (with_reducible intro _) | ((with_reducible apply And.intro); omega)))
    refine call_lows 3 rfl ?_; refine call_own [(0, 1, 0)] 1 _ (k0) rfl rfl (by (try simp only [evWA, Nat.reduceBEq, Nat.reduceAdd, Nat.reduceSub, Nat.reduceLeDiff, Nat.reduceLT, implies_true, and_self, Int.natCast_zero, Int.natCast_one, Int.cast_ofNat_Int, evV, encInts, encNats, encBools, encP, Rd.cells, encB]) <;> exact fin1) (by (try simp only [evWA, Nat.reduceBEq, Nat.reduceAdd, Nat.reduceSub, Nat.reduceLeDiff, Nat.reduceLT, implies_true, and_self, Int.natCast_zero, Int.natCast_one, Int.cast_ofNat_Int, evV, encInts, encNats, encBools, encP, Rd.cells, encB]) <;> exact fin1) ?_
    rintro v' H' nx' ⟨rfl, rfl, rfl⟩
    refine ⟨?_, ?_⟩; (· (repeat (first | (simp (disch := first | exact dis1 | fail) only [evA, Nat.reduceBEq, Nat.reduceAdd, Nat.reduceLeDiff, boxR, rboxR, allocR, fldR, binI, unR, pickR, mknilR, mkslR, buildSlR, buildR, extR, convI, eqB, evU, wrap64, rowsLt, elsLt_cons, AV.lt1, AV.lt0, AH.sort, AH.ins, Nat.reduceEqDiff, Nat.reduceLT, if_true, if_false, reduceIte, and_true, true_and, Rd.ren, encB_ren]) | (with_reducible intro _) | ((with_reducible apply And.intro); omega))) <;> ((repeat' with_reducible apply And.intro) <;> first | rfl | omega | exact elsLt_nil | (refine elsLt_map ?_; intro _; rfl) | fail)); (repeat (first | (simp (disch := first | exact dis1 | fail) only [evA, Nat.reduceBEq, Nat.reduceAdd, Nat.reduceLeDiff, boxR, rboxR, allocR, fldR, binI, unR, pickR, mknilR, mkslR, buildSlR, buildR, extR, convI, eqB, evU, wrap64, AH.sort, AH.ins, Nat.reduceEqDiff, Nat.reduceLT, if_true, if_false, reduceIte, Rd.ren, encB_ren]) | (with_reducible intro _) | ((with_reducible apply And.intro); omega)))
    have hM : magicP b = if ((Rd.start b).bytes 4).2.e = 0 ∧ ((Rd.start b).bytes 4).1 ≠ magicB then ((Rd.start b).bytes 4).2.failR 4 else ((Rd.start b).bytes 4).2 := rfl
    have hlq : ((Rd.start b).bytes 4).1.length ≤ 70000 := by
      unfold Rd.bytes
      split
      · exact Nat.zero_le _
      · split
        · exact Nat.zero_le _
        · rename_i h2
          have h2 : ¬ (b.length : Int) - 0 < 4 := h2
          show (cutB b 0 4).length ≤ _
          rw [cutB_len (by omega)]
          decide
    rw [hM]
    generalize (Rd.start b).bytes 4 = q at *
    obtain ⟨q1, q2⟩ := q
    simp only at hlq ⊢
    by_cases hq : q2.e = 0
    · have d1 : decide (q2.e = 0) = true := decide_eq_true hq
      have hsl : ∀ {H : AH}, elsOf 1 (encL 1 cByte q1) H = some (q1.map cByte) := fun {H} => elsOf_encL (fun _ _ => rfl)
      have hmg : ∀ x : List UInt8, decide ((⟨x.toArray⟩ : ByteArray) = ⟨#[68, 67, 79, 49]⟩) = decide (x = magicB) := fun x => by
        refine decide_eq_decide.2 ⟨fun h => ?_, fun h => by rw [h]; rfl⟩
        injection h with h
        have := congrArg Array.toList h
        exact this
      (repeat (first | (simp (disch := first | exact dis1 | fail) only [evA, Nat.reduceBEq, Nat.reduceAdd, Nat.reduceLeDiff, boxR, rboxR, allocR, fldR, binI, unR, pickR, mknilR, mkslR, buildSlR, buildR, extR, convI, eqB, evU, wrap64, hee, hel, d1, encB, hsl, hmg]) | (with_reducible intro _) | ((with_reducible apply And.intro); omega)))
      refine ⟨rfl, fun _ => ?_⟩
      by_cases hm : q1 = magicB
      · have d2 : decide (q1 = magicB) = true := decide_eq_true hm
        rw [if_neg (fun h => h.2 hm)]
        (repeat (first | (simp (disch := first | exact dis1 | fail) only [evA, Nat.reduceBEq, Nat.reduceAdd, Nat.reduceLeDiff, boxR, rboxR, allocR, fldR, binI, unR, pickR, mknilR, mkslR, buildSlR, buildR, extR, convI, eqB, evU, wrap64, d2, Bool.not_true]) | (with_reducible intro _) | ((with_reducible apply And.intro); omega)))
        exact ⟨(), Ent.keep rfl (by (try simp [subK, Kn.get, beq_eq]) <;> (repeat' with_reducible apply And.intro) <;> first | rfl | omega | (simp; done))⟩
      · have d2 : decide (q1 = magicB) = false := decide_eq_false hm
        have kf := position_fail_all q2 4
        rw [if_pos ⟨hq, hm⟩]
        (repeat (first | (simp (disch := first | exact dis1 | fail) only [evA, Nat.reduceBEq, Nat.reduceAdd, Nat.reduceLeDiff, boxR, rboxR, allocR, fldR, binI, unR, pickR, mknilR, mkslR, buildSlR, buildR, extR, convI, eqB, evU, wrap64, d2, Bool.not_false]) | (with_reducible intro _) | ((with_reducible apply And.intro); omega)))
        refine call_lows 3 rfl ?_; refine call_own [(0, 1, 0)] 1 _ (kf) rfl rfl (by (try simp only [evWA, Nat.reduceBEq, Nat.reduceAdd, Nat.reduceSub, Nat.reduceLeDiff, Nat.reduceLT, implies_true, and_self, Int.natCast_zero, Int.natCast_one, Int.cast_ofNat_Int, evV, encInts, encNats, encBools, encP, Rd.cells, encB]) <;> exact fin1) (by (try simp only [evWA, Nat.reduceBEq, Nat.reduceAdd, Nat.reduceSub, Nat.reduceLeDiff, Nat.reduceLT, implies_true, and_self, Int.natCast_zero, Int.natCast_one, Int.cast_ofNat_Int, evV, encInts, encNats, encBools, encP, Rd.cells, encB]) <;> exact fin1) ?_
        rintro v' H' nx' ⟨rfl, rfl, rfl⟩
        refine ⟨?_, ?_⟩; (· (repeat (first | (simp (disch := first | exact dis1 | fail) only [evA, Nat.reduceBEq, Nat.reduceAdd, Nat.reduceLeDiff, boxR, rboxR, allocR, fldR, binI, unR, pickR, mknilR, mkslR, buildSlR, buildR, extR, convI, eqB, evU, wrap64, rowsLt, elsLt_cons, AV.lt1, AV.lt0, AH.sort, AH.ins, Nat.reduceEqDiff, Nat.reduceLT, if_true, if_false, reduceIte, and_true, true_and, Rd.ren]) | (with_reducible intro _) | ((with_reducible apply And.intro); omega))) <;> ((repeat' with_reducible apply And.intro) <;> first | rfl | omega | exact elsLt_nil | (refine elsLt_map ?_; intro _; rfl) | fail)); (repeat (first | (simp (disch := first | exact dis1 | fail) only [evA, Nat.reduceBEq, Nat.reduceAdd, Nat.reduceLeDiff, boxR, rboxR, allocR, fldR, binI, unR, pickR, mknilR, mkslR, buildSlR, buildR, extR, convI, eqB, evU, wrap64, AH.sort, AH.ins, Nat.reduceEqDiff, Nat.reduceLT, if_true, if_false, reduceIte, Rd.ren]) | (with_reducible intro _) | ((with_reducible apply And.intro); omega)))
        exact ⟨(), Ent.keep rfl (by (try simp [subK, Kn.get, beq_eq]) <;> (repeat' with_reducible apply And.intro) <;> first | rfl | omega | (simp; done))⟩
    · have d1 : decide (q2.e = 0) = false := decide_eq_false hq
      rw [if_neg (fun h => hq h.1)]
      (repeat (first | (simp (disch := first | exact dis1 | fail) only [evA, Nat.reduceBEq, Nat.reduceAdd, Nat.reduceLeDiff, boxR, rboxR, allocR, fldR, binI, unR, pickR, mknilR, mkslR, buildSlR, buildR, extR, convI, eqB, evU, wrap64, hee, hel, d1]) | (with_reducible intro _) | ((with_reducible apply And.intro); omega)))
      exact ⟨(), Ent.keep rfl (by (try simp [subK, Kn.get, beq_eq]) <;> (repeat' with_reducible apply And.intro) <;> first | rfl | omega | (simp; done))⟩
  rintro ⟨⟩ _ wf
  unfold ac_object_Decode_k1
  have f0 : (magicP b).fine := magicP_fine hb
  have fb : (magicP b).b = b := magicP_b
  generalize magicP b = m at *
  obtain ⟨en, hen, e1⟩ := Rd.number_small m 4
  obtain ⟨m1, hm1⟩ : ∃ x, x = (m.number 4).2 := ⟨_, rfl⟩
  obtain ⟨nS, hnS, e2⟩ := Rd.number_small m1 1
  obtain ⟨m2, hm2⟩ : ∃ x, x = (m1.number 1).2 := ⟨_, rfl⟩
  obtain ⟨nY, hnY, e3⟩ := Rd.number_small m2 2
  obtain ⟨m3, hm3⟩ : ∃ x, x = (m2.number 2).2 := ⟨_, rfl⟩
  obtain ⟨nR, hnR, e4⟩ := Rd.number_small m3 2
  obtain ⟨m4, hm4⟩ : ∃ x, x = (m3.number 2).2 := ⟨_, rfl⟩
  have f1 : m1.fine := by rw [hm1]; exact Rd.number_fine f0 (by decide)
  have f2 : m2.fine := by rw [hm2]; exact Rd.number_fine f1 (by decide)
  have f3 : m3.fine := by rw [hm3]; exact Rd.number_fine f2 (by decide)
  have f4 : m4.fine := by rw [hm4]; exact Rd.number_fine f3 (by decide)
  have k1 := position_number_ok m 4 f0.toOk (by decide)
  have k2 := position_number_ok m1 1 f1.toOk (by decide)
  have k3 := position_number_ok m2 2 f2.toOk (by decide)
  have k4 := position_number_ok m3 2 f3.toOk (by decide)
  have hc : m.cnts = (⟨en, nS, nY, nR⟩, m4) := by
    unfold Rd.cnts
    simp only [← hm1, ← hm2, ← hm3, ← hm4, e1, e2, e3, e4, Int.toNat_natCast]
  rw [e1, ← hm1] at k1
  rw [e2, ← hm2] at k2
  rw [e3, ← hm3] at k3
  rw [e4, ← hm4] at k4
  obtain ⟨S, hS⟩ : ∃ x, x = (Rd.secsP nS m4).1 := ⟨_, rfl⟩
  obtain ⟨m5, hm5⟩ : ∃ x, x = (Rd.secsP nS m4).2 := ⟨_, rfl⟩
  obtain ⟨Y, hY⟩ : ∃ x, x = (Rd.syms nY m5).1 := ⟨_, rfl⟩
  obtain ⟨m6, hm6⟩ : ∃ x, x = (Rd.syms nY m5).2 := ⟨_, rfl⟩
  obtain ⟨R, hR⟩ : ∃ x, x = (Rd.rels nR m6).1 := ⟨_, rfl⟩
  obtain ⟨m7, hm7⟩ : ∃ x, x = (Rd.rels nR m6).2 := ⟨_, rfl⟩
  have f5 : m5.fine := by rw [hm5]; exact secsP_fine _ _ f4
  have f6 : m6.fine := by rw [hm6]; exact syms_fine _ _ f5
  have f7 : m7.fine := by rw [hm7]; exact rels_fine _ _ f6
  have hbody : bodyR Rd.secsP m = (⟨UInt32.ofNat en, S, Y, R⟩, m7) := by
    unfold bodyR
    simp only [hc, ← hS, ← hm5, ← hY, ← hm6, ← hR, ← hm7]
  have b7 : m7.b = b := by rw [hm7, rels_b, hm6, syms_b, hm5, secsP_b, hm4, Rd.number_b, hm3, Rd.number_b, hm2, Rd.number_b, hm1, Rd.number_b, fb]
  have iS := secsP_in nS m4
  have iY := syms_in nY m5
  have iR := rels_in nR m6
  rw [← hS] at iS
  rw [← hY] at iY
  rw [← hR] at iR
  rw [hbody]
  simp only
  simp only [show (256 : Nat) ^ 1 = 256 from rfl, show (256 : Nat) ^ 2 = 65536 from rfl, show (256 : Nat) ^ 4 = 4294967296 from rfl] at hen hnS hnY hnR
  have k5 := object_reader_sections_ok m4 nS en [] [] [] 0 0 0 f4 (by omega) (by decide)
  have k6 := object_reader_symbols_ok m5 nY en S [] [] S.length 0 0 f5 (by omega) (by decide)
  have k7 := object_reader_relocs_ok m6 nR en S Y [] S.length Y.length 0 f6 (by omega) (by decide)
  rw [← hS, ← hm5] at k5
  rw [← hY, ← hm6] at k6
  rw [← hR, ← hm7] at k7
  simp only [List.nil_append, Nat.zero_add] at k5 k6 k7
  clear hm1 hm2 hm3 hm4 hm5 hm6 hm7 hS hY hR hbody hc e1 e2 e3 e4
  (repeat (first | (simp (disch := first | exact dis1 | fail) only [evA, Nat.reduceBEq, Nat.reduceAdd, Nat.reduceLeDiff, boxR, rboxR, allocR, fldR, binI, unR, pickR, mknilR, mkslR, buildSlR, buildR, extR, convI, eqB, evU, wrap64, encB]) | (with_reducible intro _) | ((with_reducible apply And.intro); omega)))
  refine call_lows 3 rfl ?_; refine call_own [(0, 1, 0)] 1 _ (k1) rfl rfl (by (try simp only [evWA, Nat.reduceBEq, Nat.reduceAdd, Nat.reduceSub, Nat.reduceLeDiff, Nat.reduceLT, implies_true, and_self, Int.natCast_zero, Int.natCast_one, Int.cast_ofNat_Int, evV, encInts, encNats, encBools, encP, Rd.cells, encB]) <;> exact fin1) (by (try simp only [evWA, Nat.reduceBEq, Nat.reduceAdd, Nat.reduceSub, Nat.reduceLeDiff, Nat.reduceLT, implies_true, and_self, Int.natCast_zero, Int.natCast_one, Int.cast_ofNat_Int, evV, encInts, encNats, encBools, encP, Rd.cells, encB]) <;> exact fin1) ?_
  rintro v' H' nx' ⟨rfl, rfl, rfl⟩
  refine ⟨?_, ?_⟩; (· (repeat (first | (simp (disch := first | exact dis1 | fail) only [evA, Nat.reduceBEq, Nat.reduceAdd, Nat.reduceLeDiff, boxR, rboxR, allocR, fldR, binI, unR, pickR, mknilR, mkslR, buildSlR, buildR, extR, convI, eqB, evU, wrap64, rowsLt, elsLt_cons, AV.lt1, AV.lt0, AH.sort, AH.ins, Nat.reduceEqDiff, Nat.reduceLT, if_true, if_false, reduceIte, and_true, true_and, Rd.ren]) | (with_reducible intro _) | ((with_reducible apply And.intro); omega))) <;> ((repeat' with_reducible apply And.intro) <;> first | rfl | omega | exact elsLt_nil | (refine elsLt_map ?_; intro _; rfl) | fail)); (repeat (first | (simp (disch := first | exact dis1 | fail) only [evA, Nat.reduceBEq, Nat.reduceAdd, Nat.reduceLeDiff, boxR, rboxR, allocR, fldR, binI, unR, pickR, mknilR, mkslR, buildSlR, buildR, extR, convI, eqB, evU, wrap64, AH.sort, AH.ins, Nat.reduceEqDiff, Nat.reduceLT, if_true, if_false, reduceIte, Rd.ren]) | (with_reducible intro _) | ((with_reducible apply And.intro); omega)))
  refine draw_det dr_object_Decode_0_Ls dr_object_Decode_0_A dr_object_Decode_0_St dr_object_Decode_0_plan [(53, .ptr 2 0 0 0 0), (54, .ptr 2 0 0 0 0), (55, .ptr 2 0 0 0 0), (56, .ptr 1 0 0 0 0), (57, .int .u32 nS), (58, .ptr 2 0 0 0 0), (59, .ptr 2 0 0 0 0), (60, .ptr 2 0 0 0 0), (61, .ptr 1 0 0 0 0), (62, .int .u32 nY), (63, .ptr 2 0 0 0 0), (64, .ptr 2 0 0 0 0), (65, .ptr 2 0 0 0 0), (66, .ptr 1 0 0 0 0), (67, .int .u32 nR), (6, .int .u32 nS), (7, .int .u32 nY), (8, .int .u32 nR)] (hsOf [([(0, .row 4 [[.int .u32 0, .nilsl, .nilsl, .nilsl]] 0), (1, .row 3 [m1.cells] 0), (2, .row 5 [[.ptr 1 0 0 0 0, .int .u32 en, .nilsl, .nilsl, .nilsl]] 0)], 3), ([(0, .row 4 [[.int .u32 0, .nilsl, .nilsl, .nilsl]] 0), (1, .row 3 [m2.cells] 0), (2, .row 5 [[.ptr 1 0 0 0 0, .int .u32 en, .nilsl, .nilsl, .nilsl]] 0)], 3), ([(0, .row 4 [[.int .u32 0, .nilsl, .nilsl, .nilsl]] 0), (1, .row 3 [m3.cells] 0), (2, .row 5 [[.ptr 1 0 0 0 0, .int .u32 en, .nilsl, .nilsl, .nilsl]] 0)], 3), ([(0, .row 4 [[.int .u32 0, .nilsl, .nilsl, .nilsl]] 0), (1, .row 3 [m4.cells] 0), (2, .row 5 [[.ptr 1 0 0 0 0, .int .u32 en, .nilsl, .nilsl, .nilsl]] 0)], 3)]) (by kernel_rfl) (by rfl) (by rfl) (by repeat' first | exact QExt.retK | apply QExt.seq | apply QExt.block | apply QExt.loop | apply QExt.join | assumption) ?plan [(6, .int .u32 nS), (7, .int .u32 nY), (8, .int .u32 nR)] (by rfl) ?fin
  case' plan =>
    intro Kf hs hK hH
    have kf53 : Kf.get 53 = .ptr 2 0 0 0 0 := by rw [hK, setAll_look]; rfl
    have kf54 : Kf.get 54 = .ptr 2 0 0 0 0 := by rw [hK, setAll_look]; rfl
    have kf55 : Kf.get 55 = .ptr 2 0 0 0 0 := by rw [hK, setAll_look]; rfl
    have kf56 : Kf.get 56 = .ptr 1 0 0 0 0 := by rw [hK, setAll_look]; rfl
    have kf57 : Kf.get 57 = .int .u32 nS := by rw [hK, setAll_look]; rfl
    have kf58 : Kf.get 58 = .ptr 2 0 0 0 0 := by rw [hK, setAll_look]; rfl
    have kf59 : Kf.get 59 = .ptr 2 0 0 0 0 := by rw [hK, setAll_look]; rfl
    have kf60 : Kf.get 60 = .ptr 2 0 0 0 0 := by rw [hK, setAll_look]; rfl
    have kf61 : Kf.get 61 = .ptr 1 0 0 0 0 := by rw [hK, setAll_look]; rfl
    have kf62 : Kf.get 62 = .int .u32 nY := by rw [hK, setAll_look]; rfl
    have kf63 : Kf.get 63 = .ptr 2 0 0 0 0 := by rw [hK, setAll_look]; rfl
    have kf64 : Kf.get 64 = .ptr 2 0 0 0 0 := by rw [hK, setAll_look]; rfl
    have kf65 : Kf.get 65 = .ptr 2 0 0 0 0 := by rw [hK, setAll_look]; rfl
    have kf66 : Kf.get 66 = .ptr 1 0 0 0 0 := by rw [hK, setAll_look]; rfl
    have kf67 : Kf.get 67 = .int .u32 nR := by rw [hK, setAll_look]; rfl
    have kf6 : Kf.get 6 = .int .u32 nS := by rw [hK, setAll_look]; rfl
    have kf7 : Kf.get 7 = .int .u32 nY := by rw [hK, setAll_look]; rfl
    have kf8 : Kf.get 8 = .int .u32 nR := by rw [hK, setAll_look]; rfl
    have kf4 : Kf.get 4 = .ptr 2 0 0 0 0 := by rw [hK, setAll_look]; rfl
    simp only [dr_object_Decode_0_plan, planP_cons, planP_nil, and_true]
    (repeat' with_reducible apply And.intro)
    all_goals (rw [hH]; simp only [stepC, dr_object_Decode_0_ops, List.getD_cons_succ, List.getD_cons_zero, hsOf, hsAt, beqL, beq_eq, Nat.reduceBEq, Bool.and_true, Bool.true_and, Bool.and_false, Bool.false_and, cond_true, cond_false, List.length_cons, List.length_nil, Nat.reduceAdd])
    all_goals try (simp (disch := first | exact dis1 | fail) only [evA, Nat.reduceBEq, Nat.reduceAdd, Nat.reduceLeDiff, boxR, rboxR, allocR, fldR, binI, unR, pickR, mknilR, mkslR, buildSlR, buildR, extR, convI, eqB, evU, wrap64, dstEq_set, dstEq_none, kf53, kf54, kf55, kf56, kf57, kf58, kf59, kf60, kf61, kf62, kf63, kf64, kf65, kf66, kf67, kf6, kf7, kf8, kf4, hel]; done)
  case' fin => simp only [dr_object_Decode_0_Ls, hsOf, hsAt, beqL, beq_eq, Nat.reduceBEq, Bool.and_true, Bool.true_and, Bool.and_false, Bool.false_and, cond_true, cond_false, List.length_cons, List.length_nil, Nat.reduceAdd, List.getD_cons_succ, List.getD_cons_zero, setAll]
  · (repeat (first | (simp (disch := first | exact dis1 | fail) only [evA, Nat.reduceBEq, Nat.reduceAdd, Nat.reduceLeDiff, boxR, rboxR, allocR, fldR, binI, unR, pickR, mknilR, mkslR, buildSlR, buildR, extR, convI, eqB, evU, wrap64]) | (with_reducible intro _) | ((with_reducible apply And.intro); omega)))
    refine call_lows 8 rfl ?_
    refine call_own [(0, 1, 0), (1, 2, 0)] 5 _ k5 rfl rfl ?_ ?_ ?_
    · simp only [evWA, Nat.reduceBEq, Nat.reduceAdd, Nat.reduceSub, Nat.reduceLeDiff, Nat.reduceLT, implies_true, and_self, Int.natCast_zero, Int.natCast_one, Int.cast_ofNat_Int, evV, encInts, encNats, encBools, encP, rdH, List.length_nil, List.map_nil, Rd.cells, encB]
      exact ⟨⟨_, rfl⟩, ⟨_, rfl⟩, ⟨_, rfl⟩⟩
    · simp only [evWA, Nat.reduceBEq, Nat.reduceAdd, Nat.reduceSub, Nat.reduceLeDiff, Nat.reduceLT, implies_true, and_self, Int.natCast_zero, Int.natCast_one, Int.cast_ofNat_Int, evV, encInts, encNats, encBools, encP, rdH, List.length_nil, List.map_nil]
    rintro v' H' nx' ⟨rfl, rfl, rfl⟩
    simp only [rdH]
    refine ⟨?_, ?_⟩; (· (repeat (first | (simp (disch := first | exact dis1 | fail) only [evA, Nat.reduceBEq, Nat.reduceAdd, Nat.reduceLeDiff, boxR, rboxR, allocR, fldR, binI, unR, pickR, mknilR, mkslR, buildSlR, buildR, extR, convI, eqB, evU, wrap64, rowsLt, elsLt_cons, AV.lt1, AV.lt0, AH.sort, AH.ins, Nat.reduceEqDiff, Nat.reduceLT, if_true, if_false, reduceIte, and_true, true_and, Rd.ren, ren_secs, ren_syms, ren_rels]) | (with_reducible intro _) | ((with_reducible apply And.intro); omega))) <;> ((repeat' with_reducible apply And.intro) <;> first | rfl | omega | exact elsLt_nil | (refine elsLt_map ?_; intro _; rfl) | fail)); (repeat (first | (simp (disch := first | exact dis1 | fail) only [evA, Nat.reduceBEq, Nat.reduceAdd, Nat.reduceLeDiff, boxR, rboxR, allocR, fldR, binI, unR, pickR, mknilR, mkslR, buildSlR, buildR, extR, convI, eqB, evU, wrap64, AH.sort, AH.ins, Nat.reduceEqDiff, Nat.reduceLT, if_true, if_false, reduceIte, Rd.ren, ren_secs, ren_syms, ren_rels]) | (with_reducible intro _) | ((with_reducible apply And.intro); omega)))
    refine call_lows 8 rfl ?_
    refine call_own [(0, 1, 0), (1, 2, 0), (2, 5, 0), (3, 6, 0), (4, 7, 0)] 5 _ k6 rfl rfl ?_ ?_ ?_
    · simp only [evWA, Nat.reduceBEq, Nat.reduceAdd, Nat.reduceSub, Nat.reduceLeDiff, Nat.reduceLT, implies_true, and_self, Int.natCast_zero, Int.natCast_one, Int.cast_ofNat_Int, evV, encInts, encNats, encBools, encP, rdH, List.length_nil, List.map_nil, Rd.cells, encB]
      exact RowV.of_flat (flat_map fun _ => rfl)
    · simp only [evWA, Nat.reduceBEq, Nat.reduceAdd, Nat.reduceSub, Nat.reduceLeDiff, Nat.reduceLT, implies_true, and_self, Int.natCast_zero, Int.natCast_one, Int.cast_ofNat_Int, evV, encInts, encNats, encBools, encP, rdH, List.length_nil, List.map_nil]
    rintro v' H' nx' ⟨rfl, rfl, rfl⟩
    simp only [rdH]
    refine ⟨?_, ?_⟩; (· (repeat (first | (simp (disch := first | exact dis1 | fail) only [evA, Nat.reduceBEq, Nat.reduceAdd, Nat.reduceLeDiff, boxR, rboxR, allocR, fldR, binI, unR, pickR, mknilR, mkslR, buildSlR, buildR, extR, convI, eqB, evU, wrap64, rowsLt, elsLt_cons, AV.lt1, AV.lt0, AH.sort, AH.ins, Nat.reduceEqDiff, Nat.reduceLT, if_true, if_false, reduceIte, and_true, true_and, Rd.ren, ren_secs, ren_syms, ren_rels]) | (with_reducible intro _) | ((with_reducible apply And.intro); omega))) <;> ((repeat' with_reducible apply And.intro) <;> first | rfl | omega | exact elsLt_nil | (refine elsLt_map ?_; intro _; rfl) | fail)); (repeat (first | (simp (disch := first | exact dis1 | fail) only [evA, Nat.reduceBEq, Nat.reduceAdd, Nat.reduceLeDiff, boxR, rboxR, allocR, fldR, binI, unR, pickR, mknilR, mkslR, buildSlR, buildR, extR, convI, eqB, evU, wrap64, AH.sort, AH.ins, Nat.reduceEqDiff, Nat.reduceLT, if_true, if_false, reduceIte, Rd.ren, ren_secs, ren_syms, ren_rels]) | (with_reducible intro _) | ((with_reducible apply And.intro); omega)))
    refine call_lows 8 rfl ?_
    refine call_own [(0, 1, 0), (1, 2, 0), (2, 5, 0), (3, 6, 0), (4, 7, 0)] 5 _ k7 rfl rfl ?_ ?_ ?_
    · simp only [evWA, Nat.reduceBEq, Nat.reduceAdd, Nat.reduceSub, Nat.reduceLeDiff, Nat.reduceLT, implies_true, and_self, Int.natCast_zero, Int.natCast_one, Int.cast_ofNat_Int, evV, encInts, encNats, encBools, encP, rdH, List.length_nil, List.map_nil, Rd.cells, encB]
      exact ⟨RowV.of_flat (flat_map fun _ => rfl), RowV.of_flat (flat_map fun _ => rfl)⟩
    · simp only [evWA, Nat.reduceBEq, Nat.reduceAdd, Nat.reduceSub, Nat.reduceLeDiff, Nat.reduceLT, implies_true, and_self, Int.natCast_zero, Int.natCast_one, Int.cast_ofNat_Int, evV, encInts, encNats, encBools, encP, rdH, List.length_nil, List.map_nil]
    rintro v' H' nx' ⟨rfl, rfl, rfl⟩
    simp only [rdH]
    refine ⟨?_, ?_⟩; (· (repeat (first | (simp (disch := first | exact dis1 | fail) only [evA, Nat.reduceBEq, Nat.reduceAdd, Nat.reduceLeDiff, boxR, rboxR, allocR, fldR, binI, unR, pickR, mknilR, mkslR, buildSlR, buildR, extR, convI, eqB, evU, wrap64, rowsLt, elsLt_cons, AV.lt1, AV.lt0, AH.sort, AH.ins, Nat.reduceEqDiff, Nat.reduceLT, if_true, if_false, reduceIte, and_true, true_and, Rd.ren, ren_secs, ren_syms, ren_rels]) | (with_reducible intro _) | ((with_reducible apply And.intro); omega))) <;> ((repeat' with_reducible apply And.intro) <;> first | rfl | omega | exact elsLt_nil | (refine elsLt_map ?_; intro _; rfl) | fail)); (repeat (first | (simp (disch := first | exact dis1 | fail) only [evA, Nat.reduceBEq, Nat.reduceAdd, Nat.reduceLeDiff, boxR, rboxR, allocR, fldR, binI, unR, pickR, mknilR, mkslR, buildSlR, buildR, extR, convI, eqB, evU, wrap64, AH.sort, AH.ins, Nat.reduceEqDiff, Nat.reduceLT, if_true, if_false, reduceIte, Rd.ren, ren_secs, ren_syms, ren_rels]) | (with_reducible intro _) | ((with_reducible apply And.intro); omega)))
    obtain ⟨sm, hsm, e8⟩ := Rd.number_val m7 (w := 4) (by decide)
    have k8 := position_number_ok m7 4 f7.toOk (by decide)
    obtain ⟨m8, hm8⟩ : ∃ x, x = (m7.number 4).2 := ⟨_, rfl⟩
    rw [e8, ← hm8] at k8
    (repeat (first | (simp (disch := first | exact dis1 | fail) only [evA, Nat.reduceBEq, Nat.reduceAdd, Nat.reduceLeDiff, boxR, rboxR, allocR, fldR, binI, unR, pickR, mknilR, mkslR, buildSlR, buildR, extR, convI, eqB, evU, wrap64, hpp, hel]) | (with_reducible intro _) | ((with_reducible apply And.intro); omega)))
    refine call_lows 8 rfl ?_; refine call_own [(0, 1, 0)] 1 _ (k8) rfl rfl (by (try simp only [evWA, Nat.reduceBEq, Nat.reduceAdd, Nat.reduceSub, Nat.reduceLeDiff, Nat.reduceLT, implies_true, and_self, Int.natCast_zero, Int.natCast_one, Int.cast_ofNat_Int, evV, encInts, encNats, encBools, encP, Rd.cells, encB]) <;> exact fin1) (by (try simp only [evWA, Nat.reduceBEq, Nat.reduceAdd, Nat.reduceSub, Nat.reduceLeDiff, Nat.reduceLT, implies_true, and_self, Int.natCast_zero, Int.natCast_one, Int.cast_ofNat_Int, evV, encInts, encNats, encBools, encP, Rd.cells, encB]) <;> exact fin1) ?_
    rintro v' H' nx' ⟨rfl, rfl, rfl⟩
    refine ⟨?_, ?_⟩; (· (repeat (first | (simp (disch := first | exact dis1 | fail) only [evA, Nat.reduceBEq, Nat.reduceAdd, Nat.reduceLeDiff, boxR, rboxR, allocR, fldR, binI, unR, pickR, mknilR, mkslR, buildSlR, buildR, extR, convI, eqB, evU, wrap64, rowsLt, elsLt_cons, AV.lt1, AV.lt0, AH.sort, AH.ins, Nat.reduceEqDiff, Nat.reduceLT, if_true, if_false, reduceIte, and_true, true_and, Rd.ren, ren_secs, ren_syms, ren_rels, hee, hel]) | (with_reducible intro _) | ((with_reducible apply And.intro); omega))) <;> ((repeat' with_reducible apply And.intro) <;> first | rfl | omega | exact elsLt_nil | (refine elsLt_map ?_; intro _; rfl) | fail)); (repeat (first | (simp (disch := first | exact dis1 | fail) only [evA, Nat.reduceBEq, Nat.reduceAdd, Nat.reduceLeDiff, boxR, rboxR, allocR, fldR, binI, unR, pickR, mknilR, mkslR, buildSlR, buildR, extR, convI, eqB, evU, wrap64, AH.sort, AH.ins, Nat.reduceEqDiff, Nat.reduceLT, if_true, if_false, reduceIte, Rd.ren, ren_secs, ren_syms, ren_rels, hee, hel]) | (with_reducible intro _) | ((with_reducible apply And.intro); omega)))
    by_cases h8 : m8.e = 0
    case neg =>
      have d1 : decide (m8.e ≠ 0) = true := decide_eq_true h8
      have ht : tailR b ⟨UInt32.ofNat en, S, Y, R⟩ m7 = (emptyB, m8.e) := by rw [hm8] at h8 ⊢; exact tailR_err h8
      rw [ht]
      (repeat (first | (simp (disch := first | exact dis1 | fail) only [evA, Nat.reduceBEq, Nat.reduceAdd, Nat.reduceLeDiff, boxR, rboxR, allocR, fldR, binI, unR, pickR, mknilR, mkslR, buildSlR, buildR, extR, convI, eqB, evU, wrap64, d1, hee, hel, rs_object_Decode]) | (with_reducible intro _) | ((with_reducible apply And.intro); omega)))
      exact ⟨⟨⟨_, empty_frz, rfl⟩, ⟨_, empty_frz, rfl⟩⟩, ⟨_, empty_frz, rfl⟩⟩
    have d1 : decide (m8.e ≠ 0) = false := decide_eq_false (fun h => h h8)
    obtain ⟨q1, q2, q3, q4⟩ := Rd.number_e0 (r := m7) (w := 4) (by rw [← hm8]; exact h8)
    rw [b7] at q3 q4
    rw [← hm8] at q4
    have hp8 : m8.p = m7.p + 4 := by rw [q4]; rfl
    obtain ⟨z, hz⟩ : ∃ z : Nat, m7.p = z := ⟨m7.p.toNat, by omega⟩
    rw [hz] at q3 hp8
    (repeat (first | (simp (disch := first | exact dis1 | fail) only [evA, Nat.reduceBEq, Nat.reduceAdd, Nat.reduceLeDiff, boxR, rboxR, allocR, fldR, binI, unR, pickR, mknilR, mkslR, buildSlR, buildR, extR, convI, eqB, evU, wrap64, d1, hee, hel, hz, hpp, sliceR_to]) | (with_reducible intro _) | ((with_reducible apply And.intro); omega)))
    have hck := object_Checksum_ok (b.take z) (by rw [List.length_take]; omega)
    have hzz : m7.p.toNat = z := by rw [hz]; rfl
    have h80 : (m7.number 4).2.e = 0 := by rw [← hm8]; exact h8
    have hsl : Vw [(0, AObj.row 4 [[.int .u32 0, .nilsl, .nilsl, .nilsl]] 0), (1, AObj.row 3 [m8.cells] 0)] [] nos noR false (.sl 1 ((z : Int) - 0).toNat fun i j => ((List.map cByte b).getD (Int.toNat 0 + i) []).getD j .undef) (encB (b.take z)) := vw_cut (l := b) (z := 0) (n := z) (by omega)
    refine callX_fix (call_fix (D := noR) hck (.cons (vw_cut (l := b) (z := 0) (n := z) (by omega)) .nil) (.inl rfl)) ?_
    have hif : (m7.number 4).1 = (sm : Int) := e8
    have ht1 := @tailR_bad b ⟨UInt32.ofNat en, S, Y, R⟩ m7 h80
    have ht2 := @tailR_check b ⟨UInt32.ofNat en, S, Y, R⟩ m7 h80
    have ht3 := @tailR_good b ⟨UInt32.ofNat en, S, Y, R⟩ m7 h80
    rw [hif, hzz, ← hm8, hp8] at ht1 ht2 ht3
    generalize sumK (b.take z) (b.take z).length = su at *
    by_cases hsu : (sm : Int) = su
    case neg =>
      have d2 : decide ((sm : Int) ≠ su) = true := decide_eq_true hsu
      rw [ht1 (.inl hsu)]
      (repeat (first | (simp (disch := first | exact dis1 | fail) only [evA, Nat.reduceBEq, Nat.reduceAdd, Nat.reduceLeDiff, boxR, rboxR, allocR, fldR, binI, unR, pickR, mknilR, mkslR, buildSlR, buildR, extR, convI, eqB, evU, wrap64, d2, hee, hel, rs_object_Decode]) | (with_reducible intro _) | ((with_reducible apply And.intro); omega)))
      exact ⟨_, empty_frz, rfl⟩
    have d2 : decide ((sm : Int) ≠ su) = false := decide_eq_false (fun h => h hsu)
    (repeat (first | (simp (disch := first | exact dis1 | fail) only [evA, Nat.reduceBEq, Nat.reduceAdd, Nat.reduceLeDiff, boxR, rboxR, allocR, fldR, binI, unR, pickR, mknilR, mkslR, buildSlR, buildR, extR, convI, eqB, evU, wrap64, d2, hee, hel, hpp, hp8]) | (with_reducible intro _) | ((with_reducible apply And.intro); omega)))
    by_cases hpl : (z : Int) + 4 = b.length
    case neg =>
      have d3 : decide ((z : Int) + 4 ≠ b.length) = true := decide_eq_true hpl
      rw [ht1 (.inr hpl)]
      (repeat (first | (simp (disch := first | exact dis1 | fail) only [evA, Nat.reduceBEq, Nat.reduceAdd, Nat.reduceLeDiff, boxR, rboxR, allocR, fldR, binI, unR, pickR, mknilR, mkslR, buildSlR, buildR, extR, convI, eqB, evU, wrap64, d3, hee, hel, rs_object_Decode]) | (with_reducible intro _) | ((with_reducible apply And.intro); omega)))
      exact ⟨_, empty_frz, rfl⟩
    have d3 : decide ((z : Int) + 4 ≠ b.length) = false := decide_eq_false (fun h => h hpl)
    (repeat (first | (simp (disch := first | exact dis1 | fail) only [evA, Nat.reduceBEq, Nat.reduceAdd, Nat.reduceLeDiff, boxR, rboxR, allocR, fldR, binI, unR, pickR, mknilR, mkslR, buildSlR, buildR, extR, convI, eqB, evU, wrap64, d3, hee, hel, hpp, hp8]) | (with_reducible intro _) | ((with_reducible apply And.intro); omega)))
    have hok : (⟨UInt32.ofNat en, S, Y, R⟩ : Bin).okN := ⟨fun s hs => by have := iS.2 s hs; show _ ≤ big; omega, fun s hs => by have := iY.2 s hs; show _ ≤ big; omega, by have := iY.1; show Y.length ≤ _; omega, by show R.length ≤ _; omega⟩
    have hchk := object_Check_ok _ hok
    have lS := iS.1
    have lY := iY.1
    refine callX_fix (call_fix (D := allR) hchk (.cons (vw_bin hen trivial trivial trivial rfl rfl rfl (by omega) (by omega) (by omega)) .nil) (.inl rfl)) ?_
    generalize hcc : checkO _ = c at *
    by_cases hc0 : c = 0
    case neg =>
      have d4 : decide (c ≠ 0) = true := decide_eq_true hc0
      rw [ht2 (by rintro (h | h); exact h hsu; exact h hpl) hc0]
      (repeat (first | (simp (disch := first | exact dis1 | fail) only [evA, Nat.reduceBEq, Nat.reduceAdd, Nat.reduceLeDiff, boxR, rboxR, allocR, fldR, binI, unR, pickR, mknilR, mkslR, buildSlR, buildR, extR, convI, eqB, evU, wrap64, d4, hee, hel, rs_object_Decode]) | (with_reducible intro _) | ((with_reducible apply And.intro); omega)))
      exact ⟨_, empty_frz, rfl⟩
    have d4 : decide (c ≠ 0) = false := decide_eq_false (fun h => h hc0)
    rw [ht3 (by rintro (h | h); exact h hsu; exact h hpl) hc0]
    (repeat (first | (simp (disch := first | exact dis1 | fail) only [evA, Nat.reduceBEq, Nat.reduceAdd, Nat.reduceLeDiff, boxR, rboxR, allocR, fldR, binI, unR, pickR, mknilR, mkslR, buildSlR, buildR, extR, convI, eqB, evU, wrap64, d4, hee, hel, rs_object_Decode]) | (with_reducible intro _) | ((with_reducible apply And.intro); omega)))
    exact ⟨rfl, _, frz_pair (a := .agg [.int .u32 en, .own 5 0 S.length 0 S.length, .own 6 0 Y.length 0 Y.length, .own 7 0 R.length 0 R.length]) (vw_bin hen trivial trivial trivial rfl rfl rfl (by omega) (by omega) (by omega)), rfl⟩
  · (repeat (first | (simp (disch := first | exact dis1 | fail) only [evA, Nat.reduceBEq, Nat.reduceAdd, Nat.reduceLeDiff, boxR, rboxR, allocR, fldR, binI, unR, pickR, mknilR, mkslR, buildSlR, buildR, extR, convI, eqB, evU, wrap64, kf56]) | (with_reducible intro _) | ((with_reducible apply And.intro); omega)))
    refine call_lows 3 rfl ?_; refine call_own [(0, 1, 0)] 1 _ (k2) rfl rfl (by (try simp only [evWA, Nat.reduceBEq, Nat.reduceAdd, Nat.reduceSub, Nat.reduceLeDiff, Nat.reduceLT, implies_true, and_self, Int.natCast_zero, Int.natCast_one, Int.cast_ofNat_Int, evV, encInts, encNats, encBools, encP, Rd.cells, encB]) <;> exact fin1) (by (try simp only [evWA, Nat.reduceBEq, Nat.reduceAdd, Nat.reduceSub, Nat.reduceLeDiff, Nat.reduceLT, implies_true, and_self, Int.natCast_zero, Int.natCast_one, Int.cast_ofNat_Int, evV, encInts, encNats, encBools, encP, Rd.cells, encB]) <;> exact fin1) ?_
    rintro v' H' nx' ⟨rfl, rfl, rfl⟩
    (repeat (first | (simp (disch := first | exact dis1 | fail) only [evA, Nat.reduceBEq, Nat.reduceAdd, Nat.reduceLeDiff, boxR, rboxR, allocR, fldR, binI, unR, pickR, mknilR, mkslR, buildSlR, buildR, extR, convI, eqB, evU, wrap64, Rd.ren]) | (with_reducible intro _) | ((with_reducible apply And.intro); omega)))
    ((repeat (first | (simp (disch := first | exact dis1 | fail) only [evA, Nat.reduceBEq, Nat.reduceAdd, Nat.reduceLeDiff, boxR, rboxR, allocR, fldR, binI, unR, pickR, mknilR, mkslR, buildSlR, buildR, extR, convI, eqB, evU, wrap64, dstEq_set, dstEq_none, rowsLt, elsLt_cons, AV.lt1, AV.lt0, AH.sort, AH.ins, Nat.reduceEqDiff, Nat.reduceLT, if_true, if_false, reduceIte, and_true, true_and, kf57]) | (with_reducible intro _) | ((with_reducible apply And.intro); omega))); try ((repeat' with_reducible apply And.intro) <;> first | rfl | omega | exact elsLt_nil | exact elsLt_map (fun _ => rfl)))
  · (repeat (first | (simp (disch := first | exact dis1 | fail) only [evA, Nat.reduceBEq, Nat.reduceAdd, Nat.reduceLeDiff, boxR, rboxR, allocR, fldR, binI, unR, pickR, mknilR, mkslR, buildSlR, buildR, extR, convI, eqB, evU, wrap64, kf61]) | (with_reducible intro _) | ((with_reducible apply And.intro); omega)))
    refine call_lows 3 rfl ?_; refine call_own [(0, 1, 0)] 1 _ (k3) rfl rfl (by (try simp only [evWA, Nat.reduceBEq, Nat.reduceAdd, Nat.reduceSub, Nat.reduceLeDiff, Nat.reduceLT, implies_true, and_self, Int.natCast_zero, Int.natCast_one, Int.cast_ofNat_Int, evV, encInts, encNats, encBools, encP, Rd.cells, encB]) <;> exact fin1) (by (try simp only [evWA, Nat.reduceBEq, Nat.reduceAdd, Nat.reduceSub, Nat.reduceLeDiff, Nat.reduceLT, implies_true, and_self, Int.natCast_zero, Int.natCast_one, Int.cast_ofNat_Int, evV, encInts, encNats, encBools, encP, Rd.cells, encB]) <;> exact fin1) ?_
    rintro v' H' nx' ⟨rfl, rfl, rfl⟩
    (repeat (first | (simp (disch := first | exact dis1 | fail) only [evA, Nat.reduceBEq, Nat.reduceAdd, Nat.reduceLeDiff, boxR, rboxR, allocR, fldR, binI, unR, pickR, mknilR, mkslR, buildSlR, buildR, extR, convI, eqB, evU, wrap64, Rd.ren]) | (with_reducible intro _) | ((with_reducible apply And.intro); omega)))
    ((repeat (first | (simp (disch := first | exact dis1 | fail) only [evA, Nat.reduceBEq, Nat.reduceAdd, Nat.reduceLeDiff, boxR, rboxR, allocR, fldR, binI, unR, pickR, mknilR, mkslR, buildSlR, buildR, extR, convI, eqB, evU, wrap64, dstEq_set, dstEq_none, rowsLt, elsLt_cons, AV.lt1, AV.lt0, AH.sort, AH.ins, Nat.reduceEqDiff, Nat.reduceLT, if_true, if_false, reduceIte, and_true, true_and, kf62]) | (with_reducible intro _) | ((with_reducible apply And.intro); omega))); try ((repeat' with_reducible apply And.intro) <;> first | rfl | omega | exact elsLt_nil | exact elsLt_map (fun _ => rfl)))
  · (repeat (first | (simp (disch := first | exact dis1 | fail) only [evA, Nat.reduceBEq, Nat.reduceAdd, Nat.reduceLeDiff, boxR, rboxR, allocR, fldR, binI, unR, pickR, mknilR, mkslR, buildSlR, buildR, extR, convI, eqB, evU, wrap64, kf66]) | (with_reducible intro _) | ((with_reducible apply And.intro); omega)))
    refine call_lows 3 rfl ?_; refine call_own [(0, 1, 0)] 1 _ (k4) rfl rfl (by (try simp only [evWA, Nat.reduceBEq, Nat.reduceAdd, Nat.reduceSub, Nat.reduceLeDiff, Nat.reduceLT, implies_true, and_self, Int.natCast_zero, Int.natCast_one, Int.cast_ofNat_Int, evV, encInts, encNats, encBools, encP, Rd.cells, encB]) <;> exact fin1) (by (try simp only [evWA, Nat.reduceBEq, Nat.reduceAdd, Nat.reduceSub, Nat.reduceLeDiff, Nat.reduceLT, implies_true, and_self, Int.natCast_zero, Int.natCast_one, Int.cast_ofNat_Int, evV, encInts, encNats, encBools, encP, Rd.cells, encB]) <;> exact fin1) ?_
    rintro v' H' nx' ⟨rfl, rfl, rfl⟩
    (repeat (first | (simp (disch := first | exact dis1 | fail) only [evA, Nat.reduceBEq, Nat.reduceAdd, Nat.reduceLeDiff, boxR, rboxR, allocR, fldR, binI, unR, pickR, mknilR, mkslR, buildSlR, buildR, extR, convI, eqB, evU, wrap64, Rd.ren]) | (with_reducible intro _) | ((with_reducible apply And.intro); omega)))
    ((repeat (first | (simp (disch := first | exact dis1 | fail) only [evA, Nat.reduceBEq, Nat.reduceAdd, Nat.reduceLeDiff, boxR, rboxR, allocR, fldR, binI, unR, pickR, mknilR, mkslR, buildSlR, buildR, extR, convI, eqB, evU, wrap64, dstEq_set, dstEq_none, rowsLt, elsLt_cons, AV.lt1, AV.lt0, AH.sort, AH.ins, Nat.reduceEqDiff, Nat.reduceLT, if_true, if_false, reduceIte, and_true, true_and, kf67]) | (with_reducible intro _) | ((with_reducible apply And.intro); omega))); try ((repeat' with_reducible apply And.intro) <;> first | rfl | omega | exact elsLt_nil | exact elsLt_map (fun _ => rfl)))

end Go.Ab

namespace Go.Ab
open Go.RowKit Go.Proofs

def dr_R08_Decode_0_ops : List AOper := [ ⟨(some 59), .fldaddr 1 1 (.t 6), none⟩, ⟨(some 60), .load false 1 (.t 59), none⟩, ⟨(some 61), .mov (.t 4), none⟩, ⟨(some 62), .call f_R08_reader_section [(.t 61)], none⟩, ⟨(some 63), .buildSl 5 1 [.str ⟨#[]⟩, .int .u32 0, .nilsl, .bool false, .bool false] [(0, (.t 62))], none⟩, ⟨(some 64), .append 5 56 (.t 60) (.t 63), none⟩, ⟨(some 65), .fldaddr 1 1 (.t 6), none⟩, ⟨none, .store 1 (.t 65) (.t 64), none⟩]
def dr_R08_Decode_0_deps : List (List Nat) := [[], [0], [], [2], [3], [1, 4, 3], [0, 1, 2, 3, 4, 5], [6, 5, 5, 0, 1, 2, 3, 4, 5]]
def dr_R08_Decode_0_Ls : List Nat := [3, 4, 5, 7]
def dr_R08_Decode_0_A : List (List Nat) := [[], [0], [], [2], [2, 3], [0, 1, 2, 3, 4], [0, 1, 2, 3, 4, 5], [0, 1, 2, 3, 4, 5, 6]]
def dr_R08_Decode_0_St : List (List Nat) := [[], [3], [3, 4], [3, 4, 5], [3, 4, 5, 7]]
def dr_R08_Decode_0_plan : Plan := [(0, [], []), (1, [], []), (1, [3], [3]), (1, [3, 4], [3, 4]), (2, [], []), (3, [], [3]), (4, [3], [3, 4]), (5, [3, 4], [3, 4, 5]), (6, [3, 4, 5], [3, 4, 5]), (7, [3, 4, 5], [3, 4, 5, 7])]

def ac_R08_Decode_l1 : ACode :=
  /-live [0, 2, 4, 6, 7, 8, 9, 10]-/ .seq /-14-/ (.seq /-15-/ (.region [ ⟨(some 47), .mov (.t 10), none⟩, ⟨(some 48), .mov (.t 7), none⟩, ⟨(some 49), .bin .lss (.t 47) (.t 48), none⟩, ⟨(some 50), .mov (.t 49), none⟩, ⟨(some 51), .mov (.t 4), (some (50, true))⟩, ⟨(some 52), .xop .nilck [(.t 51)], (some (50, true))⟩, ⟨(some 53), .fldaddr 2 1 (.t 52), (some (50, true))⟩, ⟨(some 54), .load false 1 (.t 53), (some (50, true))⟩, ⟨(some 55), .bin .eql (.t 54) (.c (.int .i64 0)), (some (50, true))⟩, ⟨(some 56), .pick (.t 50) (.t 55) (.c (.bool false)), none⟩] [47, 48, 49, 50, 51, 52, 53, 54, 55]) (.cond (.t 56) (.skip) (.exit 0))) (.seq /-16-/ (.block 1 (.draw (mkTree dr_R08_Decode_0_ops dr_R08_Decode_0_deps 8 (List.replicate 8 false)) [56, 59, 60, 61, 62, 63, 64, 65])) (.region [ ⟨(some 57), .mov (.t 10), none⟩, ⟨(some 58), .bin .add (.t 57) (.c (.int .u32 1)), none⟩, ⟨(some 10), .mov (.t 58), none⟩] [57, 58]))

def ac_R08_Decode_l2 : ACode :=
  /-live [0, 2, 4, 6, 8, 9, 11]-/ .seq /-19-/ (.seq /-20-/ (.region [ ⟨(some 66), .mov (.t 11), none⟩, ⟨(some 67), .mov (.t 8), none⟩, ⟨(some 68), .bin .lss (.t 66) (.t 67), none⟩, ⟨(some 69), .mov (.t 68), none⟩, ⟨(some 70), .mov (.t 4), (some (69, true))⟩, ⟨(some 71), .xop .nilck [(.t 70)], (some (69, true))⟩, ⟨(some 72), .fldaddr 2 1 (.t 71), (some (69, true))⟩, ⟨(some 73), .load false 1 (.t 72), (some (69, true))⟩, ⟨(some 74), .bin .eql (.t 73) (.c (.int .i64 0)), (some (69, true))⟩, ⟨(some 75), .pick (.t 69) (.t 74) (.c (.bool false)), none⟩] [66, 67, 68, 69, 70, 71, 72, 73, 74]) (.cond (.t 75) (.skip) (.exit 2))) (.seq /-21-/ (.block 3 (.seq /-22-/ (.region [ ⟨(some 78), .mov (.t 4), none⟩, ⟨(some 79), .call f_R08_reader_text [(.t 78)], none⟩, ⟨(some 80), .build [.str ⟨#[]⟩, .int .u32 0, .int .i64 0] [(0, 1, (.t 79))], none⟩, ⟨(some 12), .alloc [.str ⟨#[]⟩, .int .u32 0, .int .i64 0], none⟩, ⟨none, .store 3 (.t 12) (.t 80), none⟩] [75, 78, 79, 80]) (.seq /-23-/ (.region [ ⟨(some 81), .mov (.t 4), none⟩, ⟨(some 82), .call f_R08_reader_number [(.t 81), (.c (.int .i64 4))], none⟩, ⟨(some 83), .fldaddr 1 1 (.t 12), none⟩, ⟨none, .store 1 (.t 83) (.t 82), none⟩] [81, 82, 83]) (.seq /-24-/ (.region [ ⟨(some 84), .mov (.t 4), none⟩, ⟨(some 85), .call f_R08_reader_number [(.t 84), (.c (.int .i64 1))], none⟩, ⟨(some 86), .conv .i64 (.t 85), none⟩, ⟨(some 87), .fldaddr 2 1 (.t 12), none⟩, ⟨none, .store 1 (.t 87) (.t 86), none⟩] [84, 85, 86, 87]) (.region [ ⟨(some 88), .fldaddr 2 1 (.t 6), none⟩, ⟨(some 89), .load false 1 (.t 88), none⟩, ⟨(some 90), .load true 3 (.t 12), none⟩, ⟨(some 91), .buildSl 3 1 [.str ⟨#[]⟩, .int .u32 0, .int .i64 0] [(0, (.t 90))], none⟩, ⟨(some 92), .append 3 32 (.t 89) (.t 91), none⟩, ⟨(some 93), .fldaddr 2 1 (.t 6), none⟩, ⟨none, .store 1 (.t 93) (.t 92), none⟩] [12, 88, 89, 90, 91, 92, 93]))))) (.region [ ⟨(some 76), .mov (.t 11), none⟩, ⟨(some 77), .bin .add (.t 76) (.c (.int .u32 1)), none⟩, ⟨(some 11), .mov (.t 77), none⟩] [76, 77]))

def ac_R08_Decode_l3 : ACode :=
  /-live [0, 2, 4, 6, 9, 13]-/ .seq /-27-/ (.seq /-28-/ (.region [ ⟨(some 94), .mov (.t 13), none⟩, ⟨(some 95), .mov (.t 9), none⟩, ⟨(some 96), .bin .lss (.t 94) (.t 95), none⟩, ⟨(some 97), .mov (.t 96), none⟩, ⟨(some 98), .mov (.t 4), (some (97, true))⟩, ⟨(some 99), .xop .nilck [(.t 98)], (some (97, true))⟩, ⟨(some 100), .fldaddr 2 1 (.t 99), (some (97, true))⟩, ⟨(some 101), .load false 1 (.t 100), (some (97, true))⟩, ⟨(some 102), .bin .eql (.t 101) (.c (.int .i64 0)), (some (97, true))⟩, ⟨(some 103), .pick (.t 97) (.t 102) (.c (.bool false)), none⟩] [94, 95, 96, 97, 98, 99, 100, 101, 102]) (.cond (.t 103) (.skip) (.exit 4))) (.seq /-29-/ (.block 5 (.seq /-30-/ (.region [ ⟨(some 106), .mov (.t 4), none⟩, ⟨(some 107), .call f_R08_reader_number [(.t 106), (.c (.int .i64 1))], none⟩, ⟨(some 108), .conv .i64 (.t 107), none⟩, ⟨(some 109), .build [.int .i64 0, .int .i64 0, .int .i64 0, .str ⟨#[]⟩, .int .i32 0] [(0, 1, (.t 108))], none⟩, ⟨(some 14), .alloc [.int .i64 0, .int .i64 0, .int .i64 0, .str ⟨#[]⟩, .int .i32 0], none⟩, ⟨none, .store 5 (.t 14) (.t 109), none⟩] [103, 106, 107, 108, 109]) (.seq /-31-/ (.region [ ⟨(some 110), .mov (.t 4), none⟩, ⟨(some 111), .call f_R08_reader_number [(.t 110), (.c (.int .i64 4))], none⟩, ⟨(some 112), .conv .i64 (.t 111), none⟩, ⟨(some 113), .fldaddr 1 1 (.t 14), none⟩, ⟨none, .store 1 (.t 113) (.t 112), none⟩] [110, 111, 112, 113]) (.seq /-32-/ (.region [ ⟨(some 114), .mov (.t 4), none⟩, ⟨(some 115), .call f_R08_reader_number [(.t 114), (.c (.int .i64 1))], none⟩, ⟨(some 116), .conv .i64 (.t 115), none⟩, ⟨(some 117), .fldaddr 2 1 (.t 14), none⟩, ⟨none, .store 1 (.t 117) (.t 116), none⟩] [114, 115, 116, 117]) (.seq /-33-/ (.region [ ⟨(some 118), .mov (.t 4), none⟩, ⟨(some 119), .call f_R08_reader_text [(.t 118)], none⟩, ⟨(some 120), .fldaddr 3 1 (.t 14), none⟩, ⟨none, .store 1 (.t 120) (.t 119), none⟩] [118, 119, 120]) (.seq /-34-/ (.region [ ⟨(some 121), .mov (.t 4), none⟩, ⟨(some 122), .call f_R08_reader_number [(.t 121), (.c (.int .i64 4))], none⟩, ⟨(some 123), .conv .i32 (.t 122), none⟩, ⟨(some 124), .fldaddr 4 1 (.t 14), none⟩, ⟨none, .store 1 (.t 124) (.t 123), none⟩] [121, 122, 123, 124]) (.region [ ⟨(some 125), .fldaddr 3 1 (.t 6), none⟩, ⟨(some 126), .load false 1 (.t 125), none⟩, ⟨(some 127), .load true 5 (.t 14), none⟩, ⟨(some 128), .buildSl 5 1 [.int .i64 0, .int .i64 0, .int .i64 0, .str ⟨#[]⟩, .int .i32 0] [(0, (.t 127))], none⟩, ⟨(some 129), .append 5 48 (.t 126) (.t 128), none⟩, ⟨(some 130), .fldaddr 3 1 (.t 6), none⟩, ⟨none, .store 1 (.t 130) (.t 129), none⟩] [14, 125, 126, 127, 128, 129, 130]))))))) (.region [ ⟨(some 104), .mov (.t 13), none⟩, ⟨(some 105), .bin .add (.t 104) (.c (.int .u32 1)), none⟩, ⟨(some 13), .mov (.t 105), none⟩] [104, 105]))

def ac_R08_Decode_k4 : ACode :=
  /-live [0, 2, 4, 6]-/ .seq /-35-/ (.region [ ⟨(some 131), .mov (.t 4), none⟩, ⟨(some 132), .xop .nilck [(.t 131)], none⟩, ⟨(some 133), .fldaddr 1 1 (.t 132), none⟩, ⟨(some 134), .load false 1 (.t 133), none⟩, ⟨(some 15), .mov (.t 134), none⟩] [9, 13, 131, 132, 133, 134]) (.seq /-36-/ (.region [ ⟨(some 135), .mov (.t 4), none⟩, ⟨(some 136), .call f_R08_reader_number [(.t 135), (.c (.int .i64 4))], none⟩, ⟨(some 16), .mov (.t 136), none⟩] [135, 136]) (.seq /-37-/ (.seq /-38-/ (.region [ ⟨(some 137), .mov (.t 4), none⟩, ⟨(some 138), .xop .nilck [(.t 137)], none⟩, ⟨(some 139), .fldaddr 2 1 (.t 138), none⟩, ⟨(some 140), .load false 1 (.t 139), none⟩, ⟨(some 141), .bin .eql (.t 140) (.c (.int .i64 0)), none⟩, ⟨(some 142), .mov (.t 141), none⟩, ⟨(some 143), .mov (.t 16), (some (142, true))⟩, ⟨(some 144), .mov (.t 0), (some (142, true))⟩, ⟨(some 145), .mov (.t 15), (some (142, true))⟩, ⟨(some 146), .slice 1 (.t 144) none (some (.t 145)), (some (142, true))⟩, ⟨(some 147), .call f_R08_Checksum [(.t 146)], (some (142, true))⟩, ⟨(some 148), .bin .neq (.t 143) (.t 147), (some (142, true))⟩, ⟨(some 149), .mov (.t 148), (some (142, true))⟩, ⟨(some 150), .mov (.t 4), (some (149, false))⟩, ⟨(some 151), .xop .nilck [(.t 150)], (some (149, false))⟩, ⟨(some 152), .fldaddr 1 1 (.t 151), (some (149, false))⟩, ⟨(some 153), .load false 1 (.t 152), (some (149, false))⟩, ⟨(some 154), .mov (.t 0), (some (149, false))⟩, ⟨(some 155), .len (.t 154), (some (149, false))⟩, ⟨(some 156), .bin .neq (.t 153) (.t 155), (some (149, false))⟩, ⟨(some 157), .pick (.t 149) (.c (.bool true)) (.t 156), (some (142, true))⟩, ⟨(some 158), .pick (.t 142) (.t 157) (.c (.bool false)), none⟩] [0, 15, 16, 137, 138, 139, 140, 141, 142, 143, 144, 145, 146, 147, 148, 149, 150, 151, 152, 153, 154, 155, 156, 157]) (.cond (.t 158) (.region [ ⟨(some 159), .mov (.t 4), none⟩, ⟨(some 160), .xop .nilck [(.t 159)], none⟩, ⟨(some 161), .fldaddr 2 1 (.t 160), none⟩, ⟨none, .store 1 (.t 161) (.c (.int .i64 4)), none⟩] [158, 159, 160, 161]) (.skip))) (.seq /-39-/ (.seq /-40-/ (.region [ ⟨(some 162), .mov (.t 4), none⟩, ⟨(some 163), .xop .nilck [(.t 162)], none⟩, ⟨(some 164), .fldaddr 2 1 (.t 163), none⟩, ⟨(some 165), .load false 1 (.t 164), none⟩, ⟨(some 166), .bin .eql (.t 165) (.c (.int .i64 0)), none⟩] [158, 162, 163, 164, 165]) (.cond (.t 166) (.region [ ⟨(some 167), .mov (.t 4), none⟩, ⟨(some 168), .load true 4 (.t 6), none⟩, ⟨(some 169), .call f_R08_Check [(.t 168)], none⟩, ⟨(some 170), .xop .nilck [(.t 167)], none⟩, ⟨(some 171), .fldaddr 2 1 (.t 170), none⟩, ⟨none, .store 1 (.t 171) (.t 169), none⟩] [166, 167, 168, 169, 170, 171]) (.skip))) (.seq /-41-/ (.seq /-42-/ (.region [ ⟨(some 172), .mov (.t 4), none⟩, ⟨(some 173), .xop .nilck [(.t 172)], none⟩, ⟨(some 174), .fldaddr 2 1 (.t 173), none⟩, ⟨(some 175), .load false 1 (.t 174), none⟩, ⟨(some 176), .bin .neq (.t 175) (.c (.int .i64 0)), none⟩] [166, 172, 173, 174, 175]) (.cond (.t 176) (.seq /-43-/ (.draw ( .step ⟨(some 177), .build [.int .u32 0, .nilsl, .nilsl, .nilsl] [], none⟩ ( .step ⟨(some 178), .mov (.t 4), none⟩ ( .step ⟨(some 179), .xop .nilck [(.t 178)], none⟩ ( .step ⟨(some 180), .fldaddr 2 1 (.t 179), none⟩ ( .alt ⟨(some 181), .load false 1 (.t 180), none⟩ ( .alt ⟨none, .store 4 (.t 2) (.t 177), none⟩ ( .step ⟨(some 3), .mov (.t 181), none⟩ ( .done)) ( .stop)) ( .alt ⟨none, .store 4 (.t 2) (.t 177), none⟩ ( .step ⟨(some 181), .load false 1 (.t 180), none⟩ ( .step ⟨(some 3), .mov (.t 181), none⟩ ( .done))) ( .stop))))))) [4, 6, 176, 177, 178, 179, 180, 181]) (.ret)) (.skip))) (.seq /-44-/ (.region [ ⟨(some 182), .load true 4 (.t 6), none⟩, ⟨none, .store 4 (.t 2) (.t 182), none⟩, ⟨(some 3), .mov (.c (.int .i64 0)), none⟩] [4, 6, 176, 182]) (.ret))))))

def ac_R08_Decode_k5 : ACode :=
  /-live [0, 2, 4, 6, 9]-/ .seq /-25-/ (.seq /-26-/ (.region [ ⟨(some 13), .mov (.c (.int .u32 0)), none⟩] [8, 11]) (.block 4 (.loop ac_R08_Decode_l3))) (ac_R08_Decode_k4)

def ac_R08_Decode_k6 : ACode :=
  /-live [0, 2, 4, 6, 8, 9]-/ .seq /-17-/ (.seq /-18-/ (.region [ ⟨(some 11), .mov (.c (.int .u32 0)), none⟩] [7, 10]) (.block 2 (.loop ac_R08_Decode_l2))) (ac_R08_Decode_k5)

def ac_R08_Decode_k7 : ACode :=
  /-live [0, 2, 4]-/ .seq /-8-/ (.region [ ⟨(some 38), .mov (.t 4), none⟩, ⟨(some 39), .call f_R08_reader_number [(.t 38), (.c (.int .i64 4))], none⟩, ⟨(some 40), .build [.int .u32 0, .nilsl, .nilsl, .nilsl] [(0, 1, (.t 39))], none⟩, ⟨(some 6), .alloc [.int .u32 0, .nilsl, .nilsl, .nilsl], none⟩, ⟨none, .store 4 (.t 6) (.t 40), none⟩] [34, 38, 39, 40]) (.seq /-9-/ (.region [ ⟨(some 41), .mov (.t 4), none⟩, ⟨(some 42), .call f_R08_reader_number [(.t 41), (.c (.int .i64 1))], none⟩, ⟨(some 7), .mov (.t 42), none⟩] [41, 42]) (.seq /-10-/ (.region [ ⟨(some 43), .mov (.t 4), none⟩, ⟨(some 44), .call f_R08_reader_number [(.t 43), (.c (.int .i64 2))], none⟩, ⟨(some 8), .mov (.t 44), none⟩] [43, 44]) (.seq /-11-/ (.region [ ⟨(some 45), .mov (.t 4), none⟩, ⟨(some 46), .call f_R08_reader_number [(.t 45), (.c (.int .i64 2))], none⟩, ⟨(some 9), .mov (.t 46), none⟩] [45, 46]) (.seq /-12-/ (.seq /-13-/ (.region [ ⟨(some 10), .mov (.c (.int .u32 0)), none⟩] []) (.block 0 (.loop ac_R08_Decode_l1))) (ac_R08_Decode_k6)))))

/-- decompiler/decompilerref08.Decode -/
def ac_R08_Decode : ACode := .seq /-0-/ (.region [ ⟨(some 2), .alloc [.int .u32 0, .nilsl, .nilsl, .nilsl], none⟩, ⟨(some 3), .mov (.c (.int .i64 0)), none⟩] [3]) (.seq /-1-/ (.seq /-2-/ (.region [ ⟨(some 17), .mov (.t 0), none⟩, ⟨(some 18), .len (.t 17), none⟩, ⟨(some 19), .bin .gtr (.t 18) (.c (.int .i64 65536)), none⟩] [17, 18]) (.cond (.t 19) (.seq /-3-/ (.region [ ⟨(some 20), .build [.int .u32 0, .nilsl, .nilsl, .nilsl] [], none⟩, ⟨none, .store 4 (.t 2) (.t 20), none⟩, ⟨(some 3), .mov (.c (.int .i64 6)), none⟩] [0, 19, 20]) (.ret)) (.skip))) (.seq /-4-/ (.region [ ⟨(some 21), .mov (.t 0), none⟩, ⟨(some 22), .build [.nilsl, .int .i64 0, .int .i64 0] [(0, 1, (.t 21))], none⟩, ⟨(some 23), .box (.t 22), none⟩, ⟨(some 4), .mov (.t 23), none⟩] [3, 19, 21, 22, 23]) (.seq /-5-/ (.region [ ⟨(some 24), .mov (.t 4), none⟩, ⟨(some 25), .call f_R08_reader_number [(.t 24), (.c (.int .i64 4))], none⟩, ⟨(some 5), .mov (.t 25), none⟩] [24, 25]) (.join /-6 live [0, 2, 4]-/ (.seq /-7-/ (.region [ ⟨(some 26), .mov (.t 4), none⟩, ⟨(some 27), .xop .nilck [(.t 26)], none⟩, ⟨(some 28), .fldaddr 2 1 (.t 27), none⟩, ⟨(some 29), .load false 1 (.t 28), none⟩, ⟨(some 30), .bin .eql (.t 29) (.c (.int .i64 0)), none⟩, ⟨(some 31), .mov (.t 30), none⟩, ⟨(some 32), .mov (.t 5), (some (31, true))⟩, ⟨(some 33), .bin .neq (.t 32) (.c (.int .u32 827278148)), (some (31, true))⟩, ⟨(some 34), .pick (.t 31) (.t 33) (.c (.bool false)), none⟩] [5, 26, 27, 28, 29, 30, 31, 32, 33]) (.cond (.t 34) (.region [ ⟨(some 35), .mov (.t 4), none⟩, ⟨(some 36), .xop .nilck [(.t 35)], none⟩, ⟨(some 37), .fldaddr 2 1 (.t 36), none⟩, ⟨none, .store 1 (.t 37) (.c (.int .i64 4)), none⟩] [34, 35, 36, 37]) (.skip))) (ac_R08_Decode_k7)))))

def rs_R08_Decode : List ARet := [.cell 2 true 4, .tmp 3]

set_option maxRecDepth 100000 in
theorem cf_R08_Decode : compF Try.prog f_R08_Decode (qRoL [] [(14, [0, 1, 2, 4, 5, 6, 7, 8, 9, 10, 11, 12, 13, 14, 15, 16, 17, 18, 19, 20, 21, 22, 23, 24, 25, 26, 27, 28, 29, 30, 31, 32, 33, 34, 35, 36, 37, 38, 39, 40, 41, 42, 43, 44, 45, 46, 47, 48, 49, 50, 51, 52, 53, 54, 55, 56, 57, 58, 59, 60, 61, 62, 63, 64, 65, 66, 67, 68, 69, 70, 71, 72, 73, 74, 75, 76, 77, 78, 79, 80, 81, 82, 83, 84, 85, 86, 87, 88, 89, 90, 91, 92, 93, 94, 95, 96, 97, 98, 99, 100, 101, 102, 103, 104, 105, 106, 107, 108, 109, 110, 111, 112, 113, 114, 115, 116, 117, 118, 119, 120, 121, 122, 123, 124, 125, 126, 127, 128, 129, 130, 131, 132, 133, 134, 135, 136, 137, 138, 139, 140, 141, 142, 143, 144, 145, 146, 147, 148, 149])]) = some (ac_R08_Decode.strip, rs_R08_Decode, 183) := by kernel_rfl

end Go.Ab

namespace Go.Ab
open Go.RowKit Go.Proofs

/-- The rows of the reference's Decode: the result, the reader, the object, its lists. -/
def dH (r : Rd) (en : Nat) (S : List Sec) (Y : List Sym) (R : List Rel) : AH :=
  [(0, .row 4 [[.int .u32 0, .nilsl, .nilsl, .nilsl]] 0), (1, .row 3 [r.cells] 0), (2, .row 4 [[.int .u32 en, .own 3 0 0 0 S.length, .own 4 0 0 0 Y.length, .own 5 0 0 0 R.length]] 0),
    (3, .row 5 (S.map Sec.cells) 0), (4, .row 3 (Y.map Sym.cells) 0), (5, .row 5 (R.map Rel.cells) 0)]

def Rd.secsR : Nat → Rd → List Sec × Rd
  | 0, r => ([], r)
  | n + 1, r => if r.e ≠ 0 then ([], r) else (r.sec.1 :: (Rd.secsR n r.sec.2).1, (Rd.secsR n r.sec.2).2)

theorem Rd.sec_fine {r : Rd} (h : r.fine) : r.sec.2.fine :=
  Rd.bytes_fine (Rd.number_fine (Rd.mark_fine (Rd.number_fine (Rd.number_fine (Rd.text_fine h) (by decide)) (by decide))) (by decide))

theorem sec_ren {ρ : Nat → Nat} {s : Sec} : List.map (AV.ren ρ) s.cells = s.cells := by simp [Sec.cells, encB, encL, AV.ren]
theorem R08_section_low (r : Rd) (hr : r.fine) : CallOk Try.prog f_R08_reader_section [.ptr 0 0 0 0 0] [(0, .row 3 [r.cells] 0)] 1
    (fun v H nx => v = .agg r.sec.1.cells ∧ H = [(0, .row 3 [r.sec.2.cells] 0)] ∧ nx = 1) := by
  refine call_ent ((R08_reader_section_ok r hr).mono fun v H nx h => ?_)
  obtain ⟨rfl, rfl, rfl⟩ := h
  refine ⟨.agg r.sec.1.cells, [(0, .row 3 [r.sec.2.cells] 0)], 1, ?_, rfl, rfl, rfl⟩
  exact (Ent.tabB [(0, 0, 0)] [] rfl rfl rfl (by (try simp only [evWA, Nat.reduceBEq, Nat.reduceAdd, Nat.reduceSub, Nat.reduceLeDiff, Nat.reduceLT, implies_true, and_self, Int.natCast_zero, Int.natCast_one, Int.cast_ofNat_Int, evV, encInts, encNats, encBools, encP]) <;> exact fin2) (by (try simp only [evWA, Nat.reduceBEq, Nat.reduceAdd, Nat.reduceSub, Nat.reduceLeDiff, Nat.reduceLT, implies_true, and_self, Int.natCast_zero, Int.natCast_one, Int.cast_ofNat_Int, evV, encInts, encNats, encBools, encP]) <;> exact fin2))


theorem R08_loop_secs (b : List UInt8) (en nS nY nR : Nat) (r0 : Rd) (hr : r0.fine) (hn : nS ≤ 65535) {Q : QT} (hQE : QExt Q) {K0 : Kn} {H0 : AH} {nx0 : Nat}
    (h0 : Ent 0 K0 H0 nx0 [(0, encB b), (2, .ptr 0 0 0 0 0), (4, .ptr 1 0 0 0 0), (6, .ptr 2 0 0 0 0), (7, .int .u32 nS), (8, .int .u32 nY), (9, .int .u32 nR), (10, .int .u32 0)] (dH r0 en [] [] []) 6)
    (hQ : ∀ i : Nat, Q (.exit 0) [(0, encB b), (2, .ptr 0 0 0 0 0), (4, .ptr 1 0 0 0 0), (6, .ptr 2 0 0 0 0), (7, .int .u32 nS), (8, .int .u32 nY), (9, .int .u32 nR), (10, .int .u32 i), (56, .bool false)] (dH (Rd.secsR nS r0).2 en (Rd.secsR nS r0).1 [] []) 6) :
    loopX Try.prog 0 ac_R08_Decode_l1 Q K0 H0 nx0 := by
  have hB : big = 9223372036854775807 := rfl
  generalize hres : Rd.secsR nS r0 = res at *
  refine loopX_intro (fun a : Nat × Rd × List Sec => ([(0, encB b), (2, .ptr 0 0 0 0 0), (4, .ptr 1 0 0 0 0), (6, .ptr 2 0 0 0 0), (7, .int .u32 nS), (8, .int .u32 nY), (9, .int .u32 nR), (10, .int .u32 a.1)], dH a.2.1 en a.2.2 [] [])) 6
    (fun a => a.1 ≤ nS ∧ a.2.2.length ≤ a.1 ∧ a.2.1.fine ∧ (a.2.2 ++ (Rd.secsR (nS - a.1) a.2.1).1, (Rd.secsR (nS - a.1) a.2.1).2) = res) (fun a => nS - a.1) (0, r0, []) ⟨Nat.zero_le _, Nat.le_refl _, hr, by simp [hres]⟩ h0 ?_
  rintro ⟨i, r, acc⟩ ⟨hi, hl, hf, hs⟩ wf
  simp only at hi hl hf hs
  unfold ac_R08_Decode_l1
  have hee : ∀ x : Rd, (Rd.cells x).getD 2 .undef = .int .i64 x.e := fun _ => rfl
  have hel : ∀ x : Rd, (Rd.cells x).length = 3 := fun _ => rfl
  by_cases hlt : i < nS
  case neg =>
    obtain rfl : nS = i := by omega
    have d0 : decide ((nS : Int) < (nS : Int)) = false := decide_eq_false (by omega)
    rw [Nat.sub_self, Rd.secsR] at hs
    simp only [List.append_nil] at hs
    subst hs
    have := hQ nS
    unfold dH at this ⊢
    (repeat (first | (simp (disch := first | exact dis1 | fail) only [evA, Nat.reduceBEq, Nat.reduceAdd, Nat.reduceLeDiff, boxR, rboxR, allocR, fldR, binI, unR, pickR, mknilR, mkslR, buildSlR, buildR, extR, convI, eqB, evU, wrap64, d0]) | (with_reducible intro _) | ((with_reducible apply And.intro); omega)))
    exact this
  have d0 : decide ((i : Int) < (nS : Int)) = true := decide_eq_true (by omega)
  obtain ⟨m, hm⟩ : ∃ m, nS - i = m + 1 := ⟨nS - i - 1, by omega⟩
  rw [hm] at hs
  by_cases he : r.e = 0
  case neg =>
    have e0 : Rd.secsR (m + 1) r = ([], r) := by rw [Rd.secsR, if_pos he]
    rw [e0] at hs
    simp only [List.append_nil] at hs
    subst hs
    have d1 : decide (r.e = 0) = false := decide_eq_false he
    have := hQ i
    unfold dH at this ⊢
    (repeat (first | (simp (disch := first | exact dis1 | fail) only [evA, Nat.reduceBEq, Nat.reduceAdd, Nat.reduceLeDiff, boxR, rboxR, allocR, fldR, binI, unR, pickR, mknilR, mkslR, buildSlR, buildR, extR, convI, eqB, evU, wrap64, d0, hee, hel, d1]) | (with_reducible intro _) | ((with_reducible apply And.intro); omega)))
    exact this
  have d1 : decide (r.e = 0) = true := decide_eq_true he
  have hw : IntKind.u32.wrap ((i : Int) + 1) = ((i + 1 : Nat) : Int) := by rw [wrapU32 (by omega) (by omega)]; omega
  have ks := R08_section_low r hf
  have e1 : Rd.secsR (m + 1) r = (r.sec.1 :: (Rd.secsR m r.sec.2).1, (Rd.secsR m r.sec.2).2) := by rw [Rd.secsR, if_neg (by simp [he])]
  have hf2 : r.sec.2.fine := Rd.sec_fine hf
  rw [e1] at hs
  generalize r.sec = q at *
  obtain ⟨s, r'⟩ := q
  simp only at hs hf2 ks
  unfold dH
  (repeat (first | (simp (disch := first | exact dis1 | fail) only [evA, Nat.reduceBEq, Nat.reduceAdd, Nat.reduceLeDiff, boxR, rboxR, allocR, fldR, binI, unR, pickR, mknilR, mkslR, buildSlR, buildR, extR, convI, eqB, evU, wrap64, d0, hee, hel, d1, List.map_nil, List.length_nil]) | (with_reducible intro _) | ((with_reducible apply And.intro); omega)))
  refine draw_det dr_R08_Decode_0_Ls dr_R08_Decode_0_A dr_R08_Decode_0_St dr_R08_Decode_0_plan [(59, .ptr 2 0 0 0 1), (60, .own 3 0 0 0 acc.length), (61, .ptr 1 0 0 0 0), (62, .agg s.cells), (63, .own 6 0 0 0 1), (64, .own 3 0 1 0 (acc.length + 1)), (65, .ptr 2 0 0 0 1)] (hsOf [([(0, .row 4 [[.int .u32 0, .nilsl, .nilsl, .nilsl]] 0), (1, .row 3 [r.cells] 0), (2, .row 4 [[.int .u32 en, .own 3 0 0 0 acc.length, .own 4 0 0 0 0, .own 5 0 0 0 0]] 0), (3, .row 5 (acc.map Sec.cells) 0), (4, .row 3 ([]) 0), (5, .row 5 ([]) 0)], 6), ([(0, .row 4 [[.int .u32 0, .nilsl, .nilsl, .nilsl]] 0), (1, .row 3 [r'.cells] 0), (2, .row 4 [[.int .u32 en, .own 3 0 0 0 acc.length, .own 4 0 0 0 0, .own 5 0 0 0 0]] 0), (3, .row 5 (acc.map Sec.cells) 0), (4, .row 3 ([]) 0), (5, .row 5 ([]) 0)], 6), ([(0, .row 4 [[.int .u32 0, .nilsl, .nilsl, .nilsl]] 0), (1, .row 3 [r'.cells] 0), (2, .row 4 [[.int .u32 en, .own 3 0 0 0 acc.length, .own 4 0 0 0 0, .own 5 0 0 0 0]] 0), (3, .row 5 (acc.map Sec.cells) 0), (4, .row 3 ([]) 0), (5, .row 5 ([]) 0), (6, .row 5 [s.cells] 0)], 7), ([(0, .row 4 [[.int .u32 0, .nilsl, .nilsl, .nilsl]] 0), (1, .row 3 [r'.cells] 0), (2, .row 4 [[.int .u32 en, .own 3 0 0 0 acc.length, .own 4 0 0 0 0, .own 5 0 0 0 0]] 0), (3, .row 5 (acc.map Sec.cells ++ [s.cells]) 1), (4, .row 3 ([]) 0), (5, .row 5 ([]) 0), (6, .row 5 [s.cells] 0)], 7), ([(0, .row 4 [[.int .u32 0, .nilsl, .nilsl, .nilsl]] 0), (1, .row 3 [r'.cells] 0), (2, .row 4 [[.int .u32 en, .own 3 0 1 0 (acc.length + 1), .own 4 0 0 0 0, .own 5 0 0 0 0]] 0), (3, .row 5 (acc.map Sec.cells ++ [s.cells]) 1), (4, .row 3 ([]) 0), (5, .row 5 ([]) 0), (6, .row 5 [s.cells] 0)], 7)]) (by kernel_rfl) (by rfl) (by rfl) (by repeat' first | exact QExt.retK | apply QExt.seq | apply QExt.block | apply QExt.loop | apply QExt.join | assumption) ?plan [] (by rfl) ?fin
  case' plan =>
    intro Kf hs hK hH
    have kf59 : Kf.get 59 = .ptr 2 0 0 0 1 := by rw [hK, setAll_look]; rfl
    have kf60 : Kf.get 60 = .own 3 0 0 0 acc.length := by rw [hK, setAll_look]; rfl
    have kf61 : Kf.get 61 = .ptr 1 0 0 0 0 := by rw [hK, setAll_look]; rfl
    have kf62 : Kf.get 62 = .agg s.cells := by rw [hK, setAll_look]; rfl
    have kf63 : Kf.get 63 = .own 6 0 0 0 1 := by rw [hK, setAll_look]; rfl
    have kf64 : Kf.get 64 = .own 3 0 1 0 (acc.length + 1) := by rw [hK, setAll_look]; rfl
    have kf65 : Kf.get 65 = .ptr 2 0 0 0 1 := by rw [hK, setAll_look]; rfl
    have kf4 : Kf.get 4 = .ptr 1 0 0 0 0 := by rw [hK, setAll_look]; rfl
    have kf6 : Kf.get 6 = .ptr 2 0 0 0 0 := by rw [hK, setAll_look]; rfl
    simp only [dr_R08_Decode_0_plan, planP_cons, planP_nil, and_true]
    (repeat' with_reducible apply And.intro)
    all_goals (rw [hH]; simp only [stepC, dr_R08_Decode_0_ops, List.getD_cons_succ, List.getD_cons_zero, hsOf, hsAt, beqL, beq_eq, Nat.reduceBEq, Bool.and_true, Bool.true_and, Bool.and_false, Bool.false_and, cond_true, cond_false, List.length_cons, List.length_nil, Nat.reduceAdd])
    all_goals try (simp (disch := first | exact dis1 | fail) only [evA, Nat.reduceBEq, Nat.reduceAdd, Nat.reduceLeDiff, boxR, rboxR, allocR, fldR, binI, unR, pickR, mknilR, mkslR, buildSlR, buildR, extR, convI, eqB, evU, wrap64, dstEq_set, dstEq_none, kf59, kf60, kf61, kf62, kf63, kf64, kf65, kf4, kf6, hel, Sec.len]; done)
  case' fin => simp only [dr_R08_Decode_0_Ls, hsOf, hsAt, beqL, beq_eq, Nat.reduceBEq, Bool.and_true, Bool.true_and, Bool.and_false, Bool.false_and, cond_true, cond_false, List.length_cons, List.length_nil, Nat.reduceAdd, List.getD_cons_succ, List.getD_cons_zero, setAll]
  · have hY' : (acc ++ [s]).map Sec.cells = acc.map Sec.cells ++ [s.cells] := by rw [List.map_append]; rfl
    have hL : (acc ++ [s]).length = acc.length + 1 := List.length_append
    (repeat (first | (simp (disch := first | exact dis1 | fail) only [evA, Nat.reduceBEq, Nat.reduceAdd, Nat.reduceLeDiff, boxR, rboxR, allocR, fldR, binI, unR, pickR, mknilR, mkslR, buildSlR, buildR, extR, convI, eqB, evU, wrap64, hw]) | (with_reducible intro _) | ((with_reducible apply And.intro); omega)))
    refine ⟨(i + 1, r', acc ++ [s]), ⟨by omega, by rw [hL]; omega, hf2, by rw [show nS - (i + 1) = m by omega]; simpa using hs⟩, by show nS - (i + 1) < nS - i; omega, ?_⟩
    simp only [hY', hL]
    exact (Ent.tab [(0, 0, 0), (1, 1, 0), (2, 2, 0), (3, 3, 1), (4, 4, 0), (5, 5, 0)] [] rfl (by (try simp only [evWA, Nat.reduceBEq, Nat.reduceAdd, Nat.reduceSub, Nat.reduceLeDiff, Nat.reduceLT, implies_true, and_self, Int.natCast_zero, Int.natCast_one, Int.cast_ofNat_Int, evV, encInts, encNats, encBools, encP, encB]) <;> exact fin2) (by (try simp only [evWA, Nat.reduceBEq, Nat.reduceAdd, Nat.reduceSub, Nat.reduceLeDiff, Nat.reduceLT, implies_true, and_self, Int.natCast_zero, Int.natCast_one, Int.cast_ofNat_Int, evV, encInts, encNats, encBools, encP, encB]) <;> exact fin2))
  · (repeat (first | (simp (disch := first | exact dis1 | fail) only [evA, Nat.reduceBEq, Nat.reduceAdd, Nat.reduceLeDiff, boxR, rboxR, allocR, fldR, binI, unR, pickR, mknilR, mkslR, buildSlR, buildR, extR, convI, eqB, evU, wrap64, kf61]) | (with_reducible intro _) | ((with_reducible apply And.intro); omega)))
    refine call_lows 6 rfl ?_; refine call_own [(0, 1, 0)] 1 _ (ks) rfl rfl (by (try simp only [evWA, Nat.reduceBEq, Nat.reduceAdd, Nat.reduceSub, Nat.reduceLeDiff, Nat.reduceLT, implies_true, and_self, Int.natCast_zero, Int.natCast_one, Int.cast_ofNat_Int, evV, encInts, encNats, encBools, encP, Rd.cells, encB]) <;> exact fin1) (by (try simp only [evWA, Nat.reduceBEq, Nat.reduceAdd, Nat.reduceSub, Nat.reduceLeDiff, Nat.reduceLT, implies_true, and_self, Int.natCast_zero, Int.natCast_one, Int.cast_ofNat_Int, evV, encInts, encNats, encBools, encP, Rd.cells, encB]) <;> exact fin1) ?_
    rintro v' H' nx' ⟨rfl, rfl, rfl⟩
    (repeat (first | (simp (disch := first | exact dis1 | fail) only [evA, Nat.reduceBEq, Nat.reduceAdd, Nat.reduceLeDiff, boxR, rboxR, allocR, fldR, binI, unR, pickR, mknilR, mkslR, buildSlR, buildR, extR, convI, eqB, evU, wrap64, Rd.ren, sec_ren]) | (with_reducible intro _) | ((with_reducible apply And.intro); omega)))
    ((repeat (first | (simp (disch := first | exact dis1 | fail) only [evA, Nat.reduceBEq, Nat.reduceAdd, Nat.reduceLeDiff, boxR, rboxR, allocR, fldR, binI, unR, pickR, mknilR, mkslR, buildSlR, buildR, extR, convI, eqB, evU, wrap64, dstEq_set, dstEq_none, rowsLt, elsLt_cons, AV.lt1, AV.lt0, AH.sort, AH.ins, Nat.reduceEqDiff, Nat.reduceLT, if_true, if_false, reduceIte, and_true, true_and, kf62, sec_ren]) | (with_reducible intro _) | ((with_reducible apply And.intro); omega))); try ((repeat' with_reducible apply And.intro) <;> first | rfl | omega | exact elsLt_nil | exact elsLt_map (fun _ => rfl)))
  · (repeat (first | (simp (disch := first | exact dis1 | fail) only [evA, Nat.reduceBEq, Nat.reduceAdd, Nat.reduceLeDiff, boxR, rboxR, allocR, fldR, binI, unR, pickR, mknilR, mkslR, buildSlR, buildR, extR, convI, eqB, evU, wrap64, kf60, kf63, kf64, dstEq_set, Sec.len]) | (with_reducible intro _) | ((with_reducible apply And.intro); omega)))
    omega


theorem R08_loop_syms (b : List UInt8) (en nY nR : Nat) (S : List Sec) (r0 : Rd) (hr : r0.fine) (hn : nY ≤ 65535) {Q : QT} (hQE : QExt Q) {K0 : Kn} {H0 : AH} {nx0 : Nat}
    (h0 : Ent 0 K0 H0 nx0 [(0, encB b), (2, .ptr 0 0 0 0 0), (4, .ptr 1 0 0 0 0), (6, .ptr 2 0 0 0 0), (8, .int .u32 nY), (9, .int .u32 nR), (11, .int .u32 0)] (dH r0 en S [] []) 6)
    (hQ : ∀ i : Nat, Q (.exit 2) [(0, encB b), (2, .ptr 0 0 0 0 0), (4, .ptr 1 0 0 0 0), (6, .ptr 2 0 0 0 0), (8, .int .u32 nY), (9, .int .u32 nR), (11, .int .u32 i), (75, .bool false)] (dH (Rd.syms nY r0).2 en S (Rd.syms nY r0).1 []) 6) :
    loopX Try.prog 0 ac_R08_Decode_l2 Q K0 H0 nx0 := by
  have hB : big = 9223372036854775807 := rfl
  generalize hres : Rd.syms nY r0 = res at *
  refine loopX_intro (fun a : Nat × Rd × List Sym => ([(0, encB b), (2, .ptr 0 0 0 0 0), (4, .ptr 1 0 0 0 0), (6, .ptr 2 0 0 0 0), (8, .int .u32 nY), (9, .int .u32 nR), (11, .int .u32 a.1)], dH a.2.1 en S a.2.2 [])) 6
    (fun a => a.1 ≤ nY ∧ a.2.2.length ≤ a.1 ∧ a.2.1.fine ∧ (a.2.2 ++ (Rd.syms (nY - a.1) a.2.1).1, (Rd.syms (nY - a.1) a.2.1).2) = res) (fun a => nY - a.1) (0, r0, []) ⟨Nat.zero_le _, Nat.le_refl _, hr, by simp [hres]⟩ h0 ?_
  rintro ⟨i, r, acc⟩ ⟨hi, hl, hf, hs⟩ wf
  simp only at hi hl hf hs
  unfold ac_R08_Decode_l2
  have hee : ∀ x : Rd, (Rd.cells x).getD 2 .undef = .int .i64 x.e := fun _ => rfl
  have hel : ∀ x : Rd, (Rd.cells x).length = 3 := fun _ => rfl
  by_cases hlt : i < nY
  case neg =>
    obtain rfl : nY = i := by omega
    have d0 : decide ((nY : Int) < (nY : Int)) = false := decide_eq_false (by omega)
    rw [Nat.sub_self, Rd.syms] at hs
    simp only [List.append_nil] at hs
    subst hs
    have := hQ nY
    unfold dH at this ⊢
    (repeat (first | (simp (disch := first | exact dis1 | fail) only [evA, Nat.reduceBEq, Nat.reduceAdd, Nat.reduceLeDiff, boxR, rboxR, allocR, fldR, binI, unR, pickR, mknilR, mkslR, buildSlR, buildR, extR, convI, eqB, evU, wrap64, d0]) | (with_reducible intro _) | ((with_reducible apply And.intro); omega)))
    exact this
  have d0 : decide ((i : Int) < (nY : Int)) = true := decide_eq_true (by omega)
  obtain ⟨m, hm⟩ : ∃ m, nY - i = m + 1 := ⟨nY - i - 1, by omega⟩
  rw [hm] at hs
  by_cases he : r.e = 0
  case neg =>
    have e0 : Rd.syms (m + 1) r = ([], r) := by rw [Rd.syms, if_pos he]
    rw [e0] at hs
    simp only [List.append_nil] at hs
    subst hs
    have d1 : decide (r.e = 0) = false := decide_eq_false he
    have := hQ i
    unfold dH at this ⊢
    (repeat (first | (simp (disch := first | exact dis1 | fail) only [evA, Nat.reduceBEq, Nat.reduceAdd, Nat.reduceLeDiff, boxR, rboxR, allocR, fldR, binI, unR, pickR, mknilR, mkslR, buildSlR, buildR, extR, convI, eqB, evU, wrap64, d0, hee, hel, d1]) | (with_reducible intro _) | ((with_reducible apply And.intro); omega)))
    exact this
  have d1 : decide (r.e = 0) = true := decide_eq_true he
  have hw : IntKind.u32.wrap ((i : Int) + 1) = ((i + 1 : Nat) : Int) := by rw [wrapU32 (by omega) (by omega)]; omega
  have k1 := R08_reader_text_ok r
  have f1 : r.text.2.fine := Rd.text_fine hf
  have k2 := R08_reader_number_ok r.text.2 4 f1.toOk (by decide)
  have f2 : (r.text.2.number 4).2.fine := Rd.number_fine f1 (by decide)
  have k3 := R08_reader_number_ok (r.text.2.number 4).2 1 f2.toOk (by decide)
  obtain ⟨a, ha, hae⟩ := Rd.number_val r.text.2 (w := 4) (by decide)
  obtain ⟨c, hc, hce⟩ := Rd.number_val (r.text.2.number 4).2 (w := 1) (by decide)
  have e1 : Rd.syms (m + 1) r = (r.symS.1 :: (Rd.syms m r.symS.2).1, (Rd.syms m r.symS.2).2) := by rw [Rd.syms, if_neg (by simp [he])]
  have e2 : r.symS = (⟨r.text.1, UInt32.ofNat a, c⟩, ((r.text.2.number 4).2.number 1).2) := by unfold Rd.symS; rw [hae, hce]; rfl
  rw [hae] at k2
  rw [hce] at k3
  rw [e1, e2] at hs
  have hf3 : ((r.text.2.number 4).2.number 1).2.fine := Rd.number_fine f2 (by decide)
  generalize ((r.text.2.number 4).2.number 1).2 = r3 at *
  generalize (r.text.2.number 4).2 = r2 at *
  generalize r.text.2 = r1 at *
  generalize r.text.1 = tx at *
  simp only at hs
  have hcc : IntKind.i64.wrap (c : Int) = (c : Int) := IntWalk.i64_in c ⟨by omega, by omega⟩
  unfold dH
  (repeat (first | (simp (disch := first | exact dis1 | fail) only [evA, Nat.reduceBEq, Nat.reduceAdd, Nat.reduceLeDiff, boxR, rboxR, allocR, fldR, binI, unR, pickR, mknilR, mkslR, buildSlR, buildR, extR, convI, eqB, evU, wrap64, d0, hee, hel, d1, List.map_nil, List.length_nil]) | (with_reducible intro _) | ((with_reducible apply And.intro); omega)))
  refine call_lows 6 rfl ?_; refine call_own [(0, 1, 0)] 1 _ (k1) rfl rfl (by (try simp only [evWA, Nat.reduceBEq, Nat.reduceAdd, Nat.reduceSub, Nat.reduceLeDiff, Nat.reduceLT, implies_true, and_self, Int.natCast_zero, Int.natCast_one, Int.cast_ofNat_Int, evV, encInts, encNats, encBools, encP, Rd.cells, encB]) <;> exact fin1) (by (try simp only [evWA, Nat.reduceBEq, Nat.reduceAdd, Nat.reduceSub, Nat.reduceLeDiff, Nat.reduceLT, implies_true, and_self, Int.natCast_zero, Int.natCast_one, Int.cast_ofNat_Int, evV, encInts, encNats, encBools, encP, Rd.cells, encB]) <;> exact fin1) ?_
  rintro v' H' nx' ⟨rfl, rfl, rfl⟩
  refine ⟨?_, ?_⟩; (· (repeat (first | (simp (disch := first | exact dis1 | fail) only [evA, Nat.reduceBEq, Nat.reduceAdd, Nat.reduceLeDiff, boxR, rboxR, allocR, fldR, binI, unR, pickR, mknilR, mkslR, buildSlR, buildR, extR, convI, eqB, evU, wrap64, rowsLt, elsLt_cons, AV.lt1, AV.lt0, AH.sort, AH.ins, Nat.reduceEqDiff, Nat.reduceLT, if_true, if_false, reduceIte, and_true, true_and, Rd.ren, ren_secs, hel]) | (with_reducible intro _) | ((with_reducible apply And.intro); omega))) <;> ((repeat' with_reducible apply And.intro) <;> first | rfl | omega | exact elsLt_nil | (refine elsLt_map ?_; intro _; rfl) | fail)); (repeat (first | (simp (disch := first | exact dis1 | fail) only [evA, Nat.reduceBEq, Nat.reduceAdd, Nat.reduceLeDiff, boxR, rboxR, allocR, fldR, binI, unR, pickR, mknilR, mkslR, buildSlR, buildR, extR, convI, eqB, evU, wrap64, AH.sort, AH.ins, Nat.reduceEqDiff, Nat.reduceLT, if_true, if_false, reduceIte, Rd.ren, ren_secs, hel]) | (with_reducible intro _) | ((with_reducible apply And.intro); omega)))
  refine call_lows 7 rfl ?_; refine call_own [(0, 1, 0)] 1 _ (k2) rfl rfl (by (try simp only [evWA, Nat.reduceBEq, Nat.reduceAdd, Nat.reduceSub, Nat.reduceLeDiff, Nat.reduceLT, implies_true, and_self, Int.natCast_zero, Int.natCast_one, Int.cast_ofNat_Int, evV, encInts, encNats, encBools, encP, Rd.cells, encB]) <;> exact fin1) (by (try simp only [evWA, Nat.reduceBEq, Nat.reduceAdd, Nat.reduceSub, Nat.reduceLeDiff, Nat.reduceLT, implies_true, and_self, Int.natCast_zero, Int.natCast_one, Int.cast_ofNat_Int, evV, encInts, encNats, encBools, encP, Rd.cells, encB]) <;> exact fin1) ?_
  rintro v' H' nx' ⟨rfl, rfl, rfl⟩
  refine ⟨?_, ?_⟩; (· (repeat (first | (simp (disch := first | exact dis1 | fail) only [evA, Nat.reduceBEq, Nat.reduceAdd, Nat.reduceLeDiff, boxR, rboxR, allocR, fldR, binI, unR, pickR, mknilR, mkslR, buildSlR, buildR, extR, convI, eqB, evU, wrap64, rowsLt, elsLt_cons, AV.lt1, AV.lt0, AH.sort, AH.ins, Nat.reduceEqDiff, Nat.reduceLT, if_true, if_false, reduceIte, and_true, true_and, Rd.ren, ren_secs, hel]) | (with_reducible intro _) | ((with_reducible apply And.intro); omega))) <;> ((repeat' with_reducible apply And.intro) <;> first | rfl | omega | exact elsLt_nil | (refine elsLt_map ?_; intro _; rfl) | fail)); (repeat (first | (simp (disch := first | exact dis1 | fail) only [evA, Nat.reduceBEq, Nat.reduceAdd, Nat.reduceLeDiff, boxR, rboxR, allocR, fldR, binI, unR, pickR, mknilR, mkslR, buildSlR, buildR, extR, convI, eqB, evU, wrap64, AH.sort, AH.ins, Nat.reduceEqDiff, Nat.reduceLT, if_true, if_false, reduceIte, Rd.ren, ren_secs, hel]) | (with_reducible intro _) | ((with_reducible apply And.intro); omega)))
  refine call_lows 7 rfl ?_; refine call_own [(0, 1, 0)] 1 _ (k3) rfl rfl (by (try simp only [evWA, Nat.reduceBEq, Nat.reduceAdd, Nat.reduceSub, Nat.reduceLeDiff, Nat.reduceLT, implies_true, and_self, Int.natCast_zero, Int.natCast_one, Int.cast_ofNat_Int, evV, encInts, encNats, encBools, encP, Rd.cells, encB]) <;> exact fin1) (by (try simp only [evWA, Nat.reduceBEq, Nat.reduceAdd, Nat.reduceSub, Nat.reduceLeDiff, Nat.reduceLT, implies_true, and_self, Int.natCast_zero, Int.natCast_one, Int.cast_ofNat_Int, evV, encInts, encNats, encBools, encP, Rd.cells, encB]) <;> exact fin1) ?_
  rintro v' H' nx' ⟨rfl, rfl, rfl⟩
  refine ⟨?_, ?_⟩; (· (repeat (first | (simp (disch := first | exact dis1 | fail) only [evA, Nat.reduceBEq, Nat.reduceAdd, Nat.reduceLeDiff, boxR, rboxR, allocR, fldR, binI, unR, pickR, mknilR, mkslR, buildSlR, buildR, extR, convI, eqB, evU, wrap64, rowsLt, elsLt_cons, AV.lt1, AV.lt0, AH.sort, AH.ins, Nat.reduceEqDiff, Nat.reduceLT, if_true, if_false, reduceIte, and_true, true_and, Rd.ren, ren_secs, hel, hcc, hw]) | (with_reducible intro _) | ((with_reducible apply And.intro); omega))) <;> ((repeat' with_reducible apply And.intro) <;> first | rfl | omega | exact elsLt_nil | (refine elsLt_map ?_; intro _; rfl) | fail)); (repeat (first | (simp (disch := first | exact dis1 | fail) only [evA, Nat.reduceBEq, Nat.reduceAdd, Nat.reduceLeDiff, boxR, rboxR, allocR, fldR, binI, unR, pickR, mknilR, mkslR, buildSlR, buildR, extR, convI, eqB, evU, wrap64, AH.sort, AH.ins, Nat.reduceEqDiff, Nat.reduceLT, if_true, if_false, reduceIte, Rd.ren, ren_secs, hel, hcc, hw]) | (with_reducible intro _) | ((with_reducible apply And.intro); omega)))
  have hY' : (acc ++ [(⟨tx, UInt32.ofNat a, c⟩ : Sym)]).map Sym.cells = acc.map Sym.cells ++ [[AV.str tx, .int .u32 a, .int .i64 c]] := by
    rw [List.map_append]
    simp only [List.map_cons, List.map_nil, Sym.cells, UInt32.toNat_ofNat_of_lt' (show a < UInt32.size from ha)]
  have hL : (acc ++ [(⟨tx, UInt32.ofNat a, c⟩ : Sym)]).length = acc.length + 1 := List.length_append
  refine ⟨(i + 1, r3, acc ++ [⟨tx, UInt32.ofNat a, c⟩]), ⟨by omega, by rw [hL]; omega, hf3, by rw [show nY - (i + 1) = m by omega]; simpa using hs⟩, by show nY - (i + 1) < nY - i; omega, ?_⟩
  simp only [hY', hL]
  exact (Ent.tab [(0, 0, 0), (1, 1, 0), (2, 2, 0), (3, 3, 0), (4, 4, 1), (5, 5, 0)] [] rfl (by (try simp only [evWA, Nat.reduceBEq, Nat.reduceAdd, Nat.reduceSub, Nat.reduceLeDiff, Nat.reduceLT, implies_true, and_self, Int.natCast_zero, Int.natCast_one, Int.cast_ofNat_Int, evV, encInts, encNats, encBools, encP, encB]) <;> exact fin2) (by (try simp only [evWA, Nat.reduceBEq, Nat.reduceAdd, Nat.reduceSub, Nat.reduceLeDiff, Nat.reduceLT, implies_true, and_self, Int.natCast_zero, Int.natCast_one, Int.cast_ofNat_Int, evV, encInts, encNats, encBools, encP, encB]) <;> exact fin2))


theorem R08_loop_rels (b : List UInt8) (en nR : Nat) (S : List Sec) (Y : List Sym) (r0 : Rd) (hr : r0.fine) (hn : nR ≤ 65535) {Q : QT} (hQE : QExt Q) {K0 : Kn} {H0 : AH} {nx0 : Nat}
    (h0 : Ent 0 K0 H0 nx0 [(0, encB b), (2, .ptr 0 0 0 0 0), (4, .ptr 1 0 0 0 0), (6, .ptr 2 0 0 0 0), (9, .int .u32 nR), (13, .int .u32 0)] (dH r0 en S Y []) 6)
    (hQ : ∀ i : Nat, Q (.exit 4) [(0, encB b), (2, .ptr 0 0 0 0 0), (4, .ptr 1 0 0 0 0), (6, .ptr 2 0 0 0 0), (9, .int .u32 nR), (13, .int .u32 i), (103, .bool false)] (dH (Rd.rels nR r0).2 en S Y (Rd.rels nR r0).1) 6) :
    loopX Try.prog 0 ac_R08_Decode_l3 Q K0 H0 nx0 := by
  have hB : big = 9223372036854775807 := rfl
  generalize hres : Rd.rels nR r0 = res at *
  refine loopX_intro (fun a : Nat × Rd × List Rel => ([(0, encB b), (2, .ptr 0 0 0 0 0), (4, .ptr 1 0 0 0 0), (6, .ptr 2 0 0 0 0), (9, .int .u32 nR), (13, .int .u32 a.1)], dH a.2.1 en S Y a.2.2)) 6
    (fun a => a.1 ≤ nR ∧ a.2.2.length ≤ a.1 ∧ a.2.1.fine ∧ (a.2.2 ++ (Rd.rels (nR - a.1) a.2.1).1, (Rd.rels (nR - a.1) a.2.1).2) = res) (fun a => nR - a.1) (0, r0, []) ⟨Nat.zero_le _, Nat.le_refl _, hr, by simp [hres]⟩ h0 ?_
  rintro ⟨i, r, acc⟩ ⟨hi, hl, hf, hs⟩ wf
  simp only at hi hl hf hs
  unfold ac_R08_Decode_l3
  have hee : ∀ x : Rd, (Rd.cells x).getD 2 .undef = .int .i64 x.e := fun _ => rfl
  have hel : ∀ x : Rd, (Rd.cells x).length = 3 := fun _ => rfl
  by_cases hlt : i < nR
  case neg =>
    obtain rfl : nR = i := by omega
    have d0 : decide ((nR : Int) < (nR : Int)) = false := decide_eq_false (by omega)
    rw [Nat.sub_self, Rd.rels] at hs
    simp only [List.append_nil] at hs
    subst hs
    have := hQ nR
    unfold dH at this ⊢
    (repeat (first | (simp (disch := first | exact dis1 | fail) only [evA, Nat.reduceBEq, Nat.reduceAdd, Nat.reduceLeDiff, boxR, rboxR, allocR, fldR, binI, unR, pickR, mknilR, mkslR, buildSlR, buildR, extR, convI, eqB, evU, wrap64, d0]) | (with_reducible intro _) | ((with_reducible apply And.intro); omega)))
    exact this
  have d0 : decide ((i : Int) < (nR : Int)) = true := decide_eq_true (by omega)
  obtain ⟨m, hm⟩ : ∃ m, nR - i = m + 1 := ⟨nR - i - 1, by omega⟩
  rw [hm] at hs
  by_cases he : r.e = 0
  case neg =>
    have e0 : Rd.rels (m + 1) r = ([], r) := by rw [Rd.rels, if_pos he]
    rw [e0] at hs
    simp only [List.append_nil] at hs
    subst hs
    have d1 : decide (r.e = 0) = false := decide_eq_false he
    have := hQ i
    unfold dH at this ⊢
    (repeat (first | (simp (disch := first | exact dis1 | fail) only [evA, Nat.reduceBEq, Nat.reduceAdd, Nat.reduceLeDiff, boxR, rboxR, allocR, fldR, binI, unR, pickR, mknilR, mkslR, buildSlR, buildR, extR, convI, eqB, evU, wrap64, d0, hee, hel, d1]) | (with_reducible intro _) | ((with_reducible apply And.intro); omega)))
    exact this
  have d1 : decide (r.e = 0) = true := decide_eq_true he
  have hw : IntKind.u32.wrap ((i : Int) + 1) = ((i + 1 : Nat) : Int) := by rw [wrapU32 (by omega) (by omega)]; omega
  have e1 : Rd.rels (m + 1) r = (r.relS.1 :: (Rd.rels m r.relS.2).1, (Rd.rels m r.relS.2).2) := by rw [Rd.rels, if_neg (by simp [he])]
  obtain ⟨r1, hr1⟩ : ∃ x, x = (r.number 1).2 := ⟨_, rfl⟩
  obtain ⟨r2, hr2⟩ : ∃ x, x = (r1.number 4).2 := ⟨_, rfl⟩
  obtain ⟨r3, hr3⟩ : ∃ x, x = (r2.number 1).2 := ⟨_, rfl⟩
  obtain ⟨r4, hr4⟩ : ∃ x, x = r3.text.2 := ⟨_, rfl⟩
  obtain ⟨r5, hr5⟩ : ∃ x, x = (r4.number 4).2 := ⟨_, rfl⟩
  have f1 : r1.fine := by rw [hr1]; exact Rd.number_fine hf (by decide)
  have f2 : r2.fine := by rw [hr2]; exact Rd.number_fine f1 (by decide)
  have f3 : r3.fine := by rw [hr3]; exact Rd.number_fine f2 (by decide)
  have f4 : r4.fine := by rw [hr4]; exact Rd.text_fine f3
  have hf5 : r5.fine := by rw [hr5]; exact Rd.number_fine f4 (by decide)
  have k1 := R08_reader_number_ok r 1 hf.toOk (by decide)
  have k2 := R08_reader_number_ok r1 4 f1.toOk (by decide)
  have k3 := R08_reader_number_ok r2 1 f2.toOk (by decide)
  have k4 := R08_reader_text_ok r3
  have k5 := R08_reader_number_ok r4 4 f4.toOk (by decide)
  obtain ⟨x1, h1, e3⟩ := Rd.number_val r (w := 1) (by decide)
  obtain ⟨x2, h2, e4⟩ := Rd.number_val r1 (w := 4) (by decide)
  obtain ⟨x3, h3, e5⟩ := Rd.number_val r2 (w := 1) (by decide)
  obtain ⟨x4, h4, e6⟩ := Rd.number_val r4 (w := 4) (by decide)
  obtain ⟨tx, ht⟩ : ∃ x, x = r3.text.1 := ⟨_, rfl⟩
  have e2 : r.relS = ((⟨x1, x2, x3, tx, IntKind.i32.wrap x4⟩ : Rel), r5) := by
    unfold Rd.relS
    simp only [← hr1, ← hr2, ← hr3, ← hr4, ← hr5, e3, e4, e5, e6, ← ht]
  rw [e3, ← hr1] at k1
  rw [e4, ← hr2] at k2
  rw [e5, ← hr3] at k3
  rw [← hr4, ← ht] at k4
  rw [e6, ← hr5] at k5
  rw [e1, e2] at hs
  clear hr1 hr2 hr3 hr4 hr5 ht
  have w1 : IntKind.i64.wrap (x1 : Int) = (x1 : Int) := IntWalk.i64_in x1 ⟨by omega, by omega⟩
  have w2 : IntKind.i64.wrap (x2 : Int) = (x2 : Int) := IntWalk.i64_in x2 ⟨by omega, by omega⟩
  have w3 : IntKind.i64.wrap (x3 : Int) = (x3 : Int) := IntWalk.i64_in x3 ⟨by omega, by omega⟩
  unfold dH
  (repeat (first | (simp (disch := first | exact dis1 | fail) only [evA, Nat.reduceBEq, Nat.reduceAdd, Nat.reduceLeDiff, boxR, rboxR, allocR, fldR, binI, unR, pickR, mknilR, mkslR, buildSlR, buildR, extR, convI, eqB, evU, wrap64, d0, hee, hel, d1, List.map_nil, List.length_nil]) | (with_reducible intro _) | ((with_reducible apply And.intro); omega)))
  refine call_lows 6 rfl ?_; refine call_own [(0, 1, 0)] 1 _ (k1) rfl rfl (by (try simp only [evWA, Nat.reduceBEq, Nat.reduceAdd, Nat.reduceSub, Nat.reduceLeDiff, Nat.reduceLT, implies_true, and_self, Int.natCast_zero, Int.natCast_one, Int.cast_ofNat_Int, evV, encInts, encNats, encBools, encP, Rd.cells, encB]) <;> exact fin1) (by (try simp only [evWA, Nat.reduceBEq, Nat.reduceAdd, Nat.reduceSub, Nat.reduceLeDiff, Nat.reduceLT, implies_true, and_self, Int.natCast_zero, Int.natCast_one, Int.cast_ofNat_Int, evV, encInts, encNats, encBools, encP, Rd.cells, encB]) <;> exact fin1) ?_
  rintro v' H' nx' ⟨rfl, rfl, rfl⟩
  refine ⟨?_, ?_⟩; (· (repeat (first | (simp (disch := first | exact dis1 | fail) only [evA, Nat.reduceBEq, Nat.reduceAdd, Nat.reduceLeDiff, boxR, rboxR, allocR, fldR, binI, unR, pickR, mknilR, mkslR, buildSlR, buildR, extR, convI, eqB, evU, wrap64, rowsLt, elsLt_cons, AV.lt1, AV.lt0, AH.sort, AH.ins, Nat.reduceEqDiff, Nat.reduceLT, if_true, if_false, reduceIte, and_true, true_and, Rd.ren, ren_secs, ren_syms, hel, w1]) | (with_reducible intro _) | ((with_reducible apply And.intro); omega))) <;> ((repeat' with_reducible apply And.intro) <;> first | rfl | omega | exact elsLt_nil | (refine elsLt_map ?_; intro _; rfl) | fail)); (repeat (first | (simp (disch := first | exact dis1 | fail) only [evA, Nat.reduceBEq, Nat.reduceAdd, Nat.reduceLeDiff, boxR, rboxR, allocR, fldR, binI, unR, pickR, mknilR, mkslR, buildSlR, buildR, extR, convI, eqB, evU, wrap64, AH.sort, AH.ins, Nat.reduceEqDiff, Nat.reduceLT, if_true, if_false, reduceIte, Rd.ren, ren_secs, ren_syms, hel, w1]) | (with_reducible intro _) | ((with_reducible apply And.intro); omega)))
  refine call_lows 7 rfl ?_; refine call_own [(0, 1, 0)] 1 _ (k2) rfl rfl (by (try simp only [evWA, Nat.reduceBEq, Nat.reduceAdd, Nat.reduceSub, Nat.reduceLeDiff, Nat.reduceLT, implies_true, and_self, Int.natCast_zero, Int.natCast_one, Int.cast_ofNat_Int, evV, encInts, encNats, encBools, encP, Rd.cells, encB]) <;> exact fin1) (by (try simp only [evWA, Nat.reduceBEq, Nat.reduceAdd, Nat.reduceSub, Nat.reduceLeDiff, Nat.reduceLT, implies_true, and_self, Int.natCast_zero, Int.natCast_one, Int.cast_ofNat_Int, evV, encInts, encNats, encBools, encP, Rd.cells, encB]) <;> exact fin1) ?_
  rintro v' H' nx' ⟨rfl, rfl, rfl⟩
  refine ⟨?_, ?_⟩; (· (repeat (first | (simp (disch := first | exact dis1 | fail) only [evA, Nat.reduceBEq, Nat.reduceAdd, Nat.reduceLeDiff, boxR, rboxR, allocR, fldR, binI, unR, pickR, mknilR, mkslR, buildSlR, buildR, extR, convI, eqB, evU, wrap64, rowsLt, elsLt_cons, AV.lt1, AV.lt0, AH.sort, AH.ins, Nat.reduceEqDiff, Nat.reduceLT, if_true, if_false, reduceIte, and_true, true_and, Rd.ren, ren_secs, ren_syms, hel, w2]) | (with_reducible intro _) | ((with_reducible apply And.intro); omega))) <;> ((repeat' with_reducible apply And.intro) <;> first | rfl | omega | exact elsLt_nil | (refine elsLt_map ?_; intro _; rfl) | fail)); (repeat (first | (simp (disch := first | exact dis1 | fail) only [evA, Nat.reduceBEq, Nat.reduceAdd, Nat.reduceLeDiff, boxR, rboxR, allocR, fldR, binI, unR, pickR, mknilR, mkslR, buildSlR, buildR, extR, convI, eqB, evU, wrap64, AH.sort, AH.ins, Nat.reduceEqDiff, Nat.reduceLT, if_true, if_false, reduceIte, Rd.ren, ren_secs, ren_syms, hel, w2]) | (with_reducible intro _) | ((with_reducible apply And.intro); omega)))
  refine call_lows 7 rfl ?_; refine call_own [(0, 1, 0)] 1 _ (k3) rfl rfl (by (try simp only [evWA, Nat.reduceBEq, Nat.reduceAdd, Nat.reduceSub, Nat.reduceLeDiff, Nat.reduceLT, implies_true, and_self, Int.natCast_zero, Int.natCast_one, Int.cast_ofNat_Int, evV, encInts, encNats, encBools, encP, Rd.cells, encB]) <;> exact fin1) (by (try simp only [evWA, Nat.reduceBEq, Nat.reduceAdd, Nat.reduceSub, Nat.reduceLeDiff, Nat.reduceLT, implies_true, and_self, Int.natCast_zero, Int.natCast_one, Int.cast_ofNat_Int, evV, encInts, encNats, encBools, encP, Rd.cells, encB]) <;> exact fin1) ?_
  rintro v' H' nx' ⟨rfl, rfl, rfl⟩
  refine ⟨?_, ?_⟩; (· (repeat (first | (simp (disch := first | exact dis1 | fail) only [evA, Nat.reduceBEq, Nat.reduceAdd, Nat.reduceLeDiff, boxR, rboxR, allocR, fldR, binI, unR, pickR, mknilR, mkslR, buildSlR, buildR, extR, convI, eqB, evU, wrap64, rowsLt, elsLt_cons, AV.lt1, AV.lt0, AH.sort, AH.ins, Nat.reduceEqDiff, Nat.reduceLT, if_true, if_false, reduceIte, and_true, true_and, Rd.ren, ren_secs, ren_syms, hel, w3]) | (with_reducible intro _) | ((with_reducible apply And.intro); omega))) <;> ((repeat' with_reducible apply And.intro) <;> first | rfl | omega | exact elsLt_nil | (refine elsLt_map ?_; intro _; rfl) | fail)); (repeat (first | (simp (disch := first | exact dis1 | fail) only [evA, Nat.reduceBEq, Nat.reduceAdd, Nat.reduceLeDiff, boxR, rboxR, allocR, fldR, binI, unR, pickR, mknilR, mkslR, buildSlR, buildR, extR, convI, eqB, evU, wrap64, AH.sort, AH.ins, Nat.reduceEqDiff, Nat.reduceLT, if_true, if_false, reduceIte, Rd.ren, ren_secs, ren_syms, hel, w3]) | (with_reducible intro _) | ((with_reducible apply And.intro); omega)))
  refine call_lows 7 rfl ?_; refine call_own [(0, 1, 0)] 1 _ (k4) rfl rfl (by (try simp only [evWA, Nat.reduceBEq, Nat.reduceAdd, Nat.reduceSub, Nat.reduceLeDiff, Nat.reduceLT, implies_true, and_self, Int.natCast_zero, Int.natCast_one, Int.cast_ofNat_Int, evV, encInts, encNats, encBools, encP, Rd.cells, encB]) <;> exact fin1) (by (try simp only [evWA, Nat.reduceBEq, Nat.reduceAdd, Nat.reduceSub, Nat.reduceLeDiff, Nat.reduceLT, implies_true, and_self, Int.natCast_zero, Int.natCast_one, Int.cast_ofNat_Int, evV, encInts, encNats, encBools, encP, Rd.cells, encB]) <;> exact fin1) ?_
  rintro v' H' nx' ⟨rfl, rfl, rfl⟩
  refine ⟨?_, ?_⟩; (· (repeat (first | (simp (disch := first | exact dis1 | fail) only [evA, Nat.reduceBEq, Nat.reduceAdd, Nat.reduceLeDiff, boxR, rboxR, allocR, fldR, binI, unR, pickR, mknilR, mkslR, buildSlR, buildR, extR, convI, eqB, evU, wrap64, rowsLt, elsLt_cons, AV.lt1, AV.lt0, AH.sort, AH.ins, Nat.reduceEqDiff, Nat.reduceLT, if_true, if_false, reduceIte, and_true, true_and, Rd.ren, ren_secs, ren_syms, hel]) | (with_reducible intro _) | ((with_reducible apply And.intro); omega))) <;> ((repeat' with_reducible apply And.intro) <;> first | rfl | omega | exact elsLt_nil | (refine elsLt_map ?_; intro _; rfl) | fail)); (repeat (first | (simp (disch := first | exact dis1 | fail) only [evA, Nat.reduceBEq, Nat.reduceAdd, Nat.reduceLeDiff, boxR, rboxR, allocR, fldR, binI, unR, pickR, mknilR, mkslR, buildSlR, buildR, extR, convI, eqB, evU, wrap64, AH.sort, AH.ins, Nat.reduceEqDiff, Nat.reduceLT, if_true, if_false, reduceIte, Rd.ren, ren_secs, ren_syms, hel]) | (with_reducible intro _) | ((with_reducible apply And.intro); omega)))
  refine call_lows 7 rfl ?_; refine call_own [(0, 1, 0)] 1 _ (k5) rfl rfl (by (try simp only [evWA, Nat.reduceBEq, Nat.reduceAdd, Nat.reduceSub, Nat.reduceLeDiff, Nat.reduceLT, implies_true, and_self, Int.natCast_zero, Int.natCast_one, Int.cast_ofNat_Int, evV, encInts, encNats, encBools, encP, Rd.cells, encB]) <;> exact fin1) (by (try simp only [evWA, Nat.reduceBEq, Nat.reduceAdd, Nat.reduceSub, Nat.reduceLeDiff, Nat.reduceLT, implies_true, and_self, Int.natCast_zero, Int.natCast_one, Int.cast_ofNat_Int, evV, encInts, encNats, encBools, encP, Rd.cells, encB]) <;> exact fin1) ?_
  rintro v' H' nx' ⟨rfl, rfl, rfl⟩
  refine ⟨?_, ?_⟩; (· (repeat (first | (simp (disch := first | exact dis1 | fail) only [evA, Nat.reduceBEq, Nat.reduceAdd, Nat.reduceLeDiff, boxR, rboxR, allocR, fldR, binI, unR, pickR, mknilR, mkslR, buildSlR, buildR, extR, convI, eqB, evU, wrap64, rowsLt, elsLt_cons, AV.lt1, AV.lt0, AH.sort, AH.ins, Nat.reduceEqDiff, Nat.reduceLT, if_true, if_false, reduceIte, and_true, true_and, Rd.ren, ren_secs, ren_syms, hel, hw]) | (with_reducible intro _) | ((with_reducible apply And.intro); omega))) <;> ((repeat' with_reducible apply And.intro) <;> first | rfl | omega | exact elsLt_nil | (refine elsLt_map ?_; intro _; rfl) | fail)); (repeat (first | (simp (disch := first | exact dis1 | fail) only [evA, Nat.reduceBEq, Nat.reduceAdd, Nat.reduceLeDiff, boxR, rboxR, allocR, fldR, binI, unR, pickR, mknilR, mkslR, buildSlR, buildR, extR, convI, eqB, evU, wrap64, AH.sort, AH.ins, Nat.reduceEqDiff, Nat.reduceLT, if_true, if_false, reduceIte, Rd.ren, ren_secs, ren_syms, hel, hw]) | (with_reducible intro _) | ((with_reducible apply And.intro); omega)))
  have hY' : (acc ++ [(⟨x1, x2, x3, tx, IntKind.i32.wrap x4⟩ : Rel)]).map Rel.cells = acc.map Rel.cells ++ [[AV.int .i64 x1, .int .i64 x2, .int .i64 x3, .str tx, .int .i32 (IntKind.i32.wrap x4)]] := by
    rw [List.map_append]
    rfl
  have hL : (acc ++ [(⟨x1, x2, x3, tx, IntKind.i32.wrap x4⟩ : Rel)]).length = acc.length + 1 := List.length_append
  refine ⟨(i + 1, r5, acc ++ [(⟨x1, x2, x3, tx, IntKind.i32.wrap x4⟩ : Rel)]), ⟨by omega, by rw [hL]; omega, hf5, by rw [show nR - (i + 1) = m by omega]; simpa using hs⟩, by show nR - (i + 1) < nR - i; omega, ?_⟩
  simp only [hY', hL]
  exact (Ent.tab [(0, 0, 0), (1, 1, 0), (2, 2, 0), (3, 3, 0), (4, 4, 0), (5, 5, 1)] [] rfl (by (try simp only [evWA, Nat.reduceBEq, Nat.reduceAdd, Nat.reduceSub, Nat.reduceLeDiff, Nat.reduceLT, implies_true, and_self, Int.natCast_zero, Int.natCast_one, Int.cast_ofNat_Int, evV, encInts, encNats, encBools, encP, encB]) <;> exact fin2) (by (try simp only [evWA, Nat.reduceBEq, Nat.reduceAdd, Nat.reduceSub, Nat.reduceLeDiff, Nat.reduceLT, implies_true, and_self, Int.natCast_zero, Int.natCast_one, Int.cast_ofNat_Int, evV, encInts, encNats, encBools, encP, encB]) <;> exact fin2))


end Go.Ab

namespace Go.Ab
open Go.RowKit Go.Proofs

def magicR (b : List UInt8) : Rd := if ((Rd.start b).number 4).2.e = 0 ∧ ((Rd.start b).number 4).1 ≠ 827278148 then ((Rd.start b).number 4).2.failR 4 else ((Rd.start b).number 4).2

def decodeR (b : List UInt8) : Bin × Int :=
  if 65536 < b.length then (emptyB, 6) else tailR b (bodyR Rd.secsR (magicR b)).1 (bodyR Rd.secsR (magicR b)).2

theorem secsR_in : ∀ (n : Nat) (r : Rd), (Rd.secsR n r).1.length ≤ n ∧ ∀ s ∈ (Rd.secsR n r).1, s.name.size ≤ 32
  | 0, r => ⟨Nat.le_refl _, fun s hs => by cases hs⟩
  | n + 1, r => by
    rw [Rd.secsR]
    split
    · exact ⟨Nat.zero_le _, fun s hs => by cases hs⟩
    · have ih := secsR_in n r.sec.2
      refine ⟨Nat.succ_le_succ ih.1, fun s hs => ?_⟩
      rcases List.mem_cons.1 hs with rfl | hs
      · exact Rd.text_size r
      · exact ih.2 s hs
theorem secsR_fine : ∀ (n : Nat) (r : Rd), r.fine → (Rd.secsR n r).2.fine
  | 0, r, h => h
  | n + 1, r, h => by
    rw [Rd.secsR]
    split
    · exact h
    · exact secsR_fine n r.sec.2 (Rd.sec_fine h)
theorem secsR_b : ∀ (n : Nat) (r : Rd), (Rd.secsR n r).2.b = r.b
  | 0, r => rfl
  | n + 1, r => by
    rw [Rd.secsR]
    split
    · rfl
    · exact (secsR_b n _).trans (Rd.secP_b (r := r))
theorem magicR_fine {b : List UInt8} (h : b.length ≤ 70000) : (magicR b).fine := by
  have := Rd.number_fine (w := 4) (Rd.start_fine h) (by decide)
  unfold magicR
  split
  · exact Rd.failR_fine this (by decide)
  · exact this
theorem magicR_b {b : List UInt8} : (magicR b).b = b := by
  unfold magicR
  split
  · rw [Rd.failR_b, Rd.number_b]; rfl
  · rw [Rd.number_b]; rfl

theorem R08_Decode_ok (b : List UInt8) (hb : b.length ≤ 70000) : PureFn Try.prog f_R08_Decode [encB b] (· = .tup [.agg (decodeR b).1.cells, .int .i64 (decodeR b).2]) := by
  refine fn_x cf_R08_Decode rfl ?_
  unfold ac_R08_Decode
  have hB : big = 9223372036854775807 := rfl
  have hee : ∀ x : Rd, (Rd.cells x).getD 2 .undef = .int .i64 x.e := fun _ => rfl
  have hpp : ∀ x : Rd, (Rd.cells x).getD 1 .undef = .int .i64 x.p := fun _ => rfl
  have hel : ∀ x : Rd, (Rd.cells x).length = 3 := fun _ => rfl
  have hst : ∀ (x : Rd) (n : Int), splice (Rd.cells x) 2 [AV.int .i64 n] = (⟨x.b, x.p, n⟩ : Rd).cells := fun _ _ => rfl
  (repeat (first | (simp (disch := first | exact dis1 | fail) only [evA, Nat.reduceBEq, Nat.reduceAdd, Nat.reduceLeDiff, boxR, rboxR, allocR, fldR, binI, unR, pickR, mknilR, mkslR, buildSlR, buildR, extR, convI, eqB, evU, wrap64, encB]) | (with_reducible intro _) | ((with_reducible apply And.intro); omega)))
  by_cases h1 : 65536 < b.length
  · have e : decodeR b = (emptyB, 6) := if_pos h1
    rw [e]
    (repeat (first | (simp (disch := first | exact dis1 | fail) only [evA, Nat.reduceBEq, Nat.reduceAdd, Nat.reduceLeDiff, boxR, rboxR, allocR, fldR, binI, unR, pickR, mknilR, mkslR, buildSlR, buildR, extR, convI, eqB, evU, wrap64, dT, rs_R08_Decode]) | (with_reducible intro _) | ((with_reducible apply And.intro); omega)))
    exact ⟨_, empty_frz, rfl⟩
  have hdec : decodeR b = tailR b (bodyR Rd.secsR (magicR b)).1 (bodyR Rd.secsR (magicR b)).2 := if_neg h1
  rw [hdec]
  have k0 := R08_reader_number_ok (Rd.start b) 4 (Rd.start_fine hb).toOk (by decide)
  (repeat (first | (simp (disch := first | exact dis1 | fail) only [evA, Nat.reduceBEq, Nat.reduceAdd, Nat.reduceLeDiff, boxR, rboxR, allocR, fldR, binI, unR, pickR, mknilR, mkslR, buildSlR, buildR, extR, convI, eqB, evU, wrap64, dF, start_cells]) | (with_reducible intro _) | ((with_reducible apply And.intro); omega)))
  refine call_lows 2 rfl ?_; refine call_own [(0, 1, 0)] 1 _ (k0) rfl rfl (by (try simp only [evWA, Nat.reduceBEq, Nat.reduceAdd, Nat.reduceSub, Nat.reduceLeDiff, Nat.reduceLT, implies_true, and_self, Int.natCast_zero, Int.natCast_one, Int.cast_ofNat_Int, evV, encInts, encNats, encBools, encP, Rd.cells, encB]) <;> exact fin1) (by (try simp only [evWA, Nat.reduceBEq, Nat.reduceAdd, Nat.reduceSub, Nat.reduceLeDiff, Nat.reduceLT, implies_true, and_self, Int.natCast_zero, Int.natCast_one, Int.cast_ofNat_Int, evV, encInts, encNats, encBools, encP, Rd.cells, encB]) <;> exact fin1) ?_
  rintro v' H' nx' ⟨rfl, rfl, rfl⟩
  refine ⟨?_, ?_⟩; (· (repeat (first | (simp (disch := first | exact dis1 | fail) only [evA, Nat.reduceBEq, Nat.reduceAdd, Nat.reduceLeDiff, boxR, rboxR, allocR, fldR, binI, unR, pickR, mknilR, mkslR, buildSlR, buildR, extR, convI, eqB, evU, wrap64, rowsLt, elsLt_cons, AV.lt1, AV.lt0, AH.sort, AH.ins, Nat.reduceEqDiff, Nat.reduceLT, if_true, if_false, reduceIte, and_true, true_and, Rd.ren]) | (with_reducible intro _) | ((with_reducible apply And.intro); omega))) <;> ((repeat' with_reducible apply And.intro) <;> first | rfl | omega | exact elsLt_nil | (refine elsLt_map ?_; intro _; rfl) | fail)); (repeat (first | (simp (disch := first | exact dis1 | fail) only [evA, Nat.reduceBEq, Nat.reduceAdd, Nat.reduceLeDiff, boxR, rboxR, allocR, fldR, binI, unR, pickR, mknilR, mkslR, buildSlR, buildR, extR, convI, eqB, evU, wrap64, AH.sort, AH.ins, Nat.reduceEqDiff, Nat.reduceLT, if_true, if_false, reduceIte, Rd.ren]) | (with_reducible intro _) | ((with_reducible apply And.intro); omega)))
  refine joinX_intro (fun _ : Unit => ([(0, encB b), (2, .ptr 0 0 0 0 0), (4, .ptr 1 0 0 0 0)], [(0, .row 4 [[.int .u32 0, .nilsl, .nilsl, .nilsl]] 0), (1, .row 3 [(magicR b).cells] 0)])) 2 (fun _ => True) ?_ ?_
  · have hM : magicR b = if ((Rd.start b).number 4).2.e = 0 ∧ ((Rd.start b).number 4).1 ≠ 827278148 then ((Rd.start b).number 4).2.failR 4 else ((Rd.start b).number 4).2 := rfl
    rw [hM]
    generalize (Rd.start b).number 4 = q at *
    obtain ⟨q1, q2⟩ := q
    simp only
    by_cases hq : q2.e = 0
    · have d1 : decide (q2.e = 0) = true := decide_eq_true hq
      (repeat (first | (simp (disch := first | exact dis1 | fail) only [evA, Nat.reduceBEq, Nat.reduceAdd, Nat.reduceLeDiff, boxR, rboxR, allocR, fldR, binI, unR, pickR, mknilR, mkslR, buildSlR, buildR, extR, convI, eqB, evU, wrap64, hee, hel, d1, encB]) | (with_reducible intro _) | ((with_reducible apply And.intro); omega)))
      by_cases hm : q1 = 827278148
      · have d2 : decide (q1 ≠ 827278148) = false := decide_eq_false (fun h => h hm)
        rw [if_neg (fun h => h.2 hm)]
        (repeat (first | (simp (disch := first | exact dis1 | fail) only [evA, Nat.reduceBEq, Nat.reduceAdd, Nat.reduceLeDiff, boxR, rboxR, allocR, fldR, binI, unR, pickR, mknilR, mkslR, buildSlR, buildR, extR, convI, eqB, evU, wrap64, d2]) | (with_reducible intro _) | ((with_reducible apply And.intro); omega)))
        exact ⟨(), Ent.keep rfl (by (try simp [subK, Kn.get, beq_eq]) <;> (repeat' with_reducible apply And.intro) <;> first | rfl | omega | (simp; done))⟩
      · have d2 : decide (q1 ≠ 827278148) = true := decide_eq_true hm
        have hf : q2.failR 4 = ⟨q2.b, q2.p, 4⟩ := if_pos hq
        rw [if_pos ⟨hq, hm⟩, hf]
        (repeat (first | (simp (disch := first | exact dis1 | fail) only [evA, Nat.reduceBEq, Nat.reduceAdd, Nat.reduceLeDiff, boxR, rboxR, allocR, fldR, binI, unR, pickR, mknilR, mkslR, buildSlR, buildR, extR, convI, eqB, evU, wrap64, d2, hel, hst]) | (with_reducible intro _) | ((with_reducible apply And.intro); omega)))
        exact ⟨(), Ent.keep rfl (by (try simp [subK, Kn.get, beq_eq]) <;> (repeat' with_reducible apply And.intro) <;> first | rfl | omega | (simp; done))⟩
    · have d1 : decide (q2.e = 0) = false := decide_eq_false hq
      rw [if_neg (fun h => hq h.1)]
      (repeat (first | (simp (disch := first | exact dis1 | fail) only [evA, Nat.reduceBEq, Nat.reduceAdd, Nat.reduceLeDiff, boxR, rboxR, allocR, fldR, binI, unR, pickR, mknilR, mkslR, buildSlR, buildR, extR, convI, eqB, evU, wrap64, hee, hel, d1, encB]) | (with_reducible intro _) | ((with_reducible apply And.intro); omega)))
      exact ⟨(), Ent.keep rfl (by (try simp [subK, Kn.get, beq_eq]) <;> (repeat' with_reducible apply And.intro) <;> first | rfl | omega | (simp; done))⟩
  rintro ⟨⟩ _ wf
  unfold ac_R08_Decode_k7
  have f0 : (magicR b).fine := magicR_fine hb
  have fb : (magicR b).b = b := magicR_b
  generalize magicR b = m at *
  obtain ⟨en, hen, e1⟩ := Rd.number_small m 4
  obtain ⟨m1, hm1⟩ : ∃ x, x = (m.number 4).2 := ⟨_, rfl⟩
  obtain ⟨nS, hnS, e2⟩ := Rd.number_small m1 1
  obtain ⟨m2, hm2⟩ : ∃ x, x = (m1.number 1).2 := ⟨_, rfl⟩
  obtain ⟨nY, hnY, e3⟩ := Rd.number_small m2 2
  obtain ⟨m3, hm3⟩ : ∃ x, x = (m2.number 2).2 := ⟨_, rfl⟩
  obtain ⟨nR, hnR, e4⟩ := Rd.number_small m3 2
  obtain ⟨m4, hm4⟩ : ∃ x, x = (m3.number 2).2 := ⟨_, rfl⟩
  have f1 : m1.fine := by rw [hm1]; exact Rd.number_fine f0 (by decide)
  have f2 : m2.fine := by rw [hm2]; exact Rd.number_fine f1 (by decide)
  have f3 : m3.fine := by rw [hm3]; exact Rd.number_fine f2 (by decide)
  have f4 : m4.fine := by rw [hm4]; exact Rd.number_fine f3 (by decide)
  have k1 := R08_reader_number_ok m 4 f0.toOk (by decide)
  have k2 := R08_reader_number_ok m1 1 f1.toOk (by decide)
  have k3 := R08_reader_number_ok m2 2 f2.toOk (by decide)
  have k4 := R08_reader_number_ok m3 2 f3.toOk (by decide)
  have hc : m.cnts = (⟨en, nS, nY, nR⟩, m4) := by
    unfold Rd.cnts
    simp only [← hm1, ← hm2, ← hm3, ← hm4, e1, e2, e3, e4, Int.toNat_natCast]
  rw [e1, ← hm1] at k1
  rw [e2, ← hm2] at k2
  rw [e3, ← hm3] at k3
  rw [e4, ← hm4] at k4
  obtain ⟨S, hS⟩ : ∃ x, x = (Rd.secsR nS m4).1 := ⟨_, rfl⟩
  obtain ⟨m5, hm5⟩ : ∃ x, x = (Rd.secsR nS m4).2 := ⟨_, rfl⟩
  obtain ⟨Y, hY⟩ : ∃ x, x = (Rd.syms nY m5).1 := ⟨_, rfl⟩
  obtain ⟨m6, hm6⟩ : ∃ x, x = (Rd.syms nY m5).2 := ⟨_, rfl⟩
  obtain ⟨R, hR⟩ : ∃ x, x = (Rd.rels nR m6).1 := ⟨_, rfl⟩
  obtain ⟨m7, hm7⟩ : ∃ x, x = (Rd.rels nR m6).2 := ⟨_, rfl⟩
  have f5 : m5.fine := by rw [hm5]; exact secsR_fine _ _ f4
  have f6 : m6.fine := by rw [hm6]; exact syms_fine _ _ f5
  have f7 : m7.fine := by rw [hm7]; exact rels_fine _ _ f6
  have hbody : bodyR Rd.secsR m = (⟨UInt32.ofNat en, S, Y, R⟩, m7) := by
    unfold bodyR
    simp only [hc, ← hS, ← hm5, ← hY, ← hm6, ← hR, ← hm7]
  have b7 : m7.b = b := by rw [hm7, rels_b, hm6, syms_b, hm5, secsR_b, hm4, Rd.number_b, hm3, Rd.number_b, hm2, Rd.number_b, hm1, Rd.number_b, fb]
  have iS := secsR_in nS m4
  have iY := syms_in nY m5
  have iR := rels_in nR m6
  rw [← hS] at iS
  rw [← hY] at iY
  rw [← hR] at iR
  rw [hbody]
  simp only
  simp only [show (256 : Nat) ^ 1 = 256 from rfl, show (256 : Nat) ^ 2 = 65536 from rfl, show (256 : Nat) ^ 4 = 4294967296 from rfl] at hen hnS hnY hnR
  clear hbody hc e1 e2 e3 e4 hm1 hm2 hm3 hm4
  (repeat (first | (simp (disch := first | exact dis1 | fail) only [evA, Nat.reduceBEq, Nat.reduceAdd, Nat.reduceLeDiff, boxR, rboxR, allocR, fldR, binI, unR, pickR, mknilR, mkslR, buildSlR, buildR, extR, convI, eqB, evU, wrap64, encB]) | (with_reducible intro _) | ((with_reducible apply And.intro); omega)))
  refine call_lows 2 rfl ?_; refine call_own [(0, 1, 0)] 1 _ (k1) rfl rfl (by (try simp only [evWA, Nat.reduceBEq, Nat.reduceAdd, Nat.reduceSub, Nat.reduceLeDiff, Nat.reduceLT, implies_true, and_self, Int.natCast_zero, Int.natCast_one, Int.cast_ofNat_Int, evV, encInts, encNats, encBools, encP, Rd.cells, encB]) <;> exact fin1) (by (try simp only [evWA, Nat.reduceBEq, Nat.reduceAdd, Nat.reduceSub, Nat.reduceLeDiff, Nat.reduceLT, implies_true, and_self, Int.natCast_zero, Int.natCast_one, Int.cast_ofNat_Int, evV, encInts, encNats, encBools, encP, Rd.cells, encB]) <;> exact fin1) ?_
  rintro v' H' nx' ⟨rfl, rfl, rfl⟩
  refine ⟨?_, ?_⟩; (· (repeat (first | (simp (disch := first | exact dis1 | fail) only [evA, Nat.reduceBEq, Nat.reduceAdd, Nat.reduceLeDiff, boxR, rboxR, allocR, fldR, binI, unR, pickR, mknilR, mkslR, buildSlR, buildR, extR, convI, eqB, evU, wrap64, rowsLt, elsLt_cons, AV.lt1, AV.lt0, AH.sort, AH.ins, Nat.reduceEqDiff, Nat.reduceLT, if_true, if_false, reduceIte, and_true, true_and, Rd.ren]) | (with_reducible intro _) | ((with_reducible apply And.intro); omega))) <;> ((repeat' with_reducible apply And.intro) <;> first | rfl | omega | exact elsLt_nil | (refine elsLt_map ?_; intro _; rfl) | fail)); (repeat (first | (simp (disch := first | exact dis1 | fail) only [evA, Nat.reduceBEq, Nat.reduceAdd, Nat.reduceLeDiff, boxR, rboxR, allocR, fldR, binI, unR, pickR, mknilR, mkslR, buildSlR, buildR, extR, convI, eqB, evU, wrap64, AH.sort, AH.ins, Nat.reduceEqDiff, Nat.reduceLT, if_true, if_false, reduceIte, Rd.ren]) | (with_reducible intro _) | ((with_reducible apply And.intro); omega)))
  refine call_lows 3 rfl ?_; refine call_own [(0, 1, 0)] 1 _ (k2) rfl rfl (by (try simp only [evWA, Nat.reduceBEq, Nat.reduceAdd, Nat.reduceSub, Nat.reduceLeDiff, Nat.reduceLT, implies_true, and_self, Int.natCast_zero, Int.natCast_one, Int.cast_ofNat_Int, evV, encInts, encNats, encBools, encP, Rd.cells, encB]) <;> exact fin1) (by (try simp only [evWA, Nat.reduceBEq, Nat.reduceAdd, Nat.reduceSub, Nat.reduceLeDiff, Nat.reduceLT, implies_true, and_self, Int.natCast_zero, Int.natCast_one, Int.cast_ofNat_Int, evV, encInts, encNats, encBools, encP, Rd.cells, encB]) <;> exact fin1) ?_
  rintro v' H' nx' ⟨rfl, rfl, rfl⟩
  refine ⟨?_, ?_⟩; (· (repeat (first | (simp (disch := first | exact dis1 | fail) only [evA, Nat.reduceBEq, Nat.reduceAdd, Nat.reduceLeDiff, boxR, rboxR, allocR, fldR, binI, unR, pickR, mknilR, mkslR, buildSlR, buildR, extR, convI, eqB, evU, wrap64, rowsLt, elsLt_cons, AV.lt1, AV.lt0, AH.sort, AH.ins, Nat.reduceEqDiff, Nat.reduceLT, if_true, if_false, reduceIte, and_true, true_and, Rd.ren]) | (with_reducible intro _) | ((with_reducible apply And.intro); omega))) <;> ((repeat' with_reducible apply And.intro) <;> first | rfl | omega | exact elsLt_nil | (refine elsLt_map ?_; intro _; rfl) | fail)); (repeat (first | (simp (disch := first | exact dis1 | fail) only [evA, Nat.reduceBEq, Nat.reduceAdd, Nat.reduceLeDiff, boxR, rboxR, allocR, fldR, binI, unR, pickR, mknilR, mkslR, buildSlR, buildR, extR, convI, eqB, evU, wrap64, AH.sort, AH.ins, Nat.reduceEqDiff, Nat.reduceLT, if_true, if_false, reduceIte, Rd.ren]) | (with_reducible intro _) | ((with_reducible apply And.intro); omega)))
  refine call_lows 3 rfl ?_; refine call_own [(0, 1, 0)] 1 _ (k3) rfl rfl (by (try simp only [evWA, Nat.reduceBEq, Nat.reduceAdd, Nat.reduceSub, Nat.reduceLeDiff, Nat.reduceLT, implies_true, and_self, Int.natCast_zero, Int.natCast_one, Int.cast_ofNat_Int, evV, encInts, encNats, encBools, encP, Rd.cells, encB]) <;> exact fin1) (by (try simp only [evWA, Nat.reduceBEq, Nat.reduceAdd, Nat.reduceSub, Nat.reduceLeDiff, Nat.reduceLT, implies_true, and_self, Int.natCast_zero, Int.natCast_one, Int.cast_ofNat_Int, evV, encInts, encNats, encBools, encP, Rd.cells, encB]) <;> exact fin1) ?_
  rintro v' H' nx' ⟨rfl, rfl, rfl⟩
  refine ⟨?_, ?_⟩; (· (repeat (first | (simp (disch := first | exact dis1 | fail) only [evA, Nat.reduceBEq, Nat.reduceAdd, Nat.reduceLeDiff, boxR, rboxR, allocR, fldR, binI, unR, pickR, mknilR, mkslR, buildSlR, buildR, extR, convI, eqB, evU, wrap64, rowsLt, elsLt_cons, AV.lt1, AV.lt0, AH.sort, AH.ins, Nat.reduceEqDiff, Nat.reduceLT, if_true, if_false, reduceIte, and_true, true_and, Rd.ren]) | (with_reducible intro _) | ((with_reducible apply And.intro); omega))) <;> ((repeat' with_reducible apply And.intro) <;> first | rfl | omega | exact elsLt_nil | (refine elsLt_map ?_; intro _; rfl) | fail)); (repeat (first | (simp (disch := first | exact dis1 | fail) only [evA, Nat.reduceBEq, Nat.reduceAdd, Nat.reduceLeDiff, boxR, rboxR, allocR, fldR, binI, unR, pickR, mknilR, mkslR, buildSlR, buildR, extR, convI, eqB, evU, wrap64, AH.sort, AH.ins, Nat.reduceEqDiff, Nat.reduceLT, if_true, if_false, reduceIte, Rd.ren]) | (with_reducible intro _) | ((with_reducible apply And.intro); omega)))
  refine call_lows 3 rfl ?_; refine call_own [(0, 1, 0)] 1 _ (k4) rfl rfl (by (try simp only [evWA, Nat.reduceBEq, Nat.reduceAdd, Nat.reduceSub, Nat.reduceLeDiff, Nat.reduceLT, implies_true, and_self, Int.natCast_zero, Int.natCast_one, Int.cast_ofNat_Int, evV, encInts, encNats, encBools, encP, Rd.cells, encB]) <;> exact fin1) (by (try simp only [evWA, Nat.reduceBEq, Nat.reduceAdd, Nat.reduceSub, Nat.reduceLeDiff, Nat.reduceLT, implies_true, and_self, Int.natCast_zero, Int.natCast_one, Int.cast_ofNat_Int, evV, encInts, encNats, encBools, encP, Rd.cells, encB]) <;> exact fin1) ?_
  rintro v' H' nx' ⟨rfl, rfl, rfl⟩
  refine ⟨?_, ?_⟩; (· (repeat (first | (simp (disch := first | exact dis1 | fail) only [evA, Nat.reduceBEq, Nat.reduceAdd, Nat.reduceLeDiff, boxR, rboxR, allocR, fldR, binI, unR, pickR, mknilR, mkslR, buildSlR, buildR, extR, convI, eqB, evU, wrap64, rowsLt, elsLt_cons, AV.lt1, AV.lt0, AH.sort, AH.ins, Nat.reduceEqDiff, Nat.reduceLT, if_true, if_false, reduceIte, and_true, true_and, Rd.ren]) | (with_reducible intro _) | ((with_reducible apply And.intro); omega))) <;> ((repeat' with_reducible apply And.intro) <;> first | rfl | omega | exact elsLt_nil | (refine elsLt_map ?_; intro _; rfl) | fail)); (repeat (first | (simp (disch := first | exact dis1 | fail) only [evA, Nat.reduceBEq, Nat.reduceAdd, Nat.reduceLeDiff, boxR, rboxR, allocR, fldR, binI, unR, pickR, mknilR, mkslR, buildSlR, buildR, extR, convI, eqB, evU, wrap64, AH.sort, AH.ins, Nat.reduceEqDiff, Nat.reduceLT, if_true, if_false, reduceIte, Rd.ren]) | (with_reducible intro _) | ((with_reducible apply And.intro); omega)))
  refine R08_loop_secs b en nS nY nR m4 f4 (by omega) (by repeat' first | exact QExt.retK | apply QExt.seq | apply QExt.block) ?_ ?_
  · unfold dH
    exact (Ent.tab [(0, 0, 0), (1, 1, 0), (2, 2, 0)] [] rfl (by (try simp only [evWA, Nat.reduceBEq, Nat.reduceAdd, Nat.reduceSub, Nat.reduceLeDiff, Nat.reduceLT, implies_true, and_self, Int.natCast_zero, Int.natCast_one, Int.cast_ofNat_Int, evV, encInts, encNats, encBools, encP, encB, List.map_nil, List.length_nil]) <;> exact fin2) (by (try simp only [evWA, Nat.reduceBEq, Nat.reduceAdd, Nat.reduceSub, Nat.reduceLeDiff, Nat.reduceLT, implies_true, and_self, Int.natCast_zero, Int.natCast_one, Int.cast_ofNat_Int, evV, encInts, encNats, encBools, encP, encB, List.map_nil, List.length_nil]) <;> exact fin2))
  rw [← hS, ← hm5]
  intro i
  unfold ac_R08_Decode_k6
  (repeat (first | (simp (disch := first | exact dis1 | fail) only [evA, Nat.reduceBEq, Nat.reduceAdd, Nat.reduceLeDiff, boxR, rboxR, allocR, fldR, binI, unR, pickR, mknilR, mkslR, buildSlR, buildR, extR, convI, eqB, evU, wrap64]) | (with_reducible intro _) | ((with_reducible apply And.intro); omega)))
  refine R08_loop_syms b en nY nR S m5 f5 (by omega) (by repeat' first | exact QExt.retK | apply QExt.seq | apply QExt.block) ?_ ?_
  · exact Ent.keep rfl (by (try simp [subK, Kn.get, beq_eq]) <;> (repeat' with_reducible apply And.intro) <;> first | rfl | omega | (simp; done))
  rw [← hY, ← hm6]
  intro i2
  unfold ac_R08_Decode_k5
  (repeat (first | (simp (disch := first | exact dis1 | fail) only [evA, Nat.reduceBEq, Nat.reduceAdd, Nat.reduceLeDiff, boxR, rboxR, allocR, fldR, binI, unR, pickR, mknilR, mkslR, buildSlR, buildR, extR, convI, eqB, evU, wrap64]) | (with_reducible intro _) | ((with_reducible apply And.intro); omega)))
  refine R08_loop_rels b en nR S Y m6 f6 (by omega) (by repeat' first | exact QExt.retK | apply QExt.seq | apply QExt.block) ?_ ?_
  · exact Ent.keep rfl (by (try simp [subK, Kn.get, beq_eq]) <;> (repeat' with_reducible apply And.intro) <;> first | rfl | omega | (simp; done))
  rw [← hR, ← hm7]
  intro i3
  clear hS hm5 hY hm6 hR hm7
  unfold ac_R08_Decode_k4 dH
  obtain ⟨sm, hsm, e8⟩ := Rd.number_val m7 (w := 4) (by decide)
  have k8 := R08_reader_number_ok m7 4 f7.toOk (by decide)
  obtain ⟨m8, hm8⟩ : ∃ x, x = (m7.number 4).2 := ⟨_, rfl⟩
  rw [e8, ← hm8] at k8
  (repeat (first | (simp (disch := first | exact dis1 | fail) only [evA, Nat.reduceBEq, Nat.reduceAdd, Nat.reduceLeDiff, boxR, rboxR, allocR, fldR, binI, unR, pickR, mknilR, mkslR, buildSlR, buildR, extR, convI, eqB, evU, wrap64, hpp, hel]) | (with_reducible intro _) | ((with_reducible apply And.intro); omega)))
  refine call_lows 6 rfl ?_; refine call_own [(0, 1, 0)] 1 _ (k8) rfl rfl (by (try simp only [evWA, Nat.reduceBEq, Nat.reduceAdd, Nat.reduceSub, Nat.reduceLeDiff, Nat.reduceLT, implies_true, and_self, Int.natCast_zero, Int.natCast_one, Int.cast_ofNat_Int, evV, encInts, encNats, encBools, encP, Rd.cells, encB]) <;> exact fin1) (by (try simp only [evWA, Nat.reduceBEq, Nat.reduceAdd, Nat.reduceSub, Nat.reduceLeDiff, Nat.reduceLT, implies_true, and_self, Int.natCast_zero, Int.natCast_one, Int.cast_ofNat_Int, evV, encInts, encNats, encBools, encP, Rd.cells, encB]) <;> exact fin1) ?_
  rintro v' H' nx' ⟨rfl, rfl, rfl⟩
  refine ⟨?_, ?_⟩; (· (repeat (first | (simp (disch := first | exact dis1 | fail) only [evA, Nat.reduceBEq, Nat.reduceAdd, Nat.reduceLeDiff, boxR, rboxR, allocR, fldR, binI, unR, pickR, mknilR, mkslR, buildSlR, buildR, extR, convI, eqB, evU, wrap64, rowsLt, elsLt_cons, AV.lt1, AV.lt0, AH.sort, AH.ins, Nat.reduceEqDiff, Nat.reduceLT, if_true, if_false, reduceIte, and_true, true_and, Rd.ren, ren_secs, ren_syms, ren_rels, hee, hel]) | (with_reducible intro _) | ((with_reducible apply And.intro); omega))) <;> ((repeat' with_reducible apply And.intro) <;> first | rfl | omega | exact elsLt_nil | (refine elsLt_map ?_; intro _; rfl) | fail)); (repeat (first | (simp (disch := first | exact dis1 | fail) only [evA, Nat.reduceBEq, Nat.reduceAdd, Nat.reduceLeDiff, boxR, rboxR, allocR, fldR, binI, unR, pickR, mknilR, mkslR, buildSlR, buildR, extR, convI, eqB, evU, wrap64, AH.sort, AH.ins, Nat.reduceEqDiff, Nat.reduceLT, if_true, if_false, reduceIte, Rd.ren, ren_secs, ren_syms, ren_rels, hee, hel]) | (with_reducible intro _) | ((with_reducible apply And.intro); omega)))
  by_cases h8 : m8.e = 0
  case neg =>
    have d1 : decide (m8.e ≠ 0) = true := decide_eq_true h8
    have d2 : decide (m8.e = 0) = false := decide_eq_false h8
    have ht : tailR b ⟨UInt32.ofNat en, S, Y, R⟩ m7 = (emptyB, m8.e) := by rw [hm8] at h8 ⊢; exact tailR_err h8
    rw [ht]
    (repeat (first | (simp (disch := first | exact dis1 | fail) only [evA, Nat.reduceBEq, Nat.reduceAdd, Nat.reduceLeDiff, boxR, rboxR, allocR, fldR, binI, unR, pickR, mknilR, mkslR, buildSlR, buildR, extR, convI, eqB, evU, wrap64, d1, d2, hee, hel, rs_R08_Decode]) | (with_reducible intro _) | ((with_reducible apply And.intro); omega)))
    exact ⟨⟨_, empty_frz, rfl⟩, ⟨_, empty_frz, rfl⟩⟩
  have d2 : decide (m8.e = 0) = true := decide_eq_true h8
  obtain ⟨q1, q2, q3, q4⟩ := Rd.number_e0 (r := m7) (w := 4) (by rw [← hm8]; exact h8)
  rw [b7] at q3 q4
  rw [← hm8] at q4
  have hp8 : m8.p = m7.p + 4 := by rw [q4]; rfl
  obtain ⟨z, hz⟩ : ∃ z : Nat, m7.p = z := ⟨m7.p.toNat, by omega⟩
  rw [hz] at q3 hp8
  (repeat (first | (simp (disch := first | exact dis1 | fail) only [evA, Nat.reduceBEq, Nat.reduceAdd, Nat.reduceLeDiff, boxR, rboxR, allocR, fldR, binI, unR, pickR, mknilR, mkslR, buildSlR, buildR, extR, convI, eqB, evU, wrap64, d2, encB, hee, hel, hz, hpp, sliceR_to]) | (with_reducible intro _) | ((with_reducible apply And.intro); omega)))
  have hck := R08_Checksum_ok (b.take z) (by rw [List.length_take]; omega)
  have hzz : m7.p.toNat = z := by rw [hz]; rfl
  have h80 : (m7.number 4).2.e = 0 := by rw [← hm8]; exact h8
  refine callX_fix (call_fix (D := noR) hck (.cons (vw_cut (l := b) (z := 0) (n := z) (by omega)) .nil) (.inl rfl)) ?_
  have hif : (m7.number 4).1 = (sm : Int) := e8
  have ht1 := @tailR_bad b ⟨UInt32.ofNat en, S, Y, R⟩ m7 h80
  have ht2 := @tailR_check b ⟨UInt32.ofNat en, S, Y, R⟩ m7 h80
  have ht3 := @tailR_good b ⟨UInt32.ofNat en, S, Y, R⟩ m7 h80
  rw [hif, hzz, ← hm8, hp8] at ht1 ht2 ht3
  have c0 : decide ((4 : Int) = 0) = false := rfl
  have c1 : decide ((4 : Int) ≠ 0) = true := rfl
  generalize sumK (b.take z) (b.take z).length = su at *
  by_cases hsu : (sm : Int) = su
  case neg =>
    have d3 : decide ((sm : Int) ≠ su) = true := decide_eq_true hsu
    rw [ht1 (.inl hsu)]
    (repeat (first | (simp (disch := first | exact dis1 | fail) only [evA, Nat.reduceBEq, Nat.reduceAdd, Nat.reduceLeDiff, boxR, rboxR, allocR, fldR, binI, unR, pickR, mknilR, mkslR, buildSlR, buildR, extR, convI, eqB, evU, wrap64, d3, hee, hel, hst, c0, c1, rs_R08_Decode]) | (with_reducible intro _) | ((with_reducible apply And.intro); omega)))
    exact ⟨⟨_, empty_frz, rfl⟩, ⟨_, empty_frz, rfl⟩⟩
  have d3 : decide ((sm : Int) ≠ su) = false := decide_eq_false (fun h => h hsu)
  (repeat (first | (simp (disch := first | exact dis1 | fail) only [evA, Nat.reduceBEq, Nat.reduceAdd, Nat.reduceLeDiff, boxR, rboxR, allocR, fldR, binI, unR, pickR, mknilR, mkslR, buildSlR, buildR, extR, convI, eqB, evU, wrap64, d3, hee, hel, hpp, hp8]) | (with_reducible intro _) | ((with_reducible apply And.intro); omega)))
  by_cases hpl : (z : Int) + 4 = b.length
  case neg =>
    have d4 : decide ((z : Int) + 4 ≠ b.length) = true := decide_eq_true hpl
    rw [ht1 (.inr hpl)]
    (repeat (first | (simp (disch := first | exact dis1 | fail) only [evA, Nat.reduceBEq, Nat.reduceAdd, Nat.reduceLeDiff, boxR, rboxR, allocR, fldR, binI, unR, pickR, mknilR, mkslR, buildSlR, buildR, extR, convI, eqB, evU, wrap64, d4, hee, hel, hst, c0, c1, rs_R08_Decode]) | (with_reducible intro _) | ((with_reducible apply And.intro); omega)))
    exact ⟨⟨_, empty_frz, rfl⟩, ⟨_, empty_frz, rfl⟩⟩
  have d4 : decide ((z : Int) + 4 ≠ b.length) = false := decide_eq_false (fun h => h hpl)
  (repeat (first | (simp (disch := first | exact dis1 | fail) only [evA, Nat.reduceBEq, Nat.reduceAdd, Nat.reduceLeDiff, boxR, rboxR, allocR, fldR, binI, unR, pickR, mknilR, mkslR, buildSlR, buildR, extR, convI, eqB, evU, wrap64, d4, d2, hee, hel, hpp, hp8]) | (with_reducible intro _) | ((with_reducible apply And.intro); omega)))
  have hok : (⟨UInt32.ofNat en, S, Y, R⟩ : Bin).okN := ⟨fun s hs => by have := iS.2 s hs; show _ ≤ big; omega, fun s hs => by have := iY.2 s hs; show _ ≤ big; omega, by have := iY.1; show Y.length ≤ _; omega, by show R.length ≤ _; omega⟩
  have hchk := R08_Check_ok _ hok
  have lS := iS.1
  have lY := iY.1
  refine callX_fix (call_fix (D := allR) hchk (.cons (vw_bin hen trivial trivial trivial rfl rfl rfl (by omega) (by omega) (by omega)) .nil) (.inl rfl)) ?_
  generalize hcc : checkO _ = c at *
  by_cases hc0 : c = 0
  case neg =>
    have d5 : decide (c ≠ 0) = true := decide_eq_true hc0
    rw [ht2 (by rintro (h | h); exact h hsu; exact h hpl) hc0]
    (repeat (first | (simp (disch := first | exact dis1 | fail) only [evA, Nat.reduceBEq, Nat.reduceAdd, Nat.reduceLeDiff, boxR, rboxR, allocR, fldR, binI, unR, pickR, mknilR, mkslR, buildSlR, buildR, extR, convI, eqB, evU, wrap64, d5, hee, hel, hst, rs_R08_Decode]) | (with_reducible intro _) | ((with_reducible apply And.intro); omega)))
    exact ⟨⟨_, empty_frz, rfl⟩, ⟨_, empty_frz, rfl⟩⟩
  subst hc0
  have d5 : decide ((0 : Int) ≠ 0) = false := rfl
  rw [ht3 (by rintro (h | h); exact h hsu; exact h hpl) rfl]
  (repeat (first | (simp (disch := first | exact dis1 | fail) only [evA, Nat.reduceBEq, Nat.reduceAdd, Nat.reduceLeDiff, boxR, rboxR, allocR, fldR, binI, unR, pickR, mknilR, mkslR, buildSlR, buildR, extR, convI, eqB, evU, wrap64, d5, hee, hel, hst, rs_R08_Decode]) | (with_reducible intro _) | ((with_reducible apply And.intro); omega)))
  exact ⟨_, frz_pair (a := .agg [.int .u32 en, .own 3 0 0 0 S.length, .own 4 0 0 0 Y.length, .own 5 0 0 0 R.length]) (vw_bin hen trivial trivial trivial rfl rfl rfl (by omega) (by omega) (by omega)), rfl⟩

end Go.Ab

namespace Go.Ab
open Go.RowKit Go.Proofs

theorem leB_leV : ∀ l : List UInt8, leB (leV l) l.length = l
  | [] => rfl
  | b :: r => by
    have ih := leB_leV r
    have hb := u8_lt b
    unfold leB at ih ⊢
    rw [List.length_cons, List.range_succ_eq_map, List.map_cons, List.map_map]
    congr 1
    · have : (leV (b :: r) / 256 ^ 0) % 256 = b.toNat := by rw [leV, Nat.pow_zero, Nat.div_one]; omega
      unfold byteOf
      rw [this]
      exact UInt8.ofNat_toNat
    · refine Eq.trans ?_ ih
      refine List.map_congr_left fun i _ => ?_
      show byteOf (leV (b :: r) / 256 ^ (i + 1)) = byteOf (leV r / 256 ^ i)
      congr 1
      rw [leV, Nat.pow_succ, Nat.mul_comm (256 ^ i) 256, ← Nat.div_div_eq_div_mul]
      congr 1
      omega

theorem leV_inj {l m : List UInt8} (hl : l.length = m.length) (h : leV l = leV m) : l = m := by
  rw [← leB_leV l, ← leB_leV m, h, hl]

/-! ### An error stays -/

theorem Rd.number_stay {r : Rd} {w : Nat} (h : r.e ≠ 0) : (r.number w).2 = r := by rw [Rd.number_err h]
theorem Rd.bytes_stay {r : Rd} {n : Nat} (h : r.e ≠ 0) : (r.bytes n).2 = r := by rw [Rd.bytes_err h]
theorem Rd.mark_stay {r : Rd} {f : Int} (h : r.e ≠ 0) : r.mark f = r := if_neg fun hh => h hh.2
theorem secsP_stay {n : Nat} {r : Rd} (h : r.e ≠ 0) : Rd.secsP n r = ([], r) := by
  cases n with
  | zero => rfl
  | succ n => rw [Rd.secsP, if_pos h]
theorem secsR_stay {n : Nat} {r : Rd} (h : r.e ≠ 0) : Rd.secsR n r = ([], r) := by
  cases n with
  | zero => rfl
  | succ n => rw [Rd.secsR, if_pos h]
theorem syms_stay {n : Nat} {r : Rd} (h : r.e ≠ 0) : Rd.syms n r = ([], r) := by
  cases n with
  | zero => rfl
  | succ n => rw [Rd.syms, if_pos h]
theorem rels_stay {n : Nat} {r : Rd} (h : r.e ≠ 0) : Rd.rels n r = ([], r) := by
  cases n with
  | zero => rfl
  | succ n => rw [Rd.rels, if_pos h]
theorem cnts_stay {r : Rd} (h : r.e ≠ 0) : r.cnts.2 = r := by
  show ((((r.number 4).2.number 1).2.number 2).2.number 2).2 = r
  rw [Rd.number_stay h, Rd.number_stay h, Rd.number_stay h, Rd.number_stay h]
theorem tail_stay {b : List UInt8} {o : Bin} {r : Rd} (h : r.e ≠ 0) : tailR b o r = (emptyB, r.e) := by
  have := tailR_err (b := b) (o := o) (r := r) (by rw [Rd.number_stay h]; exact h)
  rw [this, Rd.number_stay h]
theorem bodyP_stay {r : Rd} (h : r.e ≠ 0) : (bodyR Rd.secsP r).2 = r := by
  show (Rd.rels r.cnts.1.nR (Rd.syms r.cnts.1.nY (Rd.secsP r.cnts.1.nS r.cnts.2).2).2).2 = r
  rw [cnts_stay h, secsP_stay h, syms_stay h, rels_stay h]
theorem bodyR_stay {r : Rd} (h : r.e ≠ 0) : (bodyR Rd.secsR r).2 = r := by
  show (Rd.rels r.cnts.1.nR (Rd.syms r.cnts.1.nY (Rd.secsR r.cnts.1.nS r.cnts.2).2).2).2 = r
  rw [cnts_stay h, secsR_stay h, syms_stay h, rels_stay h]

/-! ### Sections -/

theorem number_e {r : Rd} {w : Nat} (h : (r.number w).2.e = 0) : r.e = 0 := by
  by_cases he : r.e = 0
  · exact he
  · rw [Rd.number_stay he] at h; exact h
theorem bytes_e {r : Rd} {n : Nat} (h : (r.bytes n).2.e = 0) : r.e = 0 := by
  by_cases he : r.e = 0
  · exact he
  · rw [Rd.bytes_stay he] at h; exact h
theorem mark_e {r : Rd} {f : Int} (h : (r.mark f).e = 0) : r.e = 0 ∧ ¬ 3 < f := by
  by_cases he : r.e = 0
  · refine ⟨he, fun hf => ?_⟩
    have : r.mark f = ⟨r.b, r.p, 4⟩ := if_pos ⟨hf, he⟩
    rw [this] at h
    cases h
  · rw [Rd.mark_stay he] at h; exact absurd h he
theorem sec_flag {r : Rd} (h : r.sec.2.e = 0) : ∃ f : Nat, f ≤ 3 ∧ r.flag = f ∧ r.r3.e = 0 := by
  have h1 : (r.r5.bytes r.size).2.e = 0 := h
  have h2 : (r.r4.number 4).2.e = 0 := bytes_e h1
  have h3 : (r.r3.mark r.flag).e = 0 := number_e h2
  obtain ⟨h4, h5⟩ := mark_e h3
  obtain ⟨f, _, hf⟩ := Rd.number_val r.r2 (w := 1) (by decide)
  have hf : r.flag = f := hf
  exact ⟨f, by omega, hf, h4⟩
theorem flags_same {f : Nat} (h : f ≤ 3) : wrP f = decide ((f : Int).toNat % 2 = 1) ∧ exP f = decide ((f : Int).toNat / 2 = 1) := by
  rcases (by omega : f = 0 ∨ f = 1 ∨ f = 2 ∨ f = 3) with rfl | rfl | rfl | rfl <;> exact ⟨by decide, by decide⟩
theorem secP_same {r : Rd} (h : r.sec.2.e = 0) : r.secP = r.sec := by
  obtain ⟨f, hf, hfl, _⟩ := sec_flag h
  obtain ⟨h1, h2⟩ := flags_same hf
  unfold Rd.secP Rd.sec
  rw [hfl, h1, h2]
theorem secP_snd (r : Rd) : r.secP.2 = r.sec.2 := rfl

theorem secsP_snd : ∀ (n : Nat) (r : Rd), (Rd.secsP n r).2 = (Rd.secsR n r).2
  | 0, r => rfl
  | n + 1, r => by
    rw [Rd.secsP, Rd.secsR]
    by_cases h : r.e ≠ 0
    · rw [if_pos h, if_pos h]
    · rw [if_neg h, if_neg h]
      show (Rd.secsP n r.secP.2).2 = (Rd.secsR n r.sec.2).2
      rw [secP_snd]
      exact secsP_snd n _
theorem secsR_e {n : Nat} {r : Rd} (h : (Rd.secsR n r).2.e = 0) : r.e = 0 := by
  by_cases he : r.e = 0
  · exact he
  · rw [secsR_stay he] at h; exact h
theorem syms_e {n : Nat} {r : Rd} (h : (Rd.syms n r).2.e = 0) : r.e = 0 := by
  by_cases he : r.e = 0
  · exact he
  · rw [syms_stay he] at h; exact h
theorem rels_e {n : Nat} {r : Rd} (h : (Rd.rels n r).2.e = 0) : r.e = 0 := by
  by_cases he : r.e = 0
  · exact he
  · rw [rels_stay he] at h; exact h
theorem secsP_fst : ∀ (n : Nat) (r : Rd), (Rd.secsR n r).2.e = 0 → (Rd.secsP n r).1 = (Rd.secsR n r).1
  | 0, r, _ => rfl
  | n + 1, r, h => by
    have he : ¬ r.e ≠ 0 := fun hc => hc (secsR_e h)
    rw [Rd.secsR, if_neg he] at h
    rw [Rd.secsP, Rd.secsR, if_neg he, if_neg he]
    have h : (Rd.secsR n r.sec.2).2.e = 0 := h
    show r.secP.1 :: (Rd.secsP n r.secP.2).1 = r.sec.1 :: (Rd.secsR n r.sec.2).1
    rw [secP_same (secsR_e h), secsP_fst n _ h]

theorem tail_body (b : List UInt8) (r : Rd) : tailR b (bodyR Rd.secsP r).1 (bodyR Rd.secsP r).2 = tailR b (bodyR Rd.secsR r).1 (bodyR Rd.secsR r).2 := by
  have e2 : (bodyR Rd.secsP r).2 = (bodyR Rd.secsR r).2 := by
    unfold bodyR
    simp only [secsP_snd]
  rw [e2]
  by_cases h : (bodyR Rd.secsR r).2.e = 0
  · have h1 : (Rd.secsR r.cnts.1.nS r.cnts.2).2.e = 0 := syms_e (rels_e h)
    have e1 : (bodyR Rd.secsP r).1 = (bodyR Rd.secsR r).1 := by
      unfold bodyR
      simp only [secsP_snd, secsP_fst _ _ h1]
    rw [e1]
  · rw [tail_stay h, tail_stay h]

theorem five_ne : (5 : Int) ≠ 0 := by decide

theorem decode_same (b : List UInt8) : decodeP b = decodeR b := by
  unfold decodeP decodeR
  by_cases h1 : 65536 < b.length
  · rw [if_pos h1, if_pos h1]
  rw [if_neg h1, if_neg h1]
  by_cases h2 : b.length < 4
  · have hp : magicP b = ⟨b, 0, 5⟩ := by
      have : (Rd.start b).bytes 4 = ([], ⟨b, 0, 5⟩) := Rd.bytes_short rfl (by show (b.length : Int) - 0 < 4; omega)
      unfold magicP
      rw [this]
      exact if_neg fun h => absurd h.1 five_ne
    have hr : magicR b = ⟨b, 4, 5⟩ := by
      have hg : getN b 0 4 = (0, 5) := if_pos (.inr (by omega))
      have : (Rd.start b).number 4 = (0, ⟨b, 4, 5⟩) := by rw [Rd.number_ok rfl]; show ((getN b 0 4).1, (⟨b, 0 + 4, (getN b 0 4).2⟩ : Rd)) = _; rw [hg]; rfl
      unfold magicR
      rw [this]
      exact if_neg fun h => absurd h.1 five_ne
    rw [hp, hr, bodyP_stay (r := ⟨b, 0, 5⟩) five_ne, bodyR_stay (r := ⟨b, 4, 5⟩) five_ne, tail_stay (r := ⟨b, 0, 5⟩) five_ne, tail_stay (r := ⟨b, 4, 5⟩) five_ne]
  · have hm : magicP b = magicR b := by
      have e1 : (Rd.start b).bytes 4 = (cutB b 0 4, ⟨b, 4, 0⟩) := Rd.bytes_ok rfl (by show ¬ (b.length : Int) - 0 < 4; omega)
      have hg : getN b 0 4 = (((leV (cutB b 0 4) : Nat) : Int), 0) := if_neg (by omega)
      have e2 : (Rd.start b).number 4 = (((leV (cutB b 0 4) : Nat) : Int), ⟨b, 4, 0⟩) := by rw [Rd.number_ok rfl]; show ((getN b 0 4).1, (⟨b, 0 + 4, (getN b 0 4).2⟩ : Rd)) = _; rw [hg]; rfl
      unfold magicP magicR
      rw [e1, e2]
      have hl : (cutB b 0 4).length = 4 := cutB_len (by omega)
      have hiff : cutB b 0 4 ≠ magicB ↔ ((leV (cutB b 0 4) : Nat) : Int) ≠ 827278148 := by
        refine not_congr ⟨fun h => by rw [h]; rfl, fun h => leV_inj hl ?_⟩
        have : leV magicB = 827278148 := rfl
        omega
      by_cases hc : cutB b 0 4 ≠ magicB
      · rw [if_pos ⟨rfl, hc⟩, if_pos ⟨rfl, hiff.1 hc⟩]
      · rw [if_neg (fun h => hc h.2), if_neg (fun h => hc (hiff.2 h.2))]
    rw [hm]
    exact tail_body b _

end Go.Ab

namespace Go.Ab
open Go.RowKit Go.Proofs


/-- decompiler/decompilerlaw08.ObjectDecodes -/
def ac_L08_ObjectDecodes : ACode := .seq /-0-/ (.region [ ⟨(some 2), .mov (.c (.bool false)), none⟩] [2]) (.seq /-1-/ (.seq /-2-/ (.region [ ⟨(some 7), .mov (.t 0), none⟩, ⟨(some 8), .len (.t 7), none⟩, ⟨(some 9), .bin .gtr (.t 8) (.c (.int .i64 70000)), none⟩] [7, 8]) (.cond (.t 9) (.seq /-3-/ (.region [ ⟨(some 10), .call f_L08_exampleHolds [], none⟩, ⟨(some 2), .mov (.t 10), none⟩] [0, 9, 10]) (.ret)) (.skip))) (.seq /-4-/ (.region [ ⟨(some 12), .mov (.t 0), none⟩, ⟨(some 13), .call f_object_Decode [(.t 12)], none⟩, ⟨(some 11), .mov (.t 13), none⟩, ⟨(some 14), .ext 0 (.t 11), none⟩, ⟨(some 15), .ext 1 (.t 11), none⟩, ⟨(some 3), .alloc [.int .u32 0, .nilsl, .nilsl, .nilsl], none⟩, ⟨none, .store 4 (.t 3) (.t 14), none⟩, ⟨(some 4), .mov (.t 15), none⟩] [2, 9, 11, 12, 13, 14, 15]) (.seq /-5-/ (.region [ ⟨(some 17), .mov (.t 0), none⟩, ⟨(some 18), .call f_R08_Decode [(.t 17)], none⟩, ⟨(some 16), .mov (.t 18), none⟩, ⟨(some 19), .ext 0 (.t 16), none⟩, ⟨(some 20), .ext 1 (.t 16), none⟩, ⟨(some 5), .alloc [.int .u32 0, .nilsl, .nilsl, .nilsl], none⟩, ⟨none, .store 4 (.t 5) (.t 19), none⟩, ⟨(some 6), .mov (.t 20), none⟩] [0, 16, 17, 18, 19, 20]) (.seq /-6-/ (.region [ ⟨(some 21), .mov (.t 4), none⟩, ⟨(some 22), .mov (.t 6), none⟩, ⟨(some 23), .bin .eql (.t 21) (.t 22), none⟩, ⟨(some 24), .mov (.t 23), none⟩, ⟨(some 25), .load true 4 (.t 3), (some (24, true))⟩, ⟨(some 26), .load true 4 (.t 5), (some (24, true))⟩, ⟨(some 27), .call f_R08_Same [(.t 25), (.t 26)], (some (24, true))⟩, ⟨(some 28), .pick (.t 24) (.t 27) (.c (.bool false)), none⟩, ⟨(some 29), .mov (.t 28), none⟩, ⟨(some 30), .call f_L08_exampleHolds [], (some (29, true))⟩, ⟨(some 31), .pick (.t 29) (.t 30) (.c (.bool false)), none⟩, ⟨(some 2), .mov (.t 31), none⟩] [3, 4, 5, 6, 21, 22, 23, 24, 25, 26, 27, 28, 29, 30, 31]) (.ret)))))

def rs_L08_ObjectDecodes : List ARet := [.tmp 2]

set_option maxRecDepth 100000 in
theorem cf_L08_ObjectDecodes : compF Try.prog f_L08_ObjectDecodes (qRo []) = some (ac_L08_ObjectDecodes.strip, rs_L08_ObjectDecodes, 32) := by kernel_rfl


end Go.Ab
