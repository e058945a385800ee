/-
  Part 8 of the proof: how the calls of this program run, over values instead of memory, and what each function computes.
-/
import Derived.KernelRfl
import Derived.Test.YtpinnphfnmnjlaaKg
set_option linter.unusedVariables false
set_option linter.unusedSimpArgs false
set_option linter.unnecessarySimpa false
set_option linter.unusedSectionVars false

namespace Go.Ab
open Go.RowKit Go.Proofs

def noT : ByteArray := ⟨#[]⟩
def cutT (l : List UInt8) (p n : Nat) : ByteArray := ⟨((l.drop p).take n).toArray⟩
/-- GetText: the text, the place behind it and the error. -/
def getT (l : List UInt8) (p : Int) : ByteArray × Int × Int :=
  if p < 0 ∨ (l.length : Int) ≤ p then (noT, 0, 5)
  else if 32 < (l.getD p.toNat 0).toNat then (noT, 0, 6)
  else if (l.length : Int) - p - 1 < (l.getD p.toNat 0).toNat then (noT, 0, 5)
  else (cutT l (p.toNat + 1) (l.getD p.toNat 0).toNat, p + 1 + (l.getD p.toNat 0).toNat, 0)
def encT (r : ByteArray × Int × Int) : AV := .tup [.str r.1, .int .i64 r.2.1, .int .i64 r.2.2]

theorem els_cut {l : List UInt8} {z n : Nat} {H : AH} (h : z + n ≤ l.length) : elsOf 1 (.sl 1 n (fun i j => ((l.map cByte).getD (z + i) []).getD j .undef)) H = some (((l.drop z).take n).map cByte) := by
  show some _ = some _
  congr 1
  refine List.ext_getElem (by simp; omega) (fun i h1 h2 => ?_)
  have hi : i < n := by simpa using h1
  rw [List.getElem_map, List.getElem_range, List.getElem_map, List.getElem_take, List.getElem_drop]
  show [((l.map cByte).getD (z + i) []).getD 0 .undef] = _
  rw [getD_map (show z + i < l.length by omega)]
  rfl

theorem sliceR_both {sz s : Nat} {α : Type} {f : α → List AV} {l : List α} {k k' : IntKind} {a b : Int} {H : AH} {nx : Nat} : sliceR s (encL sz f l) (some (.int k a)) (some (.int k' b)) H nx = ⟨sz = s ∧ 0 ≤ a ∧ a ≤ b ∧ b ≤ l.length, True, .sl s (b - a).toNat (fun i j => ((l.map f).getD (a.toNat + i) []).getD j .undef), H, nx⟩ := rfl
theorem fits_sl {H : AH} {s n : Nat} {f : Nat → Nat → AV} : fits H (.sl s n f) = True := rfl
theorem lenV_sl {s n : Nat} {f : Nat → Nat → AV} : lenV (.sl s n f) = some n := rfl

theorem image_GetText_ok (l : List UInt8) (p : Int) : PureFn Try.prog f_image_GetText [encB l, .int .i64 p] (· = encT (getT l p)) := by
  refine fn_x cf_image_GetText rfl ?_
  unfold ac_image_GetText
  have hB : big = 9223372036854775807 := rfl
  (repeat (first | (simp (disch := first | exact dis1 | fail) only [evA, Nat.reduceBEq, Nat.reduceAdd, Nat.reduceLeDiff, boxR, rboxR, allocR, fldR, binI, unR, pickR, mknilR, mkslR, buildSlR, buildR, extR, convI, eqB, evU, wrap64, encB]) | (with_reducible intro _) | ((with_reducible apply And.intro); omega)))
  by_cases h1 : p < 0
  · rw [getT, if_pos (.inl h1)]
    (repeat (first | (simp (disch := first | exact dis1 | fail) only [evA, Nat.reduceBEq, Nat.reduceAdd, Nat.reduceLeDiff, boxR, rboxR, allocR, fldR, binI, unR, pickR, mknilR, mkslR, buildSlR, buildR, extR, convI, eqB, evU, wrap64, dT, rs_image_GetText]) | (with_reducible intro _) | ((with_reducible apply And.intro); omega)))
    exact ⟨_, vw_flat rfl, rfl⟩
  by_cases h2 : (l.length : Int) ≤ p
  · rw [getT, if_pos (.inr h2)]
    (repeat (first | (simp (disch := first | exact dis1 | fail) only [evA, Nat.reduceBEq, Nat.reduceAdd, Nat.reduceLeDiff, boxR, rboxR, allocR, fldR, binI, unR, pickR, mknilR, mkslR, buildSlR, buildR, extR, convI, eqB, evU, wrap64, dT, dF, rs_image_GetText]) | (with_reducible intro _) | ((with_reducible apply And.intro); omega)))
    exact ⟨_, vw_flat rfl, rfl⟩
  rw [getT, if_neg (by omega)]
  obtain ⟨q, rfl⟩ : ∃ q : Nat, p = q := ⟨p.toNat, by omega⟩
  rw [Int.toNat_natCast]
  have hbc := byte_cell (l := l) (k := q) (by omega)
  have hb8 := u8_lt (l.getD q 0)
  generalize hn : (l.getD q 0).toNat = n at *
  have hwn : IntKind.i64.wrap (n : Int) = (n : Int) := IntWalk.i64_in n ⟨by omega, by omega⟩
  (repeat (first | (simp (disch := first | exact dis1 | fail) only [evA, Nat.reduceBEq, Nat.reduceAdd, Nat.reduceLeDiff, boxR, rboxR, allocR, fldR, binI, unR, pickR, mknilR, mkslR, buildSlR, buildR, extR, convI, eqB, evU, wrap64, dF, hbc, hwn]) | (with_reducible intro _) | ((with_reducible apply And.intro); omega)))
  by_cases h3 : 32 < n
  · rw [if_pos h3]
    (repeat (first | (simp (disch := first | exact dis1 | fail) only [evA, Nat.reduceBEq, Nat.reduceAdd, Nat.reduceLeDiff, boxR, rboxR, allocR, fldR, binI, unR, pickR, mknilR, mkslR, buildSlR, buildR, extR, convI, eqB, evU, wrap64, dT, rs_image_GetText]) | (with_reducible intro _) | ((with_reducible apply And.intro); omega)))
    exact ⟨_, vw_flat rfl, rfl⟩
  rw [if_neg h3]
  (repeat (first | (simp (disch := first | exact dis1 | fail) only [evA, Nat.reduceBEq, Nat.reduceAdd, Nat.reduceLeDiff, boxR, rboxR, allocR, fldR, binI, unR, pickR, mknilR, mkslR, buildSlR, buildR, extR, convI, eqB, evU, wrap64, dF]) | (with_reducible intro _) | ((with_reducible apply And.intro); omega)))
  by_cases h4 : (l.length : Int) - q - 1 < n
  · rw [if_pos h4]
    (repeat (first | (simp (disch := first | exact dis1 | fail) only [evA, Nat.reduceBEq, Nat.reduceAdd, Nat.reduceLeDiff, boxR, rboxR, allocR, fldR, binI, unR, pickR, mknilR, mkslR, buildSlR, buildR, extR, convI, eqB, evU, wrap64, dT, rs_image_GetText]) | (with_reducible intro _) | ((with_reducible apply And.intro); omega)))
    exact ⟨_, vw_flat rfl, rfl⟩
  rw [if_neg h4]
  have hq1 : ((q : Int) + 1).toNat = q + 1 := by omega
  have hq2 : ((q : Int) + 1 + n - ((q : Int) + 1)).toNat = n := by omega
  have hel : ∀ {H : AH}, elsOf 1 (.sl 1 n (fun i j => ((l.map cByte).getD (q + 1 + i) []).getD j .undef)) H = some (((l.drop (q + 1)).take n).map cByte) := fun {H} => els_cut (by omega)
  (repeat (first | (simp (disch := first | exact dis1 | fail) only [evA, Nat.reduceBEq, Nat.reduceAdd, Nat.reduceLeDiff, boxR, rboxR, allocR, fldR, binI, unR, pickR, mknilR, mkslR, buildSlR, buildR, extR, convI, eqB, evU, wrap64, dF, sliceR_both, hq1, hq2, hel, fits_sl, lenV_sl, Option.isSome_some, rs_image_GetText]) | (with_reducible intro _) | ((with_reducible apply And.intro); omega)))
  exact ⟨_, vw_flat rfl, rfl⟩

end Go.Ab

namespace Go.Ab
open Go.RowKit Go.Proofs

/-- A reader: the bytes, the place, the error. -/
structure Rd where
  b : List UInt8
  p : Int
  e : Int
def Rd.cells (r : Rd) : List AV := [encB r.b, .int .i64 r.p, .int .i64 r.e]
/-- The place is in bounds. -/
def Rd.ok (r : Rd) : Prop := 0 ≤ r.p ∧ r.p ≤ 1000000 ∧ r.b.length ≤ 1000000

def Rd.number (r : Rd) (w : Nat) : Int × Rd := if r.e ≠ 0 then (0, r) else ((getN r.b r.p w).1, ⟨r.b, r.p + w, (getN r.b r.p w).2⟩)

theorem Rd.number_err {r : Rd} {w : Nat} (h : r.e ≠ 0) : r.number w = (0, r) := if_pos h
theorem Rd.number_ok {r : Rd} {w : Nat} (h : r.e = 0) : r.number w = ((getN r.b r.p w).1, ⟨r.b, r.p + w, (getN r.b r.p w).2⟩) := if_neg (by rw [h]; decide)

theorem position_fail_ok (b : List UInt8) (p x : Int) : CallOk Try.prog f_object_position_fail [.ptr 0 0 0 0 0, .int .i64 x] [(0, .row 3 [[encB b, .int .i64 p, .int .i64 0]] 0)] 1
    (fun _ H nx => H = [(0, .row 3 [[encB b, .int .i64 p, .int .i64 x]] 0)] ∧ nx = 1) := by
  refine fn_x cf_object_position_fail rfl ?_
  unfold ac_object_position_fail
  have hB : big = 9223372036854775807 := rfl
  have e0 : decide ((0 : Int) = 0) = true := rfl
  (repeat (first | (simp (disch := first | exact dis1 | fail) only [evA, Nat.reduceBEq, Nat.reduceAdd, Nat.reduceLeDiff, boxR, rboxR, allocR, fldR, binI, unR, pickR, mknilR, mkslR, buildSlR, buildR, extR, convI, eqB, evU, wrap64, e0, rs_object_position_fail]) | (with_reducible intro _) | ((with_reducible apply And.intro); omega)))

def ac2_object_position_number : ACode := match ac_object_position_number with
  | .seq a (.seq b (.seq c (.seq d (.seq e f)))) => .seq a (.seq b (.seq c (.seq d (.seq e (.mark 0 f)))))
  | x => x

theorem position_number_ok (r : Rd) (w : Nat) (hr : r.ok) (hw : w = 1 ∨ w = 2 ∨ w = 4) : CallOk Try.prog f_object_position_number [.ptr 0 0 0 0 0, .int .i64 w] [(0, .row 3 [r.cells] 0)] 1
    (fun v H nx => v = .int .u32 (r.number w).1 ∧ H = [(0, .row 3 [(r.number w).2.cells] 0)] ∧ nx = 1) := by
  obtain ⟨b, p, e⟩ := r
  obtain ⟨hp1, hp2, hb⟩ := hr
  simp only at hp1 hp2 hb
  refine fn_x (ac := ac2_object_position_number) cf_object_position_number rfl ?_
  unfold ac2_object_position_number ac_object_position_number Rd.cells
  have hB : big = 9223372036854775807 := rfl
  by_cases h : e = 0
  case neg =>
    rw [Rd.number_err h]
    (repeat (first | (simp (disch := first | exact dis1 | fail) only [evA, Nat.reduceBEq, Nat.reduceAdd, Nat.reduceLeDiff, boxR, rboxR, allocR, fldR, binI, unR, pickR, mknilR, mkslR, buildSlR, buildR, extR, convI, eqB, evU, wrap64, dT, rs_object_position_number]) | (with_reducible intro _) | ((with_reducible apply And.intro); omega)))
  have hg := image_Get_ok b p w hw
  rw [Rd.number_ok h]
  simp only
  generalize getN b p w = g at *
  subst h
  have e0 : decide ((0 : Int) ≠ 0) = false := rfl
  (repeat (first | (simp (disch := first | exact dis1 | fail) only [evA, Nat.reduceBEq, Nat.reduceAdd, Nat.reduceLeDiff, boxR, rboxR, allocR, fldR, binI, unR, pickR, mknilR, mkslR, buildSlR, buildR, extR, convI, eqB, evU, wrap64, e0, encB]) | (with_reducible intro _) | ((with_reducible apply And.intro); omega)))
  refine callqX_fix (call_flat hg rfl) ?_
  (repeat (first | (simp (disch := first | exact dis1 | fail) only [evA, Nat.reduceBEq, Nat.reduceAdd, Nat.reduceLeDiff, boxR, rboxR, allocR, fldR, binI, unR, pickR, mknilR, mkslR, buildSlR, buildR, extR, convI, eqB, evU, wrap64, encG]) | (with_reducible intro _) | ((with_reducible apply And.intro); omega)))
  refine call_own [(0, 0, 0)] 1 _ (position_fail_ok b p g.2) rfl rfl (by (try simp only [evWA, Nat.reduceBEq, Nat.reduceAdd, Nat.reduceSub, Nat.reduceLeDiff, Nat.reduceLT, implies_true, and_self, Int.natCast_zero, Int.natCast_one, Int.cast_ofNat_Int, evV, encInts, encNats, encBools, encP, encB]) <;> exact fin1) (by (try simp only [evWA, Nat.reduceBEq, Nat.reduceAdd, Nat.reduceSub, Nat.reduceLeDiff, Nat.reduceLT, implies_true, and_self, Int.natCast_zero, Int.natCast_one, Int.cast_ofNat_Int, evV, encInts, encNats, encBools, encP, encB]) <;> exact fin1) ?_
  rintro v' H' nx' ⟨rfl, rfl⟩
  (repeat (first | (simp (disch := first | exact dis1 | fail) only [evA, Nat.reduceBEq, Nat.reduceAdd, Nat.reduceLeDiff, boxR, rboxR, allocR, fldR, binI, unR, pickR, mknilR, mkslR, buildSlR, buildR, extR, convI, eqB, evU, wrap64, encB, rs_object_position_number]) | (with_reducible intro _) | ((with_reducible apply And.intro); omega)))
  refine markX_intro [(5, .int .u32 g.1)] [(0, .row 3 [[encL 1 cByte b, .int .i64 (p + w), .int .i64 g.2]] 0)] 1 fun _ => ⟨(Ent.tabB [(0, 0, 0)] [] rfl rfl rfl (by (try simp only [evWA, Nat.reduceBEq, Nat.reduceAdd, Nat.reduceSub, Nat.reduceLeDiff, Nat.reduceLT, implies_true, and_self, Int.natCast_zero, Int.natCast_one, Int.cast_ofNat_Int, evV, encInts, encNats, encBools, encP, encB]) <;> exact fin1) (by (try simp only [evWA, Nat.reduceBEq, Nat.reduceAdd, Nat.reduceSub, Nat.reduceLeDiff, Nat.reduceLT, implies_true, and_self, Int.natCast_zero, Int.natCast_one, Int.cast_ofNat_Int, evV, encInts, encNats, encBools, encP, encB]) <;> exact fin1)), ?_⟩
  (repeat (first | (simp (disch := first | exact dis1 | fail) only [evA, Nat.reduceBEq, Nat.reduceAdd, Nat.reduceLeDiff, boxR, rboxR, allocR, fldR, binI, unR, pickR, mknilR, mkslR, buildSlR, buildR, extR, convI, eqB, evU, wrap64, rs_object_position_number]) | (with_reducible intro _) | ((with_reducible apply And.intro); omega)))

end Go.Ab

namespace Go.Ab
open Go.RowKit Go.Proofs

/-- An error of a text, as a reader keeps it. -/
def errT (e : Int) : Int := if e = 6 then 4 else e
def Rd.text (r : Rd) : ByteArray × Rd := if r.e ≠ 0 then (noT, r) else ((getT r.b r.p).1, ⟨r.b, (getT r.b r.p).2.1, errT (getT r.b r.p).2.2⟩)
theorem Rd.text_err {r : Rd} (h : r.e ≠ 0) : r.text = (noT, r) := if_pos h
theorem Rd.text_ok {r : Rd} (h : r.e = 0) : r.text = ((getT r.b r.p).1, ⟨r.b, (getT r.b r.p).2.1, errT (getT r.b r.p).2.2⟩) := if_neg (by rw [h]; decide)

def ac2_object_position_text : ACode := match ac_object_position_text with
  | .seq a (.seq b (.seq c (.seq d (.seq e (.seq f g))))) => .seq a (.seq b (.seq c (.seq d (.seq e (.seq f (.mark 0 g))))))
  | x => x

theorem position_text_ok (r : Rd) : CallOk Try.prog f_object_position_text [.ptr 0 0 0 0 0] [(0, .row 3 [r.cells] 0)] 1
    (fun v H nx => v = .str r.text.1 ∧ H = [(0, .row 3 [r.text.2.cells] 0)] ∧ nx = 1) := by
  obtain ⟨b, p, e⟩ := r
  refine fn_x (ac := ac2_object_position_text) cf_object_position_text rfl ?_
  unfold ac2_object_position_text ac_object_position_text Rd.cells
  have hB : big = 9223372036854775807 := rfl
  by_cases h : e = 0
  case neg =>
    rw [Rd.text_err h]
    (repeat (first | (simp (disch := first | exact dis1 | fail) only [evA, Nat.reduceBEq, Nat.reduceAdd, Nat.reduceLeDiff, boxR, rboxR, allocR, fldR, binI, unR, pickR, mknilR, mkslR, buildSlR, buildR, extR, convI, eqB, evU, wrap64, dT, rs_object_position_text]) | (with_reducible intro _) | ((with_reducible apply And.intro); omega)))
    rfl
  have hg := image_GetText_ok b p
  rw [Rd.text_ok h]
  simp only
  generalize getT b p = g at *
  subst h
  have e0 : decide ((0 : Int) ≠ 0) = false := rfl
  (repeat (first | (simp (disch := first | exact dis1 | fail) only [evA, Nat.reduceBEq, Nat.reduceAdd, Nat.reduceLeDiff, boxR, rboxR, allocR, fldR, binI, unR, pickR, mknilR, mkslR, buildSlR, buildR, extR, convI, eqB, evU, wrap64, e0, encB]) | (with_reducible intro _) | ((with_reducible apply And.intro); omega)))
  refine callqX_fix (call_flat hg rfl) ?_
  (repeat (first | (simp (disch := first | exact dis1 | fail) only [evA, Nat.reduceBEq, Nat.reduceAdd, Nat.reduceLeDiff, boxR, rboxR, allocR, fldR, binI, unR, pickR, mknilR, mkslR, buildSlR, buildR, extR, convI, eqB, evU, wrap64, encT]) | (with_reducible intro _) | ((with_reducible apply And.intro); omega)))
  unfold errT
  by_cases h6 : g.2.2 = 6
  · rw [if_pos h6]
    have d6 : decide (g.2.2 = 6) = true := decide_eq_true h6
    (repeat (first | (simp (disch := first | exact dis1 | fail) only [evA, Nat.reduceBEq, Nat.reduceAdd, Nat.reduceLeDiff, boxR, rboxR, allocR, fldR, binI, unR, pickR, mknilR, mkslR, buildSlR, buildR, extR, convI, eqB, evU, wrap64, d6]) | (with_reducible intro _) | ((with_reducible apply And.intro); omega)))
    refine call_own [(0, 0, 0)] 1 _ (position_fail_ok b p 4) rfl rfl (by (try simp only [evWA, Nat.reduceBEq, Nat.reduceAdd, Nat.reduceSub, Nat.reduceLeDiff, Nat.reduceLT, implies_true, and_self, Int.natCast_zero, Int.natCast_one, Int.cast_ofNat_Int, evV, encInts, encNats, encBools, encP, encB]) <;> exact fin1) (by (try simp only [evWA, Nat.reduceBEq, Nat.reduceAdd, Nat.reduceSub, Nat.reduceLeDiff, Nat.reduceLT, implies_true, and_self, Int.natCast_zero, Int.natCast_one, Int.cast_ofNat_Int, evV, encInts, encNats, encBools, encP, encB]) <;> exact fin1) ?_
    rintro v' H' nx' ⟨rfl, rfl⟩
    (repeat (first | (simp (disch := first | exact dis1 | fail) only [evA, Nat.reduceBEq, Nat.reduceAdd, Nat.reduceLeDiff, boxR, rboxR, allocR, fldR, binI, unR, pickR, mknilR, mkslR, buildSlR, buildR, extR, convI, eqB, evU, wrap64, encB, rs_object_position_text]) | (with_reducible intro _) | ((with_reducible apply And.intro); omega)))
    refine markX_intro [(3, .str g.1)] [(0, .row 3 [[encL 1 cByte b, .int .i64 g.2.1, .int .i64 4]] 0)] 1 fun _ => ⟨(Ent.tabB [(0, 0, 0)] [] rfl rfl rfl (by (try simp only [evWA, Nat.reduceBEq, Nat.reduceAdd, Nat.reduceSub, Nat.reduceLeDiff, Nat.reduceLT, implies_true, and_self, Int.natCast_zero, Int.natCast_one, Int.cast_ofNat_Int, evV, encInts, encNats, encBools, encP, encB]) <;> exact fin1) (by (try simp only [evWA, Nat.reduceBEq, Nat.reduceAdd, Nat.reduceSub, Nat.reduceLeDiff, Nat.reduceLT, implies_true, and_self, Int.natCast_zero, Int.natCast_one, Int.cast_ofNat_Int, evV, encInts, encNats, encBools, encP, encB]) <;> exact fin1)), ?_⟩
    (repeat (first | (simp (disch := first | exact dis1 | fail) only [evA, Nat.reduceBEq, Nat.reduceAdd, Nat.reduceLeDiff, boxR, rboxR, allocR, fldR, binI, unR, pickR, mknilR, mkslR, buildSlR, buildR, extR, convI, eqB, evU, wrap64, rs_object_position_text]) | (with_reducible intro _) | ((with_reducible apply And.intro); omega)))
  · rw [if_neg h6]
    have d6 : decide (g.2.2 = 6) = false := decide_eq_false h6
    (repeat (first | (simp (disch := first | exact dis1 | fail) only [evA, Nat.reduceBEq, Nat.reduceAdd, Nat.reduceLeDiff, boxR, rboxR, allocR, fldR, binI, unR, pickR, mknilR, mkslR, buildSlR, buildR, extR, convI, eqB, evU, wrap64, d6]) | (with_reducible intro _) | ((with_reducible apply And.intro); omega)))
    refine call_own [(0, 0, 0)] 1 _ (position_fail_ok b p g.2.2) rfl rfl (by (try simp only [evWA, Nat.reduceBEq, Nat.reduceAdd, Nat.reduceSub, Nat.reduceLeDiff, Nat.reduceLT, implies_true, and_self, Int.natCast_zero, Int.natCast_one, Int.cast_ofNat_Int, evV, encInts, encNats, encBools, encP, encB]) <;> exact fin1) (by (try simp only [evWA, Nat.reduceBEq, Nat.reduceAdd, Nat.reduceSub, Nat.reduceLeDiff, Nat.reduceLT, implies_true, and_self, Int.natCast_zero, Int.natCast_one, Int.cast_ofNat_Int, evV, encInts, encNats, encBools, encP, encB]) <;> exact fin1) ?_
    rintro v' H' nx' ⟨rfl, rfl⟩
    (repeat (first | (simp (disch := first | exact dis1 | fail) only [evA, Nat.reduceBEq, Nat.reduceAdd, Nat.reduceLeDiff, boxR, rboxR, allocR, fldR, binI, unR, pickR, mknilR, mkslR, buildSlR, buildR, extR, convI, eqB, evU, wrap64, encB, rs_object_position_text]) | (with_reducible intro _) | ((with_reducible apply And.intro); omega)))
    refine markX_intro [(3, .str g.1)] [(0, .row 3 [[encL 1 cByte b, .int .i64 g.2.1, .int .i64 g.2.2]] 0)] 1 fun _ => ⟨(Ent.tabB [(0, 0, 0)] [] rfl rfl rfl (by (try simp only [evWA, Nat.reduceBEq, Nat.reduceAdd, Nat.reduceSub, Nat.reduceLeDiff, Nat.reduceLT, implies_true, and_self, Int.natCast_zero, Int.natCast_one, Int.cast_ofNat_Int, evV, encInts, encNats, encBools, encP, encB]) <;> exact fin1) (by (try simp only [evWA, Nat.reduceBEq, Nat.reduceAdd, Nat.reduceSub, Nat.reduceLeDiff, Nat.reduceLT, implies_true, and_self, Int.natCast_zero, Int.natCast_one, Int.cast_ofNat_Int, evV, encInts, encNats, encBools, encP, encB]) <;> exact fin1)), ?_⟩
    (repeat (first | (simp (disch := first | exact dis1 | fail) only [evA, Nat.reduceBEq, Nat.reduceAdd, Nat.reduceLeDiff, boxR, rboxR, allocR, fldR, binI, unR, pickR, mknilR, mkslR, buildSlR, buildR, extR, convI, eqB, evU, wrap64, rs_object_position_text]) | (with_reducible intro _) | ((with_reducible apply And.intro); omega)))

end Go.Ab

namespace Go.Ab
open Go.RowKit Go.Proofs

def cutB (l : List UInt8) (z n : Nat) : List UInt8 := (l.drop z).take n
theorem cutB_len {l : List UInt8} {z n : Nat} (h : z + n ≤ l.length) : (cutB l z n).length = n := by rw [cutB, List.length_take, List.length_drop]; omega

theorem vw_cut {H H2 : AH} {σ : Nat → Nat → Option (Nat × Nat × Nat)} {D : Nat → Nat → Prop} {t : Bool} {l : List UInt8} {z n : Nat} (h : z + n ≤ l.length) : Vw H H2 σ D t (.sl 1 n (fun i j => ((l.map cByte).getD (z + i) []).getD j .undef)) (encB (cutB l z n)) := by
  unfold encB encL
  rw [cutB_len h]
  refine .slf _ _ _ _ _ (fun i j hi hj => ?_)
  obtain rfl : j = 0 := by omega
  rw [getD_map (show z + i < l.length by omega), getD_map (show i < (cutB l z n).length by rw [cutB_len h]; exact hi)]
  have : (cutB l z n)[i]'(by rw [cutB_len h]; exact hi) = l[z + i] := by
    unfold cutB
    rw [List.getElem_take, List.getElem_drop]
  rw [this]
  exact .int _ _ _

theorem slices_Clone_ok (l : List UInt8) (h1 : l.length ≤ 100000000) : PureFn Try.prog f_slices_Clone_byte_byte [encB l] (· = encB l) := by
  refine fn_x cf_slices_Clone_byte_byte rfl ?_
  unfold ac_slices_Clone_byte_byte
  have hB : big = 9223372036854775807 := rfl
  have hel : ∀ {H : AH}, elsOf 1 (encL 1 cByte l) H = some (l.map cByte) := fun {H} => elsOf_encL (fun _ _ => rfl)
  (repeat (first | (simp (disch := first | exact dis1 | fail) only [evA, Nat.reduceBEq, Nat.reduceAdd, Nat.reduceLeDiff, boxR, rboxR, allocR, fldR, binI, unR, pickR, mknilR, mkslR, buildSlR, buildR, extR, convI, eqB, evU, wrap64, encB]) | (with_reducible intro _) | ((with_reducible apply And.intro); omega)))
  by_cases h0 : l.length = 0
  · have hl : l = [] := List.length_eq_zero_iff.1 h0
    subst hl
    have hn : nilB false (encL 1 cByte []) = some none := rfl
    (repeat (first | (simp (disch := first | exact dis1 | fail) only [evA, Nat.reduceBEq, Nat.reduceAdd, Nat.reduceLeDiff, boxR, rboxR, allocR, fldR, binI, unR, pickR, mknilR, mkslR, buildSlR, buildR, extR, convI, eqB, evU, wrap64, hn, hel, rs_slices_Clone_byte_byte]) | (with_reducible intro _) | ((with_reducible apply And.intro); omega)))
    (refine condX_intro (fun hb => ?_) (fun hb => ?_)) <;> (try simp only [decide_eq_true_eq, decide_eq_false_iff_not, Bool.not_eq_true', Bool.not_eq_false', Bool.and_eq_true, Bool.or_eq_true, not_true_eq_false, not_false_eq_true] at hb)
    · (repeat (first | (simp (disch := first | exact dis1 | fail) only [evA, Nat.reduceBEq, Nat.reduceAdd, Nat.reduceLeDiff, boxR, rboxR, allocR, fldR, binI, unR, pickR, mknilR, mkslR, buildSlR, buildR, extR, convI, eqB, evU, wrap64, rs_slices_Clone_byte_byte]) | (with_reducible intro _) | ((with_reducible apply And.intro); omega)))
      exact ⟨_, vw_bytes (l := []) trivial rfl rfl (by omega), rfl⟩
    · (repeat (first | (simp (disch := first | exact dis1 | fail) only [evA, Nat.reduceBEq, Nat.reduceAdd, Nat.reduceLeDiff, boxR, rboxR, allocR, fldR, binI, unR, pickR, mknilR, mkslR, buildSlR, buildR, extR, convI, eqB, evU, wrap64, hel, rs_slices_Clone_byte_byte]) | (with_reducible intro _) | ((with_reducible apply And.intro); omega)))
      exact ⟨_, vw_bytes (l := []) trivial rfl rfl (by omega), rfl⟩
  · have hn : nilB false (encL 1 cByte l) = some (some false) := by
      have : Nat.beq l.length 0 = false := by cases e : Nat.beq l.length 0 with | false => rfl | true => exact absurd (Nat.eq_of_beq_eq_true e) h0
      simp only [nilB, encL, this, cond_false]
    (repeat (first | (simp (disch := first | exact dis1 | fail) only [evA, Nat.reduceBEq, Nat.reduceAdd, Nat.reduceLeDiff, boxR, rboxR, allocR, fldR, binI, unR, pickR, mknilR, mkslR, buildSlR, buildR, extR, convI, eqB, evU, wrap64, hn, hel, rs_slices_Clone_byte_byte]) | (with_reducible intro _) | ((with_reducible apply And.intro); omega)))
    exact ⟨_, vw_bytes trivial rfl rfl (by omega), rfl⟩

end Go.Ab

namespace Go.Ab
open Go.RowKit Go.Proofs

def Rd.bytes (r : Rd) (n : Nat) : List UInt8 × Rd := if r.e ≠ 0 then ([], r) else if (r.b.length : Int) - r.p < n then ([], ⟨r.b, r.p, 5⟩) else (cutB r.b r.p.toNat n, ⟨r.b, r.p + n, 0⟩)
theorem Rd.bytes_err {r : Rd} {n : Nat} (h : r.e ≠ 0) : r.bytes n = ([], r) := if_pos h
theorem Rd.bytes_short {r : Rd} {n : Nat} (h : r.e = 0) (h2 : (r.b.length : Int) - r.p < n) : r.bytes n = ([], ⟨r.b, r.p, 5⟩) := by rw [Rd.bytes, if_neg (by rw [h]; decide), if_pos h2]
theorem Rd.bytes_ok {r : Rd} {n : Nat} (h : r.e = 0) (h2 : ¬ (r.b.length : Int) - r.p < n) : r.bytes n = (cutB r.b r.p.toNat n, ⟨r.b, r.p + n, 0⟩) := by rw [Rd.bytes, if_neg (by rw [h]; decide), if_neg h2]

def ac2_object_position_bytes : ACode := match ac_object_position_bytes with
  | .seq a (.seq (.seq b (.cond t (.seq c d) s)) (.seq (.seq e (.cond u (.seq f (.seq g h)) s2)) (.seq i (.seq j (.seq k l))))) =>
    .seq a (.seq (.seq b (.cond t (.seq c (.mark 0 d)) s)) (.seq (.seq e (.cond u (.seq f (.seq g (.mark 0 h))) s2)) (.seq i (.seq j (.seq k (.mark 0 l))))))
  | x => x

theorem position_bytes_ok (r : Rd) (n : Nat) (hr : r.ok) (hpl : r.e = 0 → r.p ≤ r.b.length) (hn : n < 4294967296) : CallOk Try.prog f_object_position_bytes [.ptr 0 0 0 0 0, .int .u32 n] [(0, .row 3 [r.cells] 0)] 1
    (fun v H nx => v = encB (r.bytes n).1 ∧ H = [(0, .row 3 [(r.bytes n).2.cells] 0)] ∧ nx = 1) := by
  obtain ⟨b, p, e⟩ := r
  obtain ⟨hp1, hp2, hb⟩ := hr
  simp only at hp1 hp2 hb hpl
  refine fn_x (ac := ac2_object_position_bytes) cf_object_position_bytes rfl ?_
  unfold ac2_object_position_bytes ac_object_position_bytes Rd.cells
  have hB : big = 9223372036854775807 := rfl
  by_cases h : e = 0
  case neg =>
    rw [Rd.bytes_err h]
    (repeat (first | (simp (disch := first | exact dis1 | fail) only [evA, Nat.reduceBEq, Nat.reduceAdd, Nat.reduceLeDiff, boxR, rboxR, allocR, fldR, binI, unR, pickR, mknilR, mkslR, buildSlR, buildR, extR, convI, eqB, evU, wrap64, dT, encB]) | (with_reducible intro _) | ((with_reducible apply And.intro); omega)))
    refine markX_intro [(4, encL 1 cByte [])] [(0, .row 3 [[encL 1 cByte b, .int .i64 p, .int .i64 e]] 0)] 1 fun _ => ⟨Ent.tabB [(0, 0, 0)] [2] rfl rfl rfl (by simp only [evWA, Nat.reduceBEq, Nat.reduceAdd, Nat.reduceSub, Nat.reduceLeDiff, Nat.reduceLT, implies_true, and_self, Int.natCast_zero, Int.natCast_one, Int.cast_ofNat_Int, evV, encInts, encNats, encBools, encP, encB]) (by simp only [evWA, Nat.reduceBEq, Nat.reduceAdd, Nat.reduceSub, Nat.reduceLeDiff, Nat.reduceLT, implies_true, and_self, Int.natCast_zero, Int.natCast_one, Int.cast_ofNat_Int, evV, encInts, encNats, encBools, encP, encB]; exact vw_bytes (l := []) rfl rfl rfl (by omega)), ?_⟩
    (repeat (first | (simp (disch := first | exact dis1 | fail) only [evA, Nat.reduceBEq, Nat.reduceAdd, Nat.reduceLeDiff, boxR, rboxR, allocR, fldR, binI, unR, pickR, mknilR, mkslR, buildSlR, buildR, extR, convI, eqB, evU, wrap64, rs_object_position_bytes]) | (with_reducible intro _) | ((with_reducible apply And.intro); omega)))
  have hpl := hpl h
  subst h
  obtain ⟨q, rfl⟩ : ∃ q : Nat, p = q := ⟨p.toNat, by omega⟩
  have e0 : decide ((0 : Int) ≠ 0) = false := rfl
  have hw1 : IntKind.u64.wrap (n : Int) = (n : Int) := wrapU64 (by omega) (by omega)
  have hw2 : IntKind.u64.wrap ((b.length : Int) - (q : Int)) = (b.length : Int) - (q : Int) := wrapU64 (by omega) (by omega)
  have hw3 : IntKind.i64.wrap (n : Int) = (n : Int) := IntWalk.i64_in n ⟨by omega, by omega⟩
  (repeat (first | (simp (disch := first | exact dis1 | fail) only [evA, Nat.reduceBEq, Nat.reduceAdd, Nat.reduceLeDiff, boxR, rboxR, allocR, fldR, binI, unR, pickR, mknilR, mkslR, buildSlR, buildR, extR, convI, eqB, evU, wrap64, e0, encB, hw1, hw2]) | (with_reducible intro _) | ((with_reducible apply And.intro); omega)))
  by_cases h2 : (b.length : Int) - (q : Int) < n
  · rw [Rd.bytes_short rfl h2]
    (repeat (first | (simp (disch := first | exact dis1 | fail) only [evA, Nat.reduceBEq, Nat.reduceAdd, Nat.reduceLeDiff, boxR, rboxR, allocR, fldR, binI, unR, pickR, mknilR, mkslR, buildSlR, buildR, extR, convI, eqB, evU, wrap64, dT]) | (with_reducible intro _) | ((with_reducible apply And.intro); omega)))
    refine call_own [(0, 0, 0)] 1 _ (position_fail_ok b q 5) rfl rfl (by (try simp only [evWA, Nat.reduceBEq, Nat.reduceAdd, Nat.reduceSub, Nat.reduceLeDiff, Nat.reduceLT, implies_true, and_self, Int.natCast_zero, Int.natCast_one, Int.cast_ofNat_Int, evV, encInts, encNats, encBools, encP, encB]) <;> exact fin1) (by (try simp only [evWA, Nat.reduceBEq, Nat.reduceAdd, Nat.reduceSub, Nat.reduceLeDiff, Nat.reduceLT, implies_true, and_self, Int.natCast_zero, Int.natCast_one, Int.cast_ofNat_Int, evV, encInts, encNats, encBools, encP, encB]) <;> exact fin1) ?_
    rintro v' H' nx' ⟨rfl, rfl⟩
    (repeat (first | (simp (disch := first | exact dis1 | fail) only [evA, Nat.reduceBEq, Nat.reduceAdd, Nat.reduceLeDiff, boxR, rboxR, allocR, fldR, binI, unR, pickR, mknilR, mkslR, buildSlR, buildR, extR, convI, eqB, evU, wrap64, encB]) | (with_reducible intro _) | ((with_reducible apply And.intro); omega)))
    refine markX_intro [(4, encL 1 cByte [])] [(0, .row 3 [[encL 1 cByte b, .int .i64 q, .int .i64 5]] 0)] 1 fun _ => ⟨Ent.tabB [(0, 0, 0)] [3] rfl rfl rfl (by simp only [evWA, Nat.reduceBEq, Nat.reduceAdd, Nat.reduceSub, Nat.reduceLeDiff, Nat.reduceLT, implies_true, and_self, Int.natCast_zero, Int.natCast_one, Int.cast_ofNat_Int, evV, encInts, encNats, encBools, encP, encB]) (by simp only [evWA, Nat.reduceBEq, Nat.reduceAdd, Nat.reduceSub, Nat.reduceLeDiff, Nat.reduceLT, implies_true, and_self, Int.natCast_zero, Int.natCast_one, Int.cast_ofNat_Int, evV, encInts, encNats, encBools, encP, encB]; exact vw_bytes (l := []) rfl rfl rfl (by omega)), ?_⟩
    (repeat (first | (simp (disch := first | exact dis1 | fail) only [evA, Nat.reduceBEq, Nat.reduceAdd, Nat.reduceLeDiff, boxR, rboxR, allocR, fldR, binI, unR, pickR, mknilR, mkslR, buildSlR, buildR, extR, convI, eqB, evU, wrap64, rs_object_position_bytes]) | (with_reducible intro _) | ((with_reducible apply And.intro); omega)))
  rw [Rd.bytes_ok rfl h2]
  (repeat (first | (simp (disch := first | exact dis1 | fail) only [evA, Nat.reduceBEq, Nat.reduceAdd, Nat.reduceLeDiff, boxR, rboxR, allocR, fldR, binI, unR, pickR, mknilR, mkslR, buildSlR, buildR, extR, convI, eqB, evU, wrap64, dF, hw3]) | (with_reducible intro _) | ((with_reducible apply And.intro); omega)))
  have hq2 : ((q : Int) + n - (q : Int)).toNat = n := by omega
  have hcl := slices_Clone_ok (cutB b q n) (by rw [cutB_len (by omega)]; omega)
  (repeat (first | (simp (disch := first | exact dis1 | fail) only [evA, Nat.reduceBEq, Nat.reduceAdd, Nat.reduceLeDiff, boxR, rboxR, allocR, fldR, binI, unR, pickR, mknilR, mkslR, buildSlR, buildR, extR, convI, eqB, evU, wrap64, sliceR_both, hq2, Int.toNat_natCast]) | (with_reducible intro _) | ((with_reducible apply And.intro); omega)))
  refine callqX_fix (call_fix (D := noR) hcl (.cons (vw_cut (by omega)) .nil) (.inr fun _ _ h => h)) ?_
  (repeat (first | (simp (disch := first | exact dis1 | fail) only [evA, Nat.reduceBEq, Nat.reduceAdd, Nat.reduceLeDiff, boxR, rboxR, allocR, fldR, binI, unR, pickR, mknilR, mkslR, buildSlR, buildR, extR, convI, eqB, evU, wrap64, hw3, encB]) | (with_reducible intro _) | ((with_reducible apply And.intro); omega)))
  refine markX_intro [(4, encL 1 cByte (cutB b q n))] [(0, .row 3 [[encL 1 cByte b, .int .i64 (q + n), .int .i64 0]] 0)] 1 fun _ => ⟨(Ent.tabB [(0, 0, 0)] [] rfl rfl rfl (by (try simp only [evWA, Nat.reduceBEq, Nat.reduceAdd, Nat.reduceSub, Nat.reduceLeDiff, Nat.reduceLT, implies_true, and_self, Int.natCast_zero, Int.natCast_one, Int.cast_ofNat_Int, evV, encInts, encNats, encBools, encP, encB]) <;> exact fin1) (by (try simp only [evWA, Nat.reduceBEq, Nat.reduceAdd, Nat.reduceSub, Nat.reduceLeDiff, Nat.reduceLT, implies_true, and_self, Int.natCast_zero, Int.natCast_one, Int.cast_ofNat_Int, evV, encInts, encNats, encBools, encP, encB]) <;> exact fin1)), ?_⟩
  (repeat (first | (simp (disch := first | exact dis1 | fail) only [evA, Nat.reduceBEq, Nat.reduceAdd, Nat.reduceLeDiff, boxR, rboxR, allocR, fldR, binI, unR, pickR, mknilR, mkslR, buildSlR, buildR, extR, convI, eqB, evU, wrap64, rs_object_position_bytes]) | (with_reducible intro _) | ((with_reducible apply And.intro); omega)))

end Go.Ab

namespace Go.Ab
open Go.RowKit Go.Proofs

end Go.Ab

namespace Go.Ab
open Go.RowKit Go.Proofs

structure Rd.fine (r : Rd) : Prop where
  lo : 0 ≤ r.p
  hi : r.p ≤ r.b.length + 4
  len : r.b.length ≤ 70000
  ok : r.e = 0 → r.p ≤ r.b.length

theorem Rd.fine.toOk {r : Rd} (h : r.fine) : r.ok := ⟨h.lo, by have := h.hi; have := h.len; omega, by have := h.len; omega⟩

theorem getN_cases (l : List UInt8) (p : Int) (w : Nat) : (getN l p w).2 = 5 ∨ ((getN l p w).2 = 0 ∧ 0 ≤ p ∧ p + w ≤ l.length) := by
  unfold getN
  split
  · exact .inl rfl
  · exact .inr ⟨rfl, by omega, by omega⟩

theorem getN_val (l : List UInt8) (p : Int) {w : Nat} (hw : w ≤ 4) : ∃ n : Nat, n < 4294967296 ∧ (getN l p w).1 = (n : Int) := by
  unfold getN
  split
  · exact ⟨0, by decide, rfl⟩
  · refine ⟨_, Nat.lt_of_lt_of_le (leV_lt _) (Nat.le_trans (Nat.pow_le_pow_right (by decide) (show _ ≤ 4 from ?_)) (by decide)), rfl⟩
    rw [List.length_take]
    omega

theorem Rd.number_b {r : Rd} {w : Nat} : (r.number w).2.b = r.b := by
  unfold Rd.number
  split <;> rfl

theorem Rd.number_fine {r : Rd} {w : Nat} (h : r.fine) (hw : w ≤ 4) : (r.number w).2.fine := by
  by_cases he : r.e = 0
  · rw [Rd.number_ok he]
    have h1 := h.ok he
    have h2 := h.lo
    refine ⟨?_, ?_, h.len, fun h3 => ?_⟩
    · show 0 ≤ r.p + w
      omega
    · show r.p + w ≤ r.b.length + 4
      omega
    · rcases getN_cases r.b r.p w with h4 | ⟨_, _, h5⟩
      · exact absurd (h4.symm.trans h3) (by decide)
      · exact h5
  · rw [Rd.number_err he]
    exact h

theorem Rd.number_val (r : Rd) {w : Nat} (hw : w ≤ 4) : ∃ n : Nat, n < 4294967296 ∧ (r.number w).1 = (n : Int) := by
  unfold Rd.number
  split
  · exact ⟨0, by decide, rfl⟩
  · exact getN_val _ _ hw

theorem getT_cases (l : List UInt8) (p : Int) : 0 ≤ (getT l p).2.1 ∧ (getT l p).2.1 ≤ l.length := by
  unfold getT
  split
  · exact ⟨Int.le_refl _, by show (0 : Int) ≤ _; omega⟩
  · split
    · exact ⟨Int.le_refl _, by show (0 : Int) ≤ _; omega⟩
    · split
      · exact ⟨Int.le_refl _, by show (0 : Int) ≤ _; omega⟩
      · exact ⟨by show (0 : Int) ≤ p + 1 + _; omega, by show p + 1 + _ ≤ _; omega⟩

theorem Rd.text_fine {r : Rd} (h : r.fine) : r.text.2.fine := by
  by_cases he : r.e = 0
  · rw [Rd.text_ok he]
    have h1 := getT_cases r.b r.p
    exact ⟨h1.1, by have := h1.2; show _ ≤ (r.b.length : Int) + 4; simp only; omega, h.len, fun _ => h1.2⟩
  · rw [Rd.text_err he]
    exact h

theorem Rd.bytes_fine {r : Rd} {n : Nat} (h : r.fine) : (r.bytes n).2.fine := by
  by_cases he : r.e = 0
  · have h1 := h.ok he
    have h2 := h.lo
    by_cases h3 : (r.b.length : Int) - r.p < n
    · rw [Rd.bytes_short he h3]
      exact ⟨h.lo, h.hi, h.len, fun _ => h1⟩
    · rw [Rd.bytes_ok he h3]
      exact ⟨by show 0 ≤ r.p + n; omega, by show r.p + n ≤ r.b.length + 4; omega, h.len, fun _ => by show r.p + n ≤ r.b.length; omega⟩
  · rw [Rd.bytes_err he]
    exact h

/-- A section, read. -/
def Rd.mark (r : Rd) (f : Int) : Rd := if 3 < f ∧ r.e = 0 then ⟨r.b, r.p, 4⟩ else r
theorem Rd.mark_fine {r : Rd} {f : Int} (h : r.fine) : (r.mark f).fine := by
  unfold Rd.mark
  split
  · exact ⟨h.lo, h.hi, h.len, fun h0 => absurd (show (4 : Int) = 0 from h0) (by decide)⟩
  · exact h

end Go.Ab

namespace Go.Ab
open Go.RowKit Go.Proofs

theorem Rd.ren {ρ : Nat → Nat} {r : Rd} : List.map (AV.ren ρ) r.cells = r.cells := by
  simp [Rd.cells, encB, encL, AV.ren]
theorem encB_ren {ρ : Nat → Nat} {l : List UInt8} : AV.ren ρ (encB l) = encB l := by simp [encB, encL, AV.ren]
theorem encB_cells {l : List UInt8} : AV.cells (encB l) = [encB l] := rfl
theorem encB_solid {l : List UInt8} : AV.solid (encB l) = true := rfl
def Rd.r1 (r : Rd) : Rd := r.text.2
def Rd.r2 (r : Rd) : Rd := (r.r1.number 4).2
def Rd.r3 (r : Rd) : Rd := (r.r2.number 1).2
def Rd.flag (r : Rd) : Int := (r.r2.number 1).1
def Rd.r4 (r : Rd) : Rd := r.r3.mark r.flag
def Rd.r5 (r : Rd) : Rd := (r.r4.number 4).2
def Rd.size (r : Rd) : Nat := (r.r4.number 4).1.toNat
def Rd.sec (r : Rd) : Sec × Rd := (⟨r.text.1, UInt32.ofNat (r.r1.number 4).1.toNat, (r.r5.bytes r.size).1, decide (r.flag.toNat % 2 = 1), decide (r.flag.toNat / 2 = 1)⟩, (r.r5.bytes r.size).2)

end Go.Ab

namespace Go.Ab
open Go.RowKit Go.Proofs

def dr_object_Decode_0_ops : List AOper := [ ⟨(some 53), .mov (.t 4), none⟩, ⟨(some 54), .xop .nilck [(.t 53)], none⟩, ⟨(some 55), .fldaddr 0 1 (.t 54), none⟩, ⟨(some 56), .load false 1 (.t 55), none⟩, ⟨(some 57), .call f_object_position_number [(.t 56), (.c (.int .i64 1))], none⟩, ⟨(some 58), .mov (.t 4), none⟩, ⟨(some 59), .xop .nilck [(.t 58)], none⟩, ⟨(some 60), .fldaddr 0 1 (.t 59), none⟩, ⟨(some 61), .load false 1 (.t 60), none⟩, ⟨(some 62), .call f_object_position_number [(.t 61), (.c (.int .i64 2))], none⟩, ⟨(some 63), .mov (.t 4), none⟩, ⟨(some 64), .xop .nilck [(.t 63)], none⟩, ⟨(some 65), .fldaddr 0 1 (.t 64), none⟩, ⟨(some 66), .load false 1 (.t 65), none⟩, ⟨(some 67), .call f_object_position_number [(.t 66), (.c (.int .i64 2))], none⟩, ⟨(some 6), .mov (.t 57), none⟩, ⟨(some 7), .mov (.t 62), none⟩, ⟨(some 8), .mov (.t 67), none⟩]
def dr_object_Decode_0_deps : List (List Nat) := [[], [0], [1], [2], [3], [], [5], [6], [7], [8, 4], [], [10], [11], [12], [13, 9], [4, 14, 0, 1, 2, 3, 4], [9, 15, 0, 1, 2, 3, 4, 5, 6, 7, 8, 9, 15], [14, 16, 0, 1, 2, 3, 4, 5, 6, 7, 8, 9, 10, 11, 12, 13, 14, 15, 16]]
def dr_object_Decode_0_Ls : List Nat := [4, 9, 14]
def dr_object_Decode_0_A : List (List Nat) := [[], [0], [0, 1], [0, 1, 2], [0, 1, 2, 3], [], [5], [5, 6], [5, 6, 7], [0, 1, 2, 3, 4, 5, 6, 7, 8], [], [10], [10, 11], [10, 11, 12], [0, 1, 2, 3, 4, 5, 6, 7, 8, 9, 10, 11, 12, 13], [0, 1, 2, 3, 4, 5, 6, 7, 8, 9, 10, 11, 12, 13, 14], [0, 1, 2, 3, 4, 5, 6, 7, 8, 9, 10, 11, 12, 13, 14, 15], [0, 1, 2, 3, 4, 5, 6, 7, 8, 9, 10, 11, 12, 13, 14, 15, 16]]
def dr_object_Decode_0_St : List (List Nat) := [[], [4], [4, 9], [4, 9, 14]]
def dr_object_Decode_0_plan : Plan := [(0, [], []), (1, [], []), (2, [], []), (3, [], []), (4, [], [4]), (5, [], []), (6, [], []), (7, [], []), (8, [], []), (8, [4], [4]), (9, [4], [4, 9]), (10, [], []), (11, [], []), (12, [], []), (13, [], []), (13, [4], [4]), (13, [4, 9], [4, 9]), (14, [4, 9], [4, 9, 14]), (15, [4, 9, 14], [4, 9, 14]), (16, [4, 9, 14], [4, 9, 14]), (17, [4, 9, 14], [4, 9, 14])]

def ac_object_Decode_k1 : ACode :=
  /-live [0, 2, 4]-/ .seq /-8-/ (.region [ ⟨(some 44), .mov (.t 4), none⟩, ⟨(some 45), .mov (.t 4), none⟩, ⟨(some 46), .xop .nilck [(.t 45)], none⟩, ⟨(some 47), .fldaddr 0 1 (.t 46), none⟩, ⟨(some 48), .load false 1 (.t 47), none⟩, ⟨(some 49), .call f_object_position_number [(.t 48), (.c (.int .i64 4))], none⟩, ⟨(some 50), .xop .nilck [(.t 44)], none⟩, ⟨(some 51), .fldaddr 1 4 (.t 50), none⟩, ⟨(some 52), .fldaddr 0 1 (.t 51), none⟩, ⟨none, .store 1 (.t 52) (.t 49), none⟩] [38, 44, 45, 46, 47, 48, 49, 50, 51, 52]) (.seq /-9-/ (.draw (mkTree dr_object_Decode_0_ops dr_object_Decode_0_deps 18 (List.replicate 18 false)) [53, 54, 55, 56, 57, 58, 59, 60, 61, 62, 63, 64, 65, 66, 67]) (.seq /-10-/ (.region [ ⟨(some 68), .mov (.t 4), none⟩, ⟨(some 69), .mov (.t 6), none⟩, ⟨(some 70), .call f_object_reader_sections [(.t 68), (.t 69)], none⟩] [6, 68, 69, 70]) (.seq /-11-/ (.region [ ⟨(some 71), .mov (.t 4), none⟩, ⟨(some 72), .mov (.t 7), none⟩, ⟨(some 73), .call f_object_reader_symbols [(.t 71), (.t 72)], none⟩] [7, 71, 72, 73]) (.seq /-12-/ (.region [ ⟨(some 74), .mov (.t 4), none⟩, ⟨(some 75), .mov (.t 8), none⟩, ⟨(some 76), .call f_object_reader_relocs [(.t 74), (.t 75)], none⟩] [8, 74, 75, 76]) (.seq /-13-/ (.region [ ⟨(some 77), .mov (.t 4), none⟩, ⟨(some 78), .xop .nilck [(.t 77)], none⟩, ⟨(some 79), .fldaddr 0 1 (.t 78), none⟩, ⟨(some 80), .load false 1 (.t 79), none⟩, ⟨(some 81), .xop .nilck [(.t 80)], none⟩, ⟨(some 82), .fldaddr 1 1 (.t 81), none⟩, ⟨(some 83), .load false 1 (.t 82), none⟩, ⟨(some 9), .mov (.t 83), none⟩] [77, 78, 79, 80, 81, 82, 83]) (.seq /-14-/ (.region [ ⟨(some 84), .mov (.t 4), none⟩, ⟨(some 85), .xop .nilck [(.t 84)], none⟩, ⟨(some 86), .fldaddr 0 1 (.t 85), none⟩, ⟨(some 87), .load false 1 (.t 86), none⟩, ⟨(some 88), .call f_object_position_number [(.t 87), (.c (.int .i64 4))], none⟩, ⟨(some 10), .mov (.t 88), none⟩] [84, 85, 86, 87, 88]) (.seq /-15-/ (.seq /-16-/ (.region [ ⟨(some 89), .mov (.t 4), none⟩, ⟨(some 90), .xop .nilck [(.t 89)], none⟩, ⟨(some 91), .fldaddr 0 1 (.t 90), none⟩, ⟨(some 92), .load false 1 (.t 91), none⟩, ⟨(some 93), .xop .nilck [(.t 92)], none⟩, ⟨(some 94), .fldaddr 2 1 (.t 93), none⟩, ⟨(some 95), .load false 1 (.t 94), none⟩, ⟨(some 96), .bin .neq (.t 95) (.c (.int .i64 0)), none⟩] [89, 90, 91, 92, 93, 94, 95]) (.cond (.t 96) (.seq /-17-/ (.draw ( .step ⟨(some 97), .build [.int .u32 0, .nilsl, .nilsl, .nilsl] [], none⟩ ( .step ⟨(some 98), .mov (.t 4), none⟩ ( .step ⟨(some 99), .xop .nilck [(.t 98)], none⟩ ( .step ⟨(some 100), .fldaddr 0 1 (.t 99), none⟩ ( .alt ⟨(some 101), .load false 1 (.t 100), none⟩ ( .step ⟨(some 102), .xop .nilck [(.t 101)], none⟩ ( .step ⟨(some 103), .fldaddr 2 1 (.t 102), none⟩ ( .alt ⟨(some 104), .load false 1 (.t 103), none⟩ ( .alt ⟨none, .store 4 (.t 2) (.t 97), none⟩ ( .step ⟨(some 3), .mov (.t 104), none⟩ ( .done)) ( .stop)) ( .alt ⟨none, .store 4 (.t 2) (.t 97), none⟩ ( .step ⟨(some 104), .load false 1 (.t 103), none⟩ ( .step ⟨(some 3), .mov (.t 104), none⟩ ( .done))) ( .stop))))) ( .alt ⟨none, .store 4 (.t 2) (.t 97), none⟩ ( .step ⟨(some 101), .load false 1 (.t 100), none⟩ ( .step ⟨(some 102), .xop .nilck [(.t 101)], none⟩ ( .step ⟨(some 103), .fldaddr 2 1 (.t 102), none⟩ ( .step ⟨(some 104), .load false 1 (.t 103), none⟩ ( .step ⟨(some 3), .mov (.t 104), none⟩ ( .done)))))) ( .stop))))))) [0, 4, 9, 10, 96, 97, 98, 99, 100, 101, 102, 103, 104]) (.ret)) (.skip))) (.seq /-18-/ (.seq /-19-/ (.region [ ⟨(some 105), .mov (.t 10), none⟩, ⟨(some 106), .mov (.t 0), none⟩, ⟨(some 107), .mov (.t 9), none⟩, ⟨(some 108), .slice 1 (.t 106) none (some (.t 107)), none⟩, ⟨(some 109), .call f_object_Checksum [(.t 108)], none⟩, ⟨(some 110), .bin .neq (.t 105) (.t 109), none⟩, ⟨(some 111), .mov (.t 110), none⟩, ⟨(some 112), .mov (.t 4), (some (111, false))⟩, ⟨(some 113), .xop .nilck [(.t 112)], (some (111, false))⟩, ⟨(some 114), .fldaddr 0 1 (.t 113), (some (111, false))⟩, ⟨(some 115), .load false 1 (.t 114), (some (111, false))⟩, ⟨(some 116), .xop .nilck [(.t 115)], (some (111, false))⟩, ⟨(some 117), .fldaddr 1 1 (.t 116), (some (111, false))⟩, ⟨(some 118), .load false 1 (.t 117), (some (111, false))⟩, ⟨(some 119), .mov (.t 0), (some (111, false))⟩, ⟨(some 120), .len (.t 119), (some (111, false))⟩, ⟨(some 121), .bin .neq (.t 118) (.t 120), (some (111, false))⟩, ⟨(some 122), .pick (.t 111) (.c (.bool true)) (.t 121), none⟩] [0, 3, 9, 10, 96, 105, 106, 107, 108, 109, 110, 111, 112, 113, 114, 115, 116, 117, 118, 119, 120, 121]) (.cond (.t 122) (.seq /-20-/ (.region [ ⟨(some 123), .build [.int .u32 0, .nilsl, .nilsl, .nilsl] [], none⟩, ⟨none, .store 4 (.t 2) (.t 123), none⟩, ⟨(some 3), .mov (.c (.int .i64 4)), none⟩] [4, 122, 123]) (.ret)) (.skip))) (.seq /-21-/ (.seq /-22-/ (.region [ ⟨(some 124), .mov (.t 4), none⟩, ⟨(some 125), .xop .nilck [(.t 124)], none⟩, ⟨(some 126), .fldaddr 1 4 (.t 125), none⟩, ⟨(some 127), .load true 4 (.t 126), none⟩, ⟨(some 128), .call f_object_Check [(.t 127)], none⟩, ⟨(some 11), .mov (.t 128), none⟩] [3, 122, 124, 125, 126, 127, 128]) (.seq /-23-/ (.region [ ⟨(some 129), .mov (.t 11), none⟩, ⟨(some 130), .bin .neq (.t 129) (.c (.int .i64 0)), none⟩] [129]) (.cond (.t 130) (.seq /-24-/ (.region [ ⟨(some 131), .build [.int .u32 0, .nilsl, .nilsl, .nilsl] [], none⟩, ⟨(some 132), .mov (.t 11), none⟩, ⟨none, .store 4 (.t 2) (.t 131), none⟩, ⟨(some 3), .mov (.t 132), none⟩] [4, 11, 130, 131, 132]) (.ret)) (.skip)))) (.seq /-25-/ (.region [ ⟨(some 133), .mov (.t 4), none⟩, ⟨(some 134), .xop .nilck [(.t 133)], none⟩, ⟨(some 135), .fldaddr 1 4 (.t 134), none⟩, ⟨(some 136), .load true 4 (.t 135), none⟩, ⟨none, .store 4 (.t 2) (.t 136), none⟩, ⟨(some 3), .mov (.c (.int .i64 0)), none⟩] [4, 11, 130, 133, 134, 135, 136]) (.ret)))))))))))

/-- decompiler/object.Decode -/
def ac_object_Decode : ACode := .seq /-0-/ (.region [ ⟨(some 2), .alloc [.int .u32 0, .nilsl, .nilsl, .nilsl], none⟩, ⟨(some 3), .mov (.c (.int .i64 0)), none⟩] [3]) (.seq /-1-/ (.seq /-2-/ (.region [ ⟨(some 12), .mov (.t 0), none⟩, ⟨(some 13), .len (.t 12), none⟩, ⟨(some 14), .bin .gtr (.t 13) (.c (.int .i64 65536)), none⟩] [12, 13]) (.cond (.t 14) (.seq /-3-/ (.region [ ⟨(some 15), .build [.int .u32 0, .nilsl, .nilsl, .nilsl] [], none⟩, ⟨none, .store 4 (.t 2) (.t 15), none⟩, ⟨(some 3), .mov (.c (.int .i64 6)), none⟩] [0, 14, 15]) (.ret)) (.skip))) (.seq /-4-/ (.region [ ⟨(some 16), .mov (.t 0), none⟩, ⟨(some 17), .build [.nilsl, .int .i64 0, .int .i64 0] [(0, 1, (.t 16))], none⟩, ⟨(some 18), .box (.t 17), none⟩, ⟨(some 19), .build [.nilp, .int .u32 0, .nilsl, .nilsl, .nilsl] [(0, 1, (.t 18))], none⟩, ⟨(some 20), .box (.t 19), none⟩, ⟨(some 4), .mov (.t 20), none⟩] [3, 14, 16, 17, 18, 19, 20]) (.join /-5 live [0, 2, 4]-/ (.seq /-6-/ (.region [ ⟨(some 21), .mov (.t 4), none⟩, ⟨(some 22), .xop .nilck [(.t 21)], none⟩, ⟨(some 23), .fldaddr 0 1 (.t 22), none⟩, ⟨(some 24), .load false 1 (.t 23), none⟩, ⟨(some 25), .call f_object_position_bytes [(.t 24), (.c (.int .u32 4))], none⟩, ⟨(some 5), .mov (.t 25), none⟩] [21, 22, 23, 24, 25]) (.seq /-7-/ (.region [ ⟨(some 26), .mov (.t 4), none⟩, ⟨(some 27), .xop .nilck [(.t 26)], none⟩, ⟨(some 28), .fldaddr 0 1 (.t 27), none⟩, ⟨(some 29), .load false 1 (.t 28), none⟩, ⟨(some 30), .xop .nilck [(.t 29)], none⟩, ⟨(some 31), .fldaddr 2 1 (.t 30), none⟩, ⟨(some 32), .load false 1 (.t 31), none⟩, ⟨(some 33), .bin .eql (.t 32) (.c (.int .i64 0)), none⟩, ⟨(some 34), .mov (.t 33), none⟩, ⟨(some 35), .mov (.t 5), (some (34, true))⟩, ⟨(some 36), .xop .b2s [(.t 35)], (some (34, true))⟩, ⟨(some 37), .xop (.seq true) [(.t 36), (.c (.str ⟨#[68, 67, 79, 49]⟩))], (some (34, true))⟩, ⟨(some 38), .pick (.t 34) (.t 37) (.c (.bool false)), none⟩] [5, 26, 27, 28, 29, 30, 31, 32, 33, 34, 35, 36, 37]) (.cond (.t 38) (.region [ ⟨(some 39), .mov (.t 4), none⟩, ⟨(some 40), .xop .nilck [(.t 39)], none⟩, ⟨(some 41), .fldaddr 0 1 (.t 40), none⟩, ⟨(some 42), .load false 1 (.t 41), none⟩, ⟨(some 43), .call f_object_position_fail [(.t 42), (.c (.int .i64 4))], none⟩] [38, 39, 40, 41, 42, 43]) (.skip)))) (ac_object_Decode_k1))))

def rs_object_Decode : List ARet := [.cell 2 true 4, .tmp 3]

set_option maxRecDepth 100000 in
theorem cf_object_Decode : compF Try.prog f_object_Decode (qRoL [] [(8, [0, 1, 2, 3, 5, 6, 7, 8, 10, 11, 12, 13, 15, 16, 17, 18, 19, 20, 21, 22, 23, 24, 25, 26, 27, 28, 29, 30, 31, 32, 33, 34, 35, 36, 37, 38, 39, 40, 41, 42, 43, 44, 45, 46, 47, 48, 49, 50, 51, 52, 53, 54, 55, 56, 57, 58, 59, 60, 61, 62, 63, 64, 65, 66, 67, 68, 69, 70, 71, 72, 73, 74, 75, 76, 77, 78, 79, 80, 81, 82, 83, 84, 85, 86, 87, 88, 89, 90, 91, 92, 93, 94, 95, 96, 97, 98, 99, 100, 101, 102, 103, 104, 105, 106, 107, 108, 109, 110, 111, 112, 113, 114, 115, 116, 117, 118, 119, 120, 121, 122, 123, 124, 125, 126, 127, 128, 129, 130, 131, 132, 133, 134, 135, 136, 137, 138, 139, 140, 141, 142, 143, 144, 145, 146, 147, 148, 149])]) = some (ac_object_Decode.strip, rs_object_Decode, 137) := by kernel_rfl

def dr_object_reader_sections_0_ops : List AOper := [ ⟨(some 20), .mov (.t 0), none⟩, ⟨(some 21), .xop .nilck [(.t 20)], none⟩, ⟨(some 22), .fldaddr 0 1 (.t 21), none⟩, ⟨(some 23), .load false 1 (.t 22), none⟩, ⟨(some 24), .call f_object_position_text [(.t 23)], none⟩, ⟨(some 25), .mov (.t 0), none⟩, ⟨(some 26), .xop .nilck [(.t 25)], none⟩, ⟨(some 27), .fldaddr 0 1 (.t 26), none⟩, ⟨(some 28), .load false 1 (.t 27), none⟩, ⟨(some 29), .call f_object_position_number [(.t 28), (.c (.int .i64 4))], none⟩, ⟨(some 30), .build [.str ⟨#[]⟩, .int .u32 0, .nilsl, .bool false, .bool false] [(0, 1, (.t 24)), (1, 1, (.t 29))], none⟩, ⟨(some 4), .alloc [.str ⟨#[]⟩, .int .u32 0, .nilsl, .bool false, .bool false], none⟩, ⟨none, .store 5 (.t 4) (.t 30), none⟩]
def dr_object_reader_sections_0_deps : List (List Nat) := [[], [0], [1], [2], [3], [], [5], [6], [7], [8, 4], [4, 9], [], [11, 10, 9, 0, 1, 2, 3, 4, 5, 6, 7, 8, 9, 10, 11]]
def dr_object_reader_sections_0_Ls : List Nat := [4, 9, 11, 12]
def dr_object_reader_sections_0_A : List (List Nat) := [[], [0], [0, 1], [0, 1, 2], [0, 1, 2, 3], [], [5], [5, 6], [5, 6, 7], [0, 1, 2, 3, 4, 5, 6, 7, 8], [0, 1, 2, 3, 4, 5, 6, 7, 8, 9], [], [0, 1, 2, 3, 4, 5, 6, 7, 8, 9, 10, 11]]
def dr_object_reader_sections_0_St : List (List Nat) := [[], [4], [11], [4, 9], [4, 11], [4, 9, 11], [4, 9, 11, 12]]
def dr_object_reader_sections_0_plan : Plan := [(0, [], []), (1, [], []), (2, [], []), (3, [], []), (3, [11], [11]), (4, [], [4]), (4, [11], [4, 11]), (5, [], []), (6, [], []), (7, [], []), (8, [], []), (8, [4], [4]), (8, [11], [11]), (8, [4, 11], [4, 11]), (9, [4], [4, 9]), (9, [4, 11], [4, 9, 11]), (10, [4, 9], [4, 9]), (11, [], [11]), (11, [4], [4, 11]), (11, [4, 9], [4, 9, 11]), (12, [4, 9, 11], [4, 9, 11, 12])]

def dr_object_reader_sections_1_ops : List AOper := [ ⟨(some 51), .mov (.t 0), none⟩, ⟨(some 52), .xop .nilck [(.t 51)], none⟩, ⟨(some 53), .fldaddr 0 1 (.t 52), none⟩, ⟨(some 54), .load false 1 (.t 53), none⟩, ⟨(some 55), .mov (.t 0), none⟩, ⟨(some 56), .xop .nilck [(.t 55)], none⟩, ⟨(some 57), .fldaddr 0 1 (.t 56), none⟩, ⟨(some 58), .load false 1 (.t 57), none⟩, ⟨(some 59), .call f_object_position_number [(.t 58), (.c (.int .i64 4))], none⟩, ⟨(some 60), .call f_object_position_bytes [(.t 54), (.t 59)], none⟩, ⟨(some 61), .fldaddr 2 1 (.t 4), none⟩, ⟨none, .store 1 (.t 61) (.t 60), none⟩]
def dr_object_reader_sections_1_deps : List (List Nat) := [[], [0], [1], [2], [], [4], [5], [6], [7], [3, 8, 8], [0, 1, 2, 3, 4, 5, 6, 7, 8, 9], [10, 9, 9, 0, 1, 2, 3, 4, 5, 6, 7, 8, 9]]
def dr_object_reader_sections_1_Ls : List Nat := [8, 9, 11]
def dr_object_reader_sections_1_A : List (List Nat) := [[], [0], [0, 1], [0, 1, 2], [], [4], [4, 5], [4, 5, 6], [4, 5, 6, 7], [0, 1, 2, 3, 4, 5, 6, 7, 8], [0, 1, 2, 3, 4, 5, 6, 7, 8, 9], [0, 1, 2, 3, 4, 5, 6, 7, 8, 9, 10]]
def dr_object_reader_sections_1_St : List (List Nat) := [[], [8], [8, 9], [8, 9, 11]]
def dr_object_reader_sections_1_plan : Plan := [(0, [], []), (1, [], []), (2, [], []), (3, [], []), (3, [8], [8]), (4, [], []), (5, [], []), (6, [], []), (7, [], []), (8, [], [8]), (9, [8], [8, 9]), (10, [8, 9], [8, 9]), (11, [8, 9], [8, 9, 11])]

def dr_object_reader_sections_2_ops : List AOper := [ ⟨(some 62), .mov (.t 0), none⟩, ⟨(some 63), .mov (.t 0), none⟩, ⟨(some 64), .xop .nilck [(.t 63)], none⟩, ⟨(some 65), .fldaddr 1 4 (.t 64), none⟩, ⟨(some 66), .fldaddr 1 1 (.t 65), none⟩, ⟨(some 67), .load false 1 (.t 66), none⟩, ⟨(some 68), .load true 5 (.t 4), none⟩, ⟨(some 69), .buildSl 5 1 [.str ⟨#[]⟩, .int .u32 0, .nilsl, .bool false, .bool false] [(0, (.t 68))], none⟩, ⟨(some 70), .append 5 56 (.t 67) (.t 69), none⟩, ⟨(some 71), .xop .nilck [(.t 62)], none⟩, ⟨(some 72), .fldaddr 1 4 (.t 71), none⟩, ⟨(some 73), .fldaddr 1 1 (.t 72), none⟩, ⟨none, .store 1 (.t 73) (.t 70), none⟩]
def dr_object_reader_sections_2_deps : List (List Nat) := [[], [], [1], [2], [3], [4], [], [6], [5, 7], [0, 0, 1, 2, 3, 4, 5, 6, 7, 8], [9, 0, 1, 2, 3, 4, 5, 6, 7, 8], [10, 0, 1, 2, 3, 4, 5, 6, 7, 8], [11, 8, 8, 0, 1, 2, 3, 4, 5, 6, 7, 8]]
def dr_object_reader_sections_2_Ls : List Nat := [7, 8, 12]
def dr_object_reader_sections_2_A : List (List Nat) := [[], [], [1], [1, 2], [1, 2, 3], [1, 2, 3, 4], [], [6], [1, 2, 3, 4, 5, 6, 7], [0, 1, 2, 3, 4, 5, 6, 7, 8], [0, 1, 2, 3, 4, 5, 6, 7, 8, 9], [0, 1, 2, 3, 4, 5, 6, 7, 8, 9, 10], [0, 1, 2, 3, 4, 5, 6, 7, 8, 9, 10, 11]]
def dr_object_reader_sections_2_St : List (List Nat) := [[], [7], [7, 8], [7, 8, 12]]
def dr_object_reader_sections_2_plan : Plan := [(0, [], []), (1, [], []), (2, [], []), (3, [], []), (4, [], []), (5, [], []), (5, [7], [7]), (6, [], []), (7, [], [7]), (8, [7], [7, 8]), (9, [7, 8], [7, 8]), (10, [7, 8], [7, 8]), (11, [7, 8], [7, 8]), (12, [7, 8], [7, 8, 12])]

def ac_object_reader_sections_k3 : ACode :=
  /-live [0, 1, 4, 5]-/ .seq /-7-/ (.region [ ⟨(some 43), .mov (.t 5), none⟩, ⟨(some 44), .bin .and (.t 43) (.c (.int .u32 1)), none⟩, ⟨(some 45), .bin .eql (.t 44) (.c (.int .u32 1)), none⟩, ⟨(some 46), .mov (.t 5), none⟩, ⟨(some 47), .bin .and (.t 46) (.c (.int .u32 2)), none⟩, ⟨(some 48), .bin .eql (.t 47) (.c (.int .u32 2)), none⟩, ⟨(some 49), .fldaddr 3 1 (.t 4), none⟩, ⟨none, .store 1 (.t 49) (.t 45), none⟩, ⟨(some 50), .fldaddr 4 1 (.t 4), none⟩, ⟨none, .store 1 (.t 50) (.t 48), none⟩] [5, 37, 43, 44, 45, 46, 47, 48, 49, 50]) (.seq /-8-/ (.draw (mkTree dr_object_reader_sections_1_ops dr_object_reader_sections_1_deps 12 (List.replicate 12 false)) [51, 52, 53, 54, 55, 56, 57, 58, 59, 60, 61]) (.draw (mkTree dr_object_reader_sections_2_ops dr_object_reader_sections_2_deps 13 (List.replicate 13 false)) [4, 62, 63, 64, 65, 66, 67, 68, 69, 70, 71, 72, 73]))

def ac_object_reader_sections_l4 : ACode :=
  /-live [0, 1]-/ .seq /-0-/ (.seq /-1-/ (.region [ ⟨(some 6), .mov (.t 1), none⟩, ⟨(some 7), .bin .gtr (.t 6) (.c (.int .u32 0)), none⟩, ⟨(some 8), .mov (.t 7), none⟩, ⟨(some 9), .mov (.t 0), (some (8, true))⟩, ⟨(some 10), .xop .nilck [(.t 9)], (some (8, true))⟩, ⟨(some 11), .fldaddr 0 1 (.t 10), (some (8, true))⟩, ⟨(some 12), .load false 1 (.t 11), (some (8, true))⟩, ⟨(some 13), .xop .nilck [(.t 12)], (some (8, true))⟩, ⟨(some 14), .fldaddr 2 1 (.t 13), (some (8, true))⟩, ⟨(some 15), .load false 1 (.t 14), (some (8, true))⟩, ⟨(some 16), .bin .eql (.t 15) (.c (.int .i64 0)), (some (8, true))⟩, ⟨(some 17), .pick (.t 8) (.t 16) (.c (.bool false)), none⟩] [6, 7, 8, 9, 10, 11, 12, 13, 14, 15, 16]) (.cond (.t 17) (.skip) (.exit 0))) (.seq /-2-/ (.block 1 (.seq /-3-/ (.draw (mkTree dr_object_reader_sections_0_ops dr_object_reader_sections_0_deps 13 (List.replicate 13 false)) [17, 20, 21, 22, 23, 24, 25, 26, 27, 28, 29, 30]) (.seq /-4-/ (.region [ ⟨(some 31), .mov (.t 0), none⟩, ⟨(some 32), .xop .nilck [(.t 31)], none⟩, ⟨(some 33), .fldaddr 0 1 (.t 32), none⟩, ⟨(some 34), .load false 1 (.t 33), none⟩, ⟨(some 35), .call f_object_position_number [(.t 34), (.c (.int .i64 1))], none⟩, ⟨(some 5), .mov (.t 35), none⟩] [31, 32, 33, 34, 35]) (.join /-5 live [0, 1, 4, 5]-/ (.seq /-6-/ (.region [ ⟨(some 36), .mov (.t 5), none⟩, ⟨(some 37), .bin .gtr (.t 36) (.c (.int .u32 3)), none⟩] [36]) (.cond (.t 37) (.region [ ⟨(some 38), .mov (.t 0), none⟩, ⟨(some 39), .xop .nilck [(.t 38)], none⟩, ⟨(some 40), .fldaddr 0 1 (.t 39), none⟩, ⟨(some 41), .load false 1 (.t 40), none⟩, ⟨(some 42), .call f_object_position_fail [(.t 41), (.c (.int .i64 4))], none⟩] [37, 38, 39, 40, 41, 42]) (.skip))) (ac_object_reader_sections_k3))))) (.region [ ⟨(some 18), .mov (.t 1), none⟩, ⟨(some 19), .bin .sub (.t 18) (.c (.int .u32 1)), none⟩, ⟨(some 1), .mov (.t 19), none⟩] [18, 19]))

/-- (*decompiler/object.reader).sections -/
def ac_object_reader_sections : ACode := .block 0 (.loop ac_object_reader_sections_l4)

def rs_object_reader_sections : List ARet := []

set_option maxRecDepth 100000 in
theorem cf_object_reader_sections : compF Try.prog f_object_reader_sections (qRoL [] [(2, [0, 1, 2, 3, 5, 6, 7, 8, 10, 11, 12, 13, 14, 15, 16, 17, 18, 19, 20, 21, 22, 23, 24, 25, 26, 27, 28, 29, 30, 31, 32, 33, 34, 35, 36, 37, 38, 39, 40, 41, 42, 43, 44, 45, 46, 47, 48, 49, 50, 51, 52, 53, 54, 55, 56, 57, 58, 59, 60, 61, 62, 63, 64, 65, 66, 67, 68, 69, 70, 71, 72, 73, 74, 75, 76, 77, 78, 79, 80, 81, 82, 83, 84, 85, 86, 87, 88, 89, 90, 91, 92, 93, 94, 95, 96, 97, 98, 99, 100, 101, 102, 103, 104, 105, 106, 107, 108, 109, 110, 111, 112, 113, 114, 115, 116, 117, 118, 119, 120, 121, 122, 123, 124, 125, 126, 127, 128, 129, 130, 131, 132, 133, 134, 135, 136, 137, 138, 139, 140, 141, 142, 143, 144, 145, 146, 147, 148, 149]), (7, [0, 1, 2, 3, 4, 5, 6, 7, 10, 11, 12, 13, 14, 15, 16, 17, 18, 19, 20, 21, 22, 23, 24, 25, 26, 27, 28, 29, 30, 31, 32, 33, 34, 35, 36, 37, 38, 39, 40, 41, 42, 43, 44, 45, 46, 47, 48, 49, 50, 51, 52, 53, 54, 55, 56, 57, 58, 59, 60, 61, 62, 63, 64, 65, 66, 67, 68, 69, 70, 71, 72, 73, 74, 75, 76, 77, 78, 79, 80, 81, 82, 83, 84, 85, 86, 87, 88, 89, 90, 91, 92, 93, 94, 95, 96, 97, 98, 99, 100, 101, 102, 103, 104, 105, 106, 107, 108, 109, 110, 111, 112, 113, 114, 115, 116, 117, 118, 119, 120, 121, 122, 123, 124, 125, 126, 127, 128, 129, 130, 131, 132, 133, 134, 135, 136, 137, 138, 139, 140, 141, 142, 143, 144, 145, 146, 147, 148, 149])]) = some (ac_object_reader_sections.strip, rs_object_reader_sections, 74) := by kernel_rfl

def dr_object_reader_symbols_0_ops : List AOper := [ ⟨(some 18), .mov (.t 0), none⟩, ⟨(some 19), .mov (.t 0), none⟩, ⟨(some 20), .xop .nilck [(.t 19)], none⟩, ⟨(some 21), .fldaddr 1 4 (.t 20), none⟩, ⟨(some 22), .fldaddr 2 1 (.t 21), none⟩, ⟨(some 23), .load false 1 (.t 22), none⟩, ⟨(some 24), .mov (.t 0), none⟩, ⟨(some 25), .xop .nilck [(.t 24)], none⟩, ⟨(some 26), .fldaddr 0 1 (.t 25), none⟩, ⟨(some 27), .load false 1 (.t 26), none⟩, ⟨(some 28), .call f_object_position_text [(.t 27)], none⟩, ⟨(some 29), .mov (.t 0), none⟩, ⟨(some 30), .xop .nilck [(.t 29)], none⟩, ⟨(some 31), .fldaddr 0 1 (.t 30), none⟩, ⟨(some 32), .load false 1 (.t 31), none⟩, ⟨(some 33), .call f_object_position_number [(.t 32), (.c (.int .i64 4))], none⟩, ⟨(some 34), .mov (.t 0), none⟩, ⟨(some 35), .xop .nilck [(.t 34)], none⟩, ⟨(some 36), .fldaddr 0 1 (.t 35), none⟩, ⟨(some 37), .load false 1 (.t 36), none⟩, ⟨(some 38), .call f_object_position_number [(.t 37), (.c (.int .i64 1))], none⟩, ⟨(some 39), .conv .i64 (.t 38), none⟩, ⟨(some 40), .build [.str ⟨#[]⟩, .int .u32 0, .int .i64 0] [(0, 1, (.t 28)), (1, 1, (.t 33)), (2, 1, (.t 39))], none⟩, ⟨(some 41), .buildSl 3 1 [.str ⟨#[]⟩, .int .u32 0, .int .i64 0] [(0, (.t 40))], none⟩, ⟨(some 42), .append 3 32 (.t 23) (.t 41), none⟩, ⟨(some 43), .xop .nilck [(.t 18)], none⟩, ⟨(some 44), .fldaddr 1 4 (.t 43), none⟩, ⟨(some 45), .fldaddr 2 1 (.t 44), none⟩, ⟨none, .store 1 (.t 45) (.t 42), none⟩]
def dr_object_reader_symbols_0_deps : List (List Nat) := [[], [], [1], [2], [3], [4], [], [6], [7], [8], [9], [], [11], [12], [13], [14, 10], [], [16], [17], [18], [19, 15], [20], [10, 15, 21], [22], [5, 23, 20], [0, 0, 1, 2, 3, 4, 5, 6, 7, 8, 9, 10, 11, 12, 13, 14, 15, 16, 17, 18, 19, 20, 21, 22, 23, 24], [25, 0, 1, 2, 3, 4, 5, 6, 7, 8, 9, 10, 11, 12, 13, 14, 15, 16, 17, 18, 19, 20, 21, 22, 23, 24], [26, 0, 1, 2, 3, 4, 5, 6, 7, 8, 9, 10, 11, 12, 13, 14, 15, 16, 17, 18, 19, 20, 21, 22, 23, 24], [27, 24, 24, 0, 1, 2, 3, 4, 5, 6, 7, 8, 9, 10, 11, 12, 13, 14, 15, 16, 17, 18, 19, 20, 21, 22, 23, 24]]
def dr_object_reader_symbols_0_Ls : List Nat := [10, 15, 20, 23, 24, 28]
def dr_object_reader_symbols_0_A : List (List Nat) := [[], [], [1], [1, 2], [1, 2, 3], [1, 2, 3, 4], [], [6], [6, 7], [6, 7, 8], [6, 7, 8, 9], [], [11], [11, 12], [11, 12, 13], [6, 7, 8, 9, 10, 11, 12, 13, 14], [], [16], [16, 17], [16, 17, 18], [6, 7, 8, 9, 10, 11, 12, 13, 14, 15, 16, 17, 18, 19], [6, 7, 8, 9, 10, 11, 12, 13, 14, 15, 16, 17, 18, 19, 20], [6, 7, 8, 9, 10, 11, 12, 13, 14, 15, 16, 17, 18, 19, 20, 21], [6, 7, 8, 9, 10, 11, 12, 13, 14, 15, 16, 17, 18, 19, 20, 21, 22], [1, 2, 3, 4, 5, 6, 7, 8, 9, 10, 11, 12, 13, 14, 15, 16, 17, 18, 19, 20, 21, 22, 23], [0, 1, 2, 3, 4, 5, 6, 7, 8, 9, 10, 11, 12, 13, 14, 15, 16, 17, 18, 19, 20, 21, 22, 23, 24], [0, 1, 2, 3, 4, 5, 6, 7, 8, 9, 10, 11, 12, 13, 14, 15, 16, 17, 18, 19, 20, 21, 22, 23, 24, 25], [0, 1, 2, 3, 4, 5, 6, 7, 8, 9, 10, 11, 12, 13, 14, 15, 16, 17, 18, 19, 20, 21, 22, 23, 24, 25, 26], [0, 1, 2, 3, 4, 5, 6, 7, 8, 9, 10, 11, 12, 13, 14, 15, 16, 17, 18, 19, 20, 21, 22, 23, 24, 25, 26, 27]]
def dr_object_reader_symbols_0_St : List (List Nat) := [[], [10], [10, 15], [10, 15, 20], [10, 15, 20, 23], [10, 15, 20, 23, 24], [10, 15, 20, 23, 24, 28]]
def dr_object_reader_symbols_0_plan : Plan := [(0, [], []), (1, [], []), (2, [], []), (3, [], []), (4, [], []), (5, [], []), (5, [10], [10]), (5, [10, 15], [10, 15]), (5, [10, 15, 20], [10, 15, 20]), (5, [10, 15, 20, 23], [10, 15, 20, 23]), (6, [], []), (7, [], []), (8, [], []), (9, [], []), (10, [], [10]), (11, [], []), (12, [], []), (13, [], []), (14, [], []), (14, [10], [10]), (15, [10], [10, 15]), (16, [], []), (17, [], []), (18, [], []), (19, [], []), (19, [10], [10]), (19, [10, 15], [10, 15]), (20, [10, 15], [10, 15, 20]), (21, [10, 15, 20], [10, 15, 20]), (22, [10, 15, 20], [10, 15, 20]), (23, [10, 15, 20], [10, 15, 20, 23]), (24, [10, 15, 20, 23], [10, 15, 20, 23, 24]), (25, [10, 15, 20, 23, 24], [10, 15, 20, 23, 24]), (26, [10, 15, 20, 23, 24], [10, 15, 20, 23, 24]), (27, [10, 15, 20, 23, 24], [10, 15, 20, 23, 24]), (28, [10, 15, 20, 23, 24], [10, 15, 20, 23, 24, 28])]

def ac_object_reader_symbols_l1 : ACode :=
  /-live [0, 1]-/ .seq /-0-/ (.seq /-1-/ (.region [ ⟨(some 4), .mov (.t 1), none⟩, ⟨(some 5), .bin .gtr (.t 4) (.c (.int .u32 0)), none⟩, ⟨(some 6), .mov (.t 5), none⟩, ⟨(some 7), .mov (.t 0), (some (6, true))⟩, ⟨(some 8), .xop .nilck [(.t 7)], (some (6, true))⟩, ⟨(some 9), .fldaddr 0 1 (.t 8), (some (6, true))⟩, ⟨(some 10), .load false 1 (.t 9), (some (6, true))⟩, ⟨(some 11), .xop .nilck [(.t 10)], (some (6, true))⟩, ⟨(some 12), .fldaddr 2 1 (.t 11), (some (6, true))⟩, ⟨(some 13), .load false 1 (.t 12), (some (6, true))⟩, ⟨(some 14), .bin .eql (.t 13) (.c (.int .i64 0)), (some (6, true))⟩, ⟨(some 15), .pick (.t 6) (.t 14) (.c (.bool false)), none⟩] [4, 5, 6, 7, 8, 9, 10, 11, 12, 13, 14]) (.cond (.t 15) (.skip) (.exit 0))) (.seq /-2-/ (.block 1 (.draw (mkTree dr_object_reader_symbols_0_ops dr_object_reader_symbols_0_deps 29 (List.replicate 29 false)) [15, 18, 19, 20, 21, 22, 23, 24, 25, 26, 27, 28, 29, 30, 31, 32, 33, 34, 35, 36, 37, 38, 39, 40, 41, 42, 43, 44, 45])) (.region [ ⟨(some 16), .mov (.t 1), none⟩, ⟨(some 17), .bin .sub (.t 16) (.c (.int .u32 1)), none⟩, ⟨(some 1), .mov (.t 17), none⟩] [16, 17]))

/-- (*decompiler/object.reader).symbols -/
def ac_object_reader_symbols : ACode := .block 0 (.loop ac_object_reader_symbols_l1)

def rs_object_reader_symbols : List ARet := []

set_option maxRecDepth 100000 in
theorem cf_object_reader_symbols : compF Try.prog f_object_reader_symbols (qRoL [] [(2, [0, 1, 2, 3, 4, 5, 6, 7, 8, 9, 11, 12, 13, 14, 16, 17, 18, 19, 21, 22, 23, 24, 25, 26, 27, 28, 29, 30, 31, 32, 33, 34, 35, 36, 37, 38, 39, 40, 41, 42, 43, 44, 45, 46, 47, 48, 49, 50, 51, 52, 53, 54, 55, 56, 57, 58, 59, 60, 61, 62, 63, 64, 65, 66, 67, 68, 69, 70, 71, 72, 73, 74, 75, 76, 77, 78, 79, 80, 81, 82, 83, 84, 85, 86, 87, 88, 89, 90, 91, 92, 93, 94, 95, 96, 97, 98, 99, 100, 101, 102, 103, 104, 105, 106, 107, 108, 109, 110, 111, 112, 113, 114, 115, 116, 117, 118, 119, 120, 121, 122, 123, 124, 125, 126, 127, 128, 129, 130, 131, 132, 133, 134, 135, 136, 137, 138, 139, 140, 141, 142, 143, 144, 145, 146, 147, 148, 149])]) = some (ac_object_reader_symbols.strip, rs_object_reader_symbols, 46) := by kernel_rfl

def dr_object_reader_relocs_0_ops : List AOper := [ ⟨(some 18), .mov (.t 0), none⟩, ⟨(some 19), .mov (.t 0), none⟩, ⟨(some 20), .xop .nilck [(.t 19)], none⟩, ⟨(some 21), .fldaddr 1 4 (.t 20), none⟩, ⟨(some 22), .fldaddr 3 1 (.t 21), none⟩, ⟨(some 23), .load false 1 (.t 22), none⟩, ⟨(some 24), .mov (.t 0), none⟩, ⟨(some 25), .xop .nilck [(.t 24)], none⟩, ⟨(some 26), .fldaddr 0 1 (.t 25), none⟩, ⟨(some 27), .load false 1 (.t 26), none⟩, ⟨(some 28), .call f_object_position_number [(.t 27), (.c (.int .i64 1))], none⟩, ⟨(some 29), .conv .i64 (.t 28), none⟩, ⟨(some 30), .mov (.t 0), none⟩, ⟨(some 31), .xop .nilck [(.t 30)], none⟩, ⟨(some 32), .fldaddr 0 1 (.t 31), none⟩, ⟨(some 33), .load false 1 (.t 32), none⟩, ⟨(some 34), .call f_object_position_number [(.t 33), (.c (.int .i64 4))], none⟩, ⟨(some 35), .conv .i64 (.t 34), none⟩, ⟨(some 36), .mov (.t 0), none⟩, ⟨(some 37), .xop .nilck [(.t 36)], none⟩, ⟨(some 38), .fldaddr 0 1 (.t 37), none⟩, ⟨(some 39), .load false 1 (.t 38), none⟩, ⟨(some 40), .call f_object_position_number [(.t 39), (.c (.int .i64 1))], none⟩, ⟨(some 41), .conv .i64 (.t 40), none⟩, ⟨(some 42), .mov (.t 0), none⟩, ⟨(some 43), .xop .nilck [(.t 42)], none⟩, ⟨(some 44), .fldaddr 0 1 (.t 43), none⟩, ⟨(some 45), .load false 1 (.t 44), none⟩, ⟨(some 46), .call f_object_position_text [(.t 45)], none⟩, ⟨(some 47), .mov (.t 0), none⟩, ⟨(some 48), .xop .nilck [(.t 47)], none⟩, ⟨(some 49), .fldaddr 0 1 (.t 48), none⟩, ⟨(some 50), .load false 1 (.t 49), none⟩, ⟨(some 51), .call f_object_position_number [(.t 50), (.c (.int .i64 4))], none⟩, ⟨(some 52), .conv .i32 (.t 51), none⟩, ⟨(some 53), .build [.int .i64 0, .int .i64 0, .int .i64 0, .str ⟨#[]⟩, .int .i32 0] [(0, 1, (.t 29)), (1, 1, (.t 35)), (2, 1, (.t 41)), (3, 1, (.t 46)), (4, 1, (.t 52))], none⟩, ⟨(some 54), .buildSl 5 1 [.int .i64 0, .int .i64 0, .int .i64 0, .str ⟨#[]⟩, .int .i32 0] [(0, (.t 53))], none⟩, ⟨(some 55), .append 5 48 (.t 23) (.t 54), none⟩, ⟨(some 56), .xop .nilck [(.t 18)], none⟩, ⟨(some 57), .fldaddr 1 4 (.t 56), none⟩, ⟨(some 58), .fldaddr 3 1 (.t 57), none⟩, ⟨none, .store 1 (.t 58) (.t 55), none⟩]
def dr_object_reader_relocs_0_deps : List (List Nat) := [[], [], [1], [2], [3], [4], [], [6], [7], [8], [9], [10], [], [12], [13], [14], [15, 10], [16], [], [18], [19], [20], [21, 16], [22], [], [24], [25], [26], [27, 22], [], [29], [30], [31], [32, 28], [33], [11, 17, 23, 28, 34], [35], [5, 36, 33], [0, 0, 1, 2, 3, 4, 5, 6, 7, 8, 9, 10, 11, 12, 13, 14, 15, 16, 17, 18, 19, 20, 21, 22, 23, 24, 25, 26, 27, 28, 29, 30, 31, 32, 33, 34, 35, 36, 37], [38, 0, 1, 2, 3, 4, 5, 6, 7, 8, 9, 10, 11, 12, 13, 14, 15, 16, 17, 18, 19, 20, 21, 22, 23, 24, 25, 26, 27, 28, 29, 30, 31, 32, 33, 34, 35, 36, 37], [39, 0, 1, 2, 3, 4, 5, 6, 7, 8, 9, 10, 11, 12, 13, 14, 15, 16, 17, 18, 19, 20, 21, 22, 23, 24, 25, 26, 27, 28, 29, 30, 31, 32, 33, 34, 35, 36, 37], [40, 37, 37, 0, 1, 2, 3, 4, 5, 6, 7, 8, 9, 10, 11, 12, 13, 14, 15, 16, 17, 18, 19, 20, 21, 22, 23, 24, 25, 26, 27, 28, 29, 30, 31, 32, 33, 34, 35, 36, 37]]
def dr_object_reader_relocs_0_Ls : List Nat := [10, 16, 22, 28, 33, 36, 37, 41]
def dr_object_reader_relocs_0_A : List (List Nat) := [[], [], [1], [1, 2], [1, 2, 3], [1, 2, 3, 4], [], [6], [6, 7], [6, 7, 8], [6, 7, 8, 9], [6, 7, 8, 9, 10], [], [12], [12, 13], [12, 13, 14], [6, 7, 8, 9, 10, 12, 13, 14, 15], [6, 7, 8, 9, 10, 12, 13, 14, 15, 16], [], [18], [18, 19], [18, 19, 20], [6, 7, 8, 9, 10, 12, 13, 14, 15, 16, 18, 19, 20, 21], [6, 7, 8, 9, 10, 12, 13, 14, 15, 16, 18, 19, 20, 21, 22], [], [24], [24, 25], [24, 25, 26], [6, 7, 8, 9, 10, 12, 13, 14, 15, 16, 18, 19, 20, 21, 22, 24, 25, 26, 27], [], [29], [29, 30], [29, 30, 31], [6, 7, 8, 9, 10, 12, 13, 14, 15, 16, 18, 19, 20, 21, 22, 24, 25, 26, 27, 28, 29, 30, 31, 32], [6, 7, 8, 9, 10, 12, 13, 14, 15, 16, 18, 19, 20, 21, 22, 24, 25, 26, 27, 28, 29, 30, 31, 32, 33], [6, 7, 8, 9, 10, 11, 12, 13, 14, 15, 16, 17, 18, 19, 20, 21, 22, 23, 24, 25, 26, 27, 28, 29, 30, 31, 32, 33, 34], [6, 7, 8, 9, 10, 11, 12, 13, 14, 15, 16, 17, 18, 19, 20, 21, 22, 23, 24, 25, 26, 27, 28, 29, 30, 31, 32, 33, 34, 35], [1, 2, 3, 4, 5, 6, 7, 8, 9, 10, 11, 12, 13, 14, 15, 16, 17, 18, 19, 20, 21, 22, 23, 24, 25, 26, 27, 28, 29, 30, 31, 32, 33, 34, 35, 36], [0, 1, 2, 3, 4, 5, 6, 7, 8, 9, 10, 11, 12, 13, 14, 15, 16, 17, 18, 19, 20, 21, 22, 23, 24, 25, 26, 27, 28, 29, 30, 31, 32, 33, 34, 35, 36, 37], [0, 1, 2, 3, 4, 5, 6, 7, 8, 9, 10, 11, 12, 13, 14, 15, 16, 17, 18, 19, 20, 21, 22, 23, 24, 25, 26, 27, 28, 29, 30, 31, 32, 33, 34, 35, 36, 37, 38], [0, 1, 2, 3, 4, 5, 6, 7, 8, 9, 10, 11, 12, 13, 14, 15, 16, 17, 18, 19, 20, 21, 22, 23, 24, 25, 26, 27, 28, 29, 30, 31, 32, 33, 34, 35, 36, 37, 38, 39], [0, 1, 2, 3, 4, 5, 6, 7, 8, 9, 10, 11, 12, 13, 14, 15, 16, 17, 18, 19, 20, 21, 22, 23, 24, 25, 26, 27, 28, 29, 30, 31, 32, 33, 34, 35, 36, 37, 38, 39, 40]]
def dr_object_reader_relocs_0_St : List (List Nat) := [[], [10], [10, 16], [10, 16, 22], [10, 16, 22, 28], [10, 16, 22, 28, 33], [10, 16, 22, 28, 33, 36], [10, 16, 22, 28, 33, 36, 37], [10, 16, 22, 28, 33, 36, 37, 41]]
def dr_object_reader_relocs_0_plan : Plan := [(0, [], []), (1, [], []), (2, [], []), (3, [], []), (4, [], []), (5, [], []), (5, [10], [10]), (5, [10, 16], [10, 16]), (5, [10, 16, 22], [10, 16, 22]), (5, [10, 16, 22, 28], [10, 16, 22, 28]), (5, [10, 16, 22, 28, 33], [10, 16, 22, 28, 33]), (5, [10, 16, 22, 28, 33, 36], [10, 16, 22, 28, 33, 36]), (6, [], []), (7, [], []), (8, [], []), (9, [], []), (10, [], [10]), (11, [10], [10]), (12, [], []), (13, [], []), (14, [], []), (15, [], []), (15, [10], [10]), (16, [10], [10, 16]), (17, [10, 16], [10, 16]), (18, [], []), (19, [], []), (20, [], []), (21, [], []), (21, [10], [10]), (21, [10, 16], [10, 16]), (22, [10, 16], [10, 16, 22]), (23, [10, 16, 22], [10, 16, 22]), (24, [], []), (25, [], []), (26, [], []), (27, [], []), (27, [10], [10]), (27, [10, 16], [10, 16]), (27, [10, 16, 22], [10, 16, 22]), (28, [10, 16, 22], [10, 16, 22, 28]), (29, [], []), (30, [], []), (31, [], []), (32, [], []), (32, [10], [10]), (32, [10, 16], [10, 16]), (32, [10, 16, 22], [10, 16, 22]), (32, [10, 16, 22, 28], [10, 16, 22, 28]), (33, [10, 16, 22, 28], [10, 16, 22, 28, 33]), (34, [10, 16, 22, 28, 33], [10, 16, 22, 28, 33]), (35, [10, 16, 22, 28, 33], [10, 16, 22, 28, 33]), (36, [10, 16, 22, 28, 33], [10, 16, 22, 28, 33, 36]), (37, [10, 16, 22, 28, 33, 36], [10, 16, 22, 28, 33, 36, 37]), (38, [10, 16, 22, 28, 33, 36, 37], [10, 16, 22, 28, 33, 36, 37]), (39, [10, 16, 22, 28, 33, 36, 37], [10, 16, 22, 28, 33, 36, 37]), (40, [10, 16, 22, 28, 33, 36, 37], [10, 16, 22, 28, 33, 36, 37]), (41, [10, 16, 22, 28, 33, 36, 37], [10, 16, 22, 28, 33, 36, 37, 41])]

def ac_object_reader_relocs_l1 : ACode :=
  /-live [0, 1]-/ .seq /-0-/ (.seq /-1-/ (.region [ ⟨(some 4), .mov (.t 1), none⟩, ⟨(some 5), .bin .gtr (.t 4) (.c (.int .u32 0)), none⟩, ⟨(some 6), .mov (.t 5), none⟩, ⟨(some 7), .mov (.t 0), (some (6, true))⟩, ⟨(some 8), .xop .nilck [(.t 7)], (some (6, true))⟩, ⟨(some 9), .fldaddr 0 1 (.t 8), (some (6, true))⟩, ⟨(some 10), .load false 1 (.t 9), (some (6, true))⟩, ⟨(some 11), .xop .nilck [(.t 10)], (some (6, true))⟩, ⟨(some 12), .fldaddr 2 1 (.t 11), (some (6, true))⟩, ⟨(some 13), .load false 1 (.t 12), (some (6, true))⟩, ⟨(some 14), .bin .eql (.t 13) (.c (.int .i64 0)), (some (6, true))⟩, ⟨(some 15), .pick (.t 6) (.t 14) (.c (.bool false)), none⟩] [4, 5, 6, 7, 8, 9, 10, 11, 12, 13, 14]) (.cond (.t 15) (.skip) (.exit 0))) (.seq /-2-/ (.block 1 (.draw (mkTree dr_object_reader_relocs_0_ops dr_object_reader_relocs_0_deps 42 (List.replicate 42 false)) [15, 18, 19, 20, 21, 22, 23, 24, 25, 26, 27, 28, 29, 30, 31, 32, 33, 34, 35, 36, 37, 38, 39, 40, 41, 42, 43, 44, 45, 46, 47, 48, 49, 50, 51, 52, 53, 54, 55, 56, 57, 58])) (.region [ ⟨(some 16), .mov (.t 1), none⟩, ⟨(some 17), .bin .sub (.t 16) (.c (.int .u32 1)), none⟩, ⟨(some 1), .mov (.t 17), none⟩] [16, 17]))

/-- (*decompiler/object.reader).relocs -/
def ac_object_reader_relocs : ACode := .block 0 (.loop ac_object_reader_relocs_l1)

def rs_object_reader_relocs : List ARet := []

set_option maxRecDepth 100000 in
theorem cf_object_reader_relocs : compF Try.prog f_object_reader_relocs (qRoL [] [(2, [0, 1, 2, 3, 4, 5, 6, 7, 8, 9, 11, 12, 13, 14, 15, 17, 18, 19, 20, 21, 23, 24, 25, 26, 27, 29, 30, 31, 32, 34, 35, 36, 37, 38, 39, 40, 41, 42, 43, 44, 45, 46, 47, 48, 49, 50, 51, 52, 53, 54, 55, 56, 57, 58, 59, 60, 61, 62, 63, 64, 65, 66, 67, 68, 69, 70, 71, 72, 73, 74, 75, 76, 77, 78, 79, 80, 81, 82, 83, 84, 85, 86, 87, 88, 89, 90, 91, 92, 93, 94, 95, 96, 97, 98, 99, 100, 101, 102, 103, 104, 105, 106, 107, 108, 109, 110, 111, 112, 113, 114, 115, 116, 117, 118, 119, 120, 121, 122, 123, 124, 125, 126, 127, 128, 129, 130, 131, 132, 133, 134, 135, 136, 137, 138, 139, 140, 141, 142, 143, 144, 145, 146, 147, 148, 149])]) = some (ac_object_reader_relocs.strip, rs_object_reader_relocs, 59) := by kernel_rfl

end Go.Ab

namespace Go.Ab
open Go.RowKit Go.Proofs

/-- The rows of a reader: its position, itself, the lists that it has read. -/
def rdH (r : Rd) (en : Nat) (S : List Sec) (Y : List Sym) (R : List Rel) (gS gY gR : Nat) : AH :=
  [(0, .row 3 [r.cells] 0), (1, .row 5 [[.ptr 0 0 0 0 0, .int .u32 en, .own 2 0 gS 0 S.length, .own 3 0 gY 0 Y.length, .own 4 0 gR 0 R.length]] 0),
    (2, .row 5 (S.map Sec.cells) gS), (3, .row 3 (Y.map Sym.cells) gY), (4, .row 5 (R.map Rel.cells) gR)]

def Rd.symS (r : Rd) : Sym × Rd := (⟨r.text.1, UInt32.ofNat (r.text.2.number 4).1.toNat, ((r.text.2.number 4).2.number 1).1⟩, ((r.text.2.number 4).2.number 1).2)

def Rd.syms : Nat → Rd → List Sym × Rd
  | 0, r => ([], r)
  | n + 1, r => if r.e ≠ 0 then ([], r) else (r.symS.1 :: (Rd.syms n r.symS.2).1, (Rd.syms n r.symS.2).2)

theorem Rd.symS_fine {r : Rd} (h : r.fine) : r.symS.2.fine := Rd.number_fine (Rd.number_fine (Rd.text_fine h) (by decide)) (by decide)

theorem object_reader_symbols_ok (r0 : Rd) (n0 en : Nat) (S : List Sec) (Y : List Sym) (R : List Rel) (gS gY gR : Nat) (hr : r0.fine) (hn : n0 ≤ 65535) (hY : Y.length ≤ 65535) :
    CallOk Try.prog f_object_reader_symbols [.ptr 1 0 0 0 0, .int .u32 n0] (rdH r0 en S Y R gS gY gR) 5
      (fun v H nx => v = .tup [] ∧ H = rdH (Rd.syms n0 r0).2 en S (Y ++ (Rd.syms n0 r0).1) R gS (gY + (Rd.syms n0 r0).1.length) gR ∧ nx = 5) := by
  refine fn_x cf_object_reader_symbols rfl ?_
  unfold ac_object_reader_symbols
  have hB : big = 9223372036854775807 := rfl
  generalize hres : Rd.syms n0 r0 = res
  (repeat (first | (simp (disch := first | exact dis1 | fail) only [evA, Nat.reduceBEq, Nat.reduceAdd, Nat.reduceLeDiff, boxR, rboxR, allocR, fldR, binI, unR, pickR, mknilR, mkslR, buildSlR, buildR, extR, convI, eqB, evU, wrap64]) | (with_reducible intro _) | ((with_reducible apply And.intro); omega)))
  refine loopX_intro (fun a : Nat × Rd × List Sym => ([(0, .ptr 1 0 0 0 0), (1, .int .u32 a.1)], rdH a.2.1 en S (Y ++ a.2.2) R gS (gY + a.2.2.length) gR)) 5
    (fun a => a.1 + a.2.2.length ≤ n0 ∧ a.2.1.fine ∧ (a.2.2 ++ (Rd.syms a.1 a.2.1).1, (Rd.syms a.1 a.2.1).2) = res) (fun a => a.1) (n0, r0, []) ⟨by simp, hr, by simp [hres]⟩ (by simp only [List.append_nil, List.length_nil, Nat.add_zero]; exact Ent.keep rfl (by (try simp [subK, Kn.get, beq_eq]) <;> (repeat' with_reducible apply And.intro) <;> first | rfl | omega | (simp; done))) ?_
  rintro ⟨k, r, acc⟩ ⟨hk, hf, hs⟩ wf
  simp only at hk hf hs
  unfold ac_object_reader_symbols_l1
  have hee : ∀ x : Rd, (Rd.cells x).getD 2 .undef = .int .i64 x.e := fun _ => rfl
  have hel : ∀ x : Rd, (Rd.cells x).length = 3 := fun _ => rfl
  rcases k with _ | k
  · subst hs
    have d0 : decide ((0 : Int) < ((0 : Nat) : Int)) = false := rfl
    unfold rdH
    (repeat (first | (simp (disch := first | exact dis1 | fail) only [evA, Nat.reduceBEq, Nat.reduceAdd, Nat.reduceLeDiff, boxR, rboxR, allocR, fldR, binI, unR, pickR, mknilR, mkslR, buildSlR, buildR, extR, convI, eqB, evU, wrap64, d0]) | (with_reducible intro _) | ((with_reducible apply And.intro); omega)))
    simp only [Rd.syms, List.append_nil]
    (repeat (first | (simp (disch := first | exact dis1 | fail) only [evA, Nat.reduceBEq, Nat.reduceAdd, Nat.reduceLeDiff, boxR, rboxR, allocR, fldR, binI, unR, pickR, mknilR, mkslR, buildSlR, buildR, extR, convI, eqB, evU, wrap64, rs_object_reader_symbols]) | (with_reducible intro _) | ((with_reducible apply And.intro); omega)))
  have d0 : decide ((0 : Int) < ((k + 1 : Nat) : Int)) = true := decide_eq_true (by omega)
  by_cases he : r.e = 0
  case neg =>
    subst hs
    have d1 : decide (r.e = 0) = false := decide_eq_false he
    unfold rdH
    (repeat (first | (simp (disch := first | exact dis1 | fail) only [evA, Nat.reduceBEq, Nat.reduceAdd, Nat.reduceLeDiff, boxR, rboxR, allocR, fldR, binI, unR, pickR, mknilR, mkslR, buildSlR, buildR, extR, convI, eqB, evU, wrap64, d0, hee, hel, d1]) | (with_reducible intro _) | ((with_reducible apply And.intro); omega)))
    have e0 : Rd.syms (k + 1) r = ([], r) := by rw [Rd.syms, if_pos he]
    simp only [e0, List.append_nil]
    (repeat (first | (simp (disch := first | exact dis1 | fail) only [evA, Nat.reduceBEq, Nat.reduceAdd, Nat.reduceLeDiff, boxR, rboxR, allocR, fldR, binI, unR, pickR, mknilR, mkslR, buildSlR, buildR, extR, convI, eqB, evU, wrap64, rs_object_reader_symbols]) | (with_reducible intro _) | ((with_reducible apply And.intro); omega)))
  have d1 : decide (r.e = 0) = true := decide_eq_true he
  have f1 : r.text.2.fine := Rd.text_fine hf
  have f2 : (r.text.2.number 4).2.fine := Rd.number_fine f1 (by decide)
  have k1 := position_text_ok r
  have k2 := position_number_ok r.text.2 4 f1.toOk (by decide)
  have k3 := position_number_ok (r.text.2.number 4).2 1 f2.toOk (by decide)
  obtain ⟨a, ha, hae⟩ := Rd.number_val r.text.2 (w := 4) (by decide)
  obtain ⟨b, hb, hbe⟩ := Rd.number_val (r.text.2.number 4).2 (w := 1) (by decide)
  have e1 : Rd.syms (k + 1) r = (r.symS.1 :: (Rd.syms k r.symS.2).1, (Rd.syms k r.symS.2).2) := by rw [Rd.syms, if_neg (by simp [he])]
  have e2 : r.symS = (⟨r.text.1, UInt32.ofNat a, b⟩, ((r.text.2.number 4).2.number 1).2) := by unfold Rd.symS; rw [hae, hbe]; rfl
  rw [hae] at k2
  rw [hbe] at k3
  rw [e1, e2] at hs
  generalize hr3 : ((r.text.2.number 4).2.number 1).2 = r3 at *
  generalize hr2 : (r.text.2.number 4).2 = r2 at *
  generalize hr1 : r.text.2 = r1 at *
  have hf3 : r3.fine := by rw [← hr3]; exact Rd.number_fine f2 (by decide)
  have hsz : ((Y ++ acc).length : Int) + 1 ≤ 70000 * 2 := by
    rw [List.length_append]
    omega
  have hc5 : IntKind.i64.wrap (b : Int) = (b : Int) := IntWalk.i64_in b ⟨by omega, by omega⟩
  unfold rdH
  (repeat (first | (simp (disch := first | exact dis1 | fail) only [evA, Nat.reduceBEq, Nat.reduceAdd, Nat.reduceLeDiff, boxR, rboxR, allocR, fldR, binI, unR, pickR, mknilR, mkslR, buildSlR, buildR, extR, convI, eqB, evU, wrap64, d0, hee, hel, d1]) | (with_reducible intro _) | ((with_reducible apply And.intro); omega)))
  refine draw_det dr_object_reader_symbols_0_Ls dr_object_reader_symbols_0_A dr_object_reader_symbols_0_St dr_object_reader_symbols_0_plan [(18, .ptr 1 0 0 0 0), (19, .ptr 1 0 0 0 0), (20, .ptr 1 0 0 0 0), (21, .ptr 1 0 0 0 1), (22, .ptr 1 0 0 0 3), (23, .own 3 0 (gY + acc.length) 0 (Y ++ acc).length), (24, .ptr 1 0 0 0 0), (25, .ptr 1 0 0 0 0), (26, .ptr 1 0 0 0 0), (27, .ptr 0 0 0 0 0), (28, .str r.text.1), (29, .ptr 1 0 0 0 0), (30, .ptr 1 0 0 0 0), (31, .ptr 1 0 0 0 0), (32, .ptr 0 0 0 0 0), (33, .int .u32 a), (34, .ptr 1 0 0 0 0), (35, .ptr 1 0 0 0 0), (36, .ptr 1 0 0 0 0), (37, .ptr 0 0 0 0 0), (38, .int .u32 b), (39, .int .i64 b), (40, .agg ([AV.str r.text.1, .int .u32 a, .int .i64 b])), (41, .own 5 0 0 0 1), (42, .own 3 0 (gY + acc.length + 1) 0 ((Y ++ acc).length + 1)), (43, .ptr 1 0 0 0 0), (44, .ptr 1 0 0 0 1), (45, .ptr 1 0 0 0 3)] (hsOf [(rdH r en S (Y ++ acc) R gS (gY + acc.length) gR, 5), (rdH r1 en S (Y ++ acc) R gS (gY + acc.length) gR, 5), (rdH r2 en S (Y ++ acc) R gS (gY + acc.length) gR, 5), (rdH r3 en S (Y ++ acc) R gS (gY + acc.length) gR, 5), (rdH r3 en S (Y ++ acc) R gS (gY + acc.length) gR ++ [(5, .row 3 [[AV.str r.text.1, .int .u32 a, .int .i64 b]] 0)], 6),
    ([(0, .row 3 [r3.cells] 0), (1, .row 5 [[.ptr 0 0 0 0 0, .int .u32 en, .own 2 0 gS 0 S.length, .own 3 0 (gY + acc.length) 0 (Y ++ acc).length, .own 4 0 gR 0 R.length]] 0), (2, .row 5 (S.map Sec.cells) gS), (3, .row 3 ((Y ++ acc).map Sym.cells ++ [[AV.str r.text.1, .int .u32 a, .int .i64 b]]) (gY + acc.length + 1)), (4, .row 5 (R.map Rel.cells) gR), (5, .row 3 [[AV.str r.text.1, .int .u32 a, .int .i64 b]] 0)], 6),
    ([(0, .row 3 [r3.cells] 0), (1, .row 5 [[.ptr 0 0 0 0 0, .int .u32 en, .own 2 0 gS 0 S.length, .own 3 0 (gY + acc.length + 1) 0 ((Y ++ acc).length + 1), .own 4 0 gR 0 R.length]] 0), (2, .row 5 (S.map Sec.cells) gS), (3, .row 3 ((Y ++ acc).map Sym.cells ++ [[AV.str r.text.1, .int .u32 a, .int .i64 b]]) (gY + acc.length + 1)), (4, .row 5 (R.map Rel.cells) gR), (5, .row 3 [[AV.str r.text.1, .int .u32 a, .int .i64 b]] 0)], 6)]) (by kernel_rfl) (by rfl) (by rfl) (by repeat' first | exact QExt.retK | apply QExt.seq | apply QExt.block | apply QExt.loop | apply QExt.join | assumption) ?plan [] (by rfl) ?fin
  case' plan =>
    intro Kf hs hK hH
    have kf18 : Kf.get 18 = .ptr 1 0 0 0 0 := by rw [hK, setAll_look]; rfl
    have kf19 : Kf.get 19 = .ptr 1 0 0 0 0 := by rw [hK, setAll_look]; rfl
    have kf20 : Kf.get 20 = .ptr 1 0 0 0 0 := by rw [hK, setAll_look]; rfl
    have kf21 : Kf.get 21 = .ptr 1 0 0 0 1 := by rw [hK, setAll_look]; rfl
    have kf22 : Kf.get 22 = .ptr 1 0 0 0 3 := by rw [hK, setAll_look]; rfl
    have kf23 : Kf.get 23 = .own 3 0 (gY + acc.length) 0 (Y ++ acc).length := by rw [hK, setAll_look]; rfl
    have kf24 : Kf.get 24 = .ptr 1 0 0 0 0 := by rw [hK, setAll_look]; rfl
    have kf25 : Kf.get 25 = .ptr 1 0 0 0 0 := by rw [hK, setAll_look]; rfl
    have kf26 : Kf.get 26 = .ptr 1 0 0 0 0 := by rw [hK, setAll_look]; rfl
    have kf27 : Kf.get 27 = .ptr 0 0 0 0 0 := by rw [hK, setAll_look]; rfl
    have kf28 : Kf.get 28 = .str r.text.1 := by rw [hK, setAll_look]; rfl
    have kf29 : Kf.get 29 = .ptr 1 0 0 0 0 := by rw [hK, setAll_look]; rfl
    have kf30 : Kf.get 30 = .ptr 1 0 0 0 0 := by rw [hK, setAll_look]; rfl
    have kf31 : Kf.get 31 = .ptr 1 0 0 0 0 := by rw [hK, setAll_look]; rfl
    have kf32 : Kf.get 32 = .ptr 0 0 0 0 0 := by rw [hK, setAll_look]; rfl
    have kf33 : Kf.get 33 = .int .u32 a := by rw [hK, setAll_look]; rfl
    have kf34 : Kf.get 34 = .ptr 1 0 0 0 0 := by rw [hK, setAll_look]; rfl
    have kf35 : Kf.get 35 = .ptr 1 0 0 0 0 := by rw [hK, setAll_look]; rfl
    have kf36 : Kf.get 36 = .ptr 1 0 0 0 0 := by rw [hK, setAll_look]; rfl
    have kf37 : Kf.get 37 = .ptr 0 0 0 0 0 := by rw [hK, setAll_look]; rfl
    have kf38 : Kf.get 38 = .int .u32 b := by rw [hK, setAll_look]; rfl
    have kf39 : Kf.get 39 = .int .i64 b := by rw [hK, setAll_look]; rfl
    have kf40 : Kf.get 40 = .agg ([AV.str r.text.1, .int .u32 a, .int .i64 b]) := by rw [hK, setAll_look]; rfl
    have kf41 : Kf.get 41 = .own 5 0 0 0 1 := by rw [hK, setAll_look]; rfl
    have kf42 : Kf.get 42 = .own 3 0 (gY + acc.length + 1) 0 ((Y ++ acc).length + 1) := by rw [hK, setAll_look]; rfl
    have kf43 : Kf.get 43 = .ptr 1 0 0 0 0 := by rw [hK, setAll_look]; rfl
    have kf44 : Kf.get 44 = .ptr 1 0 0 0 1 := by rw [hK, setAll_look]; rfl
    have kf45 : Kf.get 45 = .ptr 1 0 0 0 3 := by rw [hK, setAll_look]; rfl
    have kf0 : Kf.get 0 = .ptr 1 0 0 0 0 := by rw [hK, setAll_look]; rfl
    simp only [dr_object_reader_symbols_0_plan, planP_cons, planP_nil, and_true]
    (repeat' with_reducible apply And.intro)
    all_goals (rw [hH]; simp only [stepC, dr_object_reader_symbols_0_ops, List.getD_cons_succ, List.getD_cons_zero, hsOf, hsAt, beqL, beq_eq, Nat.reduceBEq, Bool.and_true, Bool.true_and, Bool.and_false, Bool.false_and, cond_true, cond_false, List.length_cons, List.length_nil, Nat.reduceAdd])
    all_goals try (simp (disch := first | exact dis1 | fail) only [evA, Nat.reduceBEq, Nat.reduceAdd, Nat.reduceLeDiff, boxR, rboxR, allocR, fldR, binI, unR, pickR, mknilR, mkslR, buildSlR, buildR, extR, convI, eqB, evU, wrap64, dstEq_set, dstEq_none, kf18, kf19, kf20, kf21, kf22, kf23, kf24, kf25, kf26, kf27, kf28, kf29, kf30, kf31, kf32, kf33, kf34, kf35, kf36, kf37, kf38, kf39, kf40, kf41, kf42, kf43, kf44, kf45, kf0, rdH, hel, hc5, List.cons_append, List.nil_append]; done)
  case' fin => simp only [dr_object_reader_symbols_0_Ls, hsOf, hsAt, beqL, beq_eq, Nat.reduceBEq, Bool.and_true, Bool.true_and, Bool.and_false, Bool.false_and, cond_true, cond_false, List.length_cons, List.length_nil, Nat.reduceAdd, List.getD_cons_succ, List.getD_cons_zero, setAll]
  · have hkw : IntKind.u32.wrap (((k + 1 : Nat) : Int) - 1) = (k : Int) := by rw [wrapU32 (by omega) (by omega)]; omega
    have hY' : (Y ++ (acc ++ [(⟨r.text.1, UInt32.ofNat a, b⟩ : Sym)])).map Sym.cells = (Y ++ acc).map Sym.cells ++ [[AV.str r.text.1, .int .u32 a, .int .i64 b]] := by
      rw [← List.append_assoc, List.map_append]
      simp only [List.map_cons, List.map_nil, Sym.cells, UInt32.toNat_ofNat_of_lt' (show a < UInt32.size from ha)]
    have hL : (Y ++ (acc ++ [(⟨r.text.1, UInt32.ofNat a, b⟩ : Sym)])).length = (Y ++ acc).length + 1 := by rw [← List.append_assoc, List.length_append]; rfl
    have hg : gY + (acc ++ [(⟨r.text.1, UInt32.ofNat a, b⟩ : Sym)]).length = gY + acc.length + 1 := by rw [List.length_append, List.length_singleton]; omega
    (repeat (first | (simp (disch := first | exact dis1 | fail) only [evA, Nat.reduceBEq, Nat.reduceAdd, Nat.reduceLeDiff, boxR, rboxR, allocR, fldR, binI, unR, pickR, mknilR, mkslR, buildSlR, buildR, extR, convI, eqB, evU, wrap64, hkw]) | (with_reducible intro _) | ((with_reducible apply And.intro); omega)))
    refine ⟨(k, r3, acc ++ [⟨r.text.1, UInt32.ofNat a, b⟩]), ⟨by simp only [List.length_append, List.length_singleton]; omega, hf3, by simpa using hs⟩, Nat.lt_succ_self k, ?_⟩
    simp only [hY', hL, hg]
    exact (Ent.tabB [(0, 0, 0), (1, 1, 0), (2, 2, 0), (3, 3, 0), (4, 4, 0)] [] rfl rfl rfl (by (try simp only [evWA, Nat.reduceBEq, Nat.reduceAdd, Nat.reduceSub, Nat.reduceLeDiff, Nat.reduceLT, implies_true, and_self, Int.natCast_zero, Int.natCast_one, Int.cast_ofNat_Int, evV, encInts, encNats, encBools, encP]) <;> exact fin2) (by (try simp only [evWA, Nat.reduceBEq, Nat.reduceAdd, Nat.reduceSub, Nat.reduceLeDiff, Nat.reduceLT, implies_true, and_self, Int.natCast_zero, Int.natCast_one, Int.cast_ofNat_Int, evV, encInts, encNats, encBools, encP]) <;> exact fin2))
  · unfold rdH
    (repeat (first | (simp (disch := first | exact dis1 | fail) only [evA, Nat.reduceBEq, Nat.reduceAdd, Nat.reduceLeDiff, boxR, rboxR, allocR, fldR, binI, unR, pickR, mknilR, mkslR, buildSlR, buildR, extR, convI, eqB, evU, wrap64, kf27]) | (with_reducible intro _) | ((with_reducible apply And.intro); omega)))
    refine call_lows 5 rfl ?_; refine call_own [(0, 0, 0)] 1 _ (k1) rfl rfl (by (try simp only [evWA, Nat.reduceBEq, Nat.reduceAdd, Nat.reduceSub, Nat.reduceLeDiff, Nat.reduceLT, implies_true, and_self, Int.natCast_zero, Int.natCast_one, Int.cast_ofNat_Int, evV, encInts, encNats, encBools, encP, Rd.cells, encB]) <;> exact fin1) (by (try simp only [evWA, Nat.reduceBEq, Nat.reduceAdd, Nat.reduceSub, Nat.reduceLeDiff, Nat.reduceLT, implies_true, and_self, Int.natCast_zero, Int.natCast_one, Int.cast_ofNat_Int, evV, encInts, encNats, encBools, encP, Rd.cells, encB]) <;> exact fin1) ?_
    rintro v' H' nx' ⟨rfl, rfl, rfl⟩
    (repeat (first | (simp (disch := first | exact dis1 | fail) only [evA, Nat.reduceBEq, Nat.reduceAdd, Nat.reduceLeDiff, boxR, rboxR, allocR, fldR, binI, unR, pickR, mknilR, mkslR, buildSlR, buildR, extR, convI, eqB, evU, wrap64, Rd.ren]) | (with_reducible intro _) | ((with_reducible apply And.intro); omega)))
    ((repeat (first | (simp (disch := first | exact dis1 | fail) only [evA, Nat.reduceBEq, Nat.reduceAdd, Nat.reduceLeDiff, boxR, rboxR, allocR, fldR, binI, unR, pickR, mknilR, mkslR, buildSlR, buildR, extR, convI, eqB, evU, wrap64, dstEq_set, dstEq_none, rowsLt, elsLt_cons, AV.lt1, AV.lt0, AH.sort, AH.ins, Nat.reduceEqDiff, Nat.reduceLT, if_true, if_false, reduceIte, and_true, true_and, kf28]) | (with_reducible intro _) | ((with_reducible apply And.intro); omega))); try ((repeat' with_reducible apply And.intro) <;> first | rfl | omega | exact elsLt_nil | exact elsLt_map (fun _ => rfl)))
  · unfold rdH
    (repeat (first | (simp (disch := first | exact dis1 | fail) only [evA, Nat.reduceBEq, Nat.reduceAdd, Nat.reduceLeDiff, boxR, rboxR, allocR, fldR, binI, unR, pickR, mknilR, mkslR, buildSlR, buildR, extR, convI, eqB, evU, wrap64, kf32]) | (with_reducible intro _) | ((with_reducible apply And.intro); omega)))
    refine call_lows 5 rfl ?_; refine call_own [(0, 0, 0)] 1 _ (k2) rfl rfl (by (try simp only [evWA, Nat.reduceBEq, Nat.reduceAdd, Nat.reduceSub, Nat.reduceLeDiff, Nat.reduceLT, implies_true, and_self, Int.natCast_zero, Int.natCast_one, Int.cast_ofNat_Int, evV, encInts, encNats, encBools, encP, Rd.cells, encB]) <;> exact fin1) (by (try simp only [evWA, Nat.reduceBEq, Nat.reduceAdd, Nat.reduceSub, Nat.reduceLeDiff, Nat.reduceLT, implies_true, and_self, Int.natCast_zero, Int.natCast_one, Int.cast_ofNat_Int, evV, encInts, encNats, encBools, encP, Rd.cells, encB]) <;> exact fin1) ?_
    rintro v' H' nx' ⟨rfl, rfl, rfl⟩
    (repeat (first | (simp (disch := first | exact dis1 | fail) only [evA, Nat.reduceBEq, Nat.reduceAdd, Nat.reduceLeDiff, boxR, rboxR, allocR, fldR, binI, unR, pickR, mknilR, mkslR, buildSlR, buildR, extR, convI, eqB, evU, wrap64, Rd.ren]) | (with_reducible intro _) | ((with_reducible apply And.intro); omega)))
    ((repeat (first | (simp (disch := first | exact dis1 | fail) only [evA, Nat.reduceBEq, Nat.reduceAdd, Nat.reduceLeDiff, boxR, rboxR, allocR, fldR, binI, unR, pickR, mknilR, mkslR, buildSlR, buildR, extR, convI, eqB, evU, wrap64, dstEq_set, dstEq_none, rowsLt, elsLt_cons, AV.lt1, AV.lt0, AH.sort, AH.ins, Nat.reduceEqDiff, Nat.reduceLT, if_true, if_false, reduceIte, and_true, true_and, kf33]) | (with_reducible intro _) | ((with_reducible apply And.intro); omega))); try ((repeat' with_reducible apply And.intro) <;> first | rfl | omega | exact elsLt_nil | exact elsLt_map (fun _ => rfl)))
  · unfold rdH
    (repeat (first | (simp (disch := first | exact dis1 | fail) only [evA, Nat.reduceBEq, Nat.reduceAdd, Nat.reduceLeDiff, boxR, rboxR, allocR, fldR, binI, unR, pickR, mknilR, mkslR, buildSlR, buildR, extR, convI, eqB, evU, wrap64, kf37]) | (with_reducible intro _) | ((with_reducible apply And.intro); omega)))
    refine call_lows 5 rfl ?_; refine call_own [(0, 0, 0)] 1 _ (k3) rfl rfl (by (try simp only [evWA, Nat.reduceBEq, Nat.reduceAdd, Nat.reduceSub, Nat.reduceLeDiff, Nat.reduceLT, implies_true, and_self, Int.natCast_zero, Int.natCast_one, Int.cast_ofNat_Int, evV, encInts, encNats, encBools, encP, Rd.cells, encB]) <;> exact fin1) (by (try simp only [evWA, Nat.reduceBEq, Nat.reduceAdd, Nat.reduceSub, Nat.reduceLeDiff, Nat.reduceLT, implies_true, and_self, Int.natCast_zero, Int.natCast_one, Int.cast_ofNat_Int, evV, encInts, encNats, encBools, encP, Rd.cells, encB]) <;> exact fin1) ?_
    rintro v' H' nx' ⟨rfl, rfl, rfl⟩
    (repeat (first | (simp (disch := first | exact dis1 | fail) only [evA, Nat.reduceBEq, Nat.reduceAdd, Nat.reduceLeDiff, boxR, rboxR, allocR, fldR, binI, unR, pickR, mknilR, mkslR, buildSlR, buildR, extR, convI, eqB, evU, wrap64, Rd.ren]) | (with_reducible intro _) | ((with_reducible apply And.intro); omega)))
    ((repeat (first | (simp (disch := first | exact dis1 | fail) only [evA, Nat.reduceBEq, Nat.reduceAdd, Nat.reduceLeDiff, boxR, rboxR, allocR, fldR, binI, unR, pickR, mknilR, mkslR, buildSlR, buildR, extR, convI, eqB, evU, wrap64, dstEq_set, dstEq_none, rowsLt, elsLt_cons, AV.lt1, AV.lt0, AH.sort, AH.ins, Nat.reduceEqDiff, Nat.reduceLT, if_true, if_false, reduceIte, and_true, true_and, kf38]) | (with_reducible intro _) | ((with_reducible apply And.intro); omega))); try ((repeat' with_reducible apply And.intro) <;> first | rfl | omega | exact elsLt_nil | exact elsLt_map (fun _ => rfl)))
  · unfold rdH
    (repeat (first | (simp (disch := first | exact dis1 | fail) only [evA, Nat.reduceBEq, Nat.reduceAdd, Nat.reduceLeDiff, boxR, rboxR, allocR, fldR, binI, unR, pickR, mknilR, mkslR, buildSlR, buildR, extR, convI, eqB, evU, wrap64, kf23, kf41, kf42, dstEq_set, List.cons_append, List.nil_append]) | (with_reducible intro _) | ((with_reducible apply And.intro); omega)))
    omega

end Go.Ab

namespace Go.Ab
open Go.RowKit Go.Proofs

def Rd.relS (r : Rd) : Rel × Rd :=
  let r1 := (r.number 1).2
  let r2 := (r1.number 4).2
  let r3 := (r2.number 1).2
  let r4 := r3.text.2
  (⟨(r.number 1).1, (r1.number 4).1, (r2.number 1).1, r3.text.1, IntKind.i32.wrap (r4.number 4).1⟩, (r4.number 4).2)

def Rd.rels : Nat → Rd → List Rel × Rd
  | 0, r => ([], r)
  | n + 1, r => if r.e ≠ 0 then ([], r) else (r.relS.1 :: (Rd.rels n r.relS.2).1, (Rd.rels n r.relS.2).2)

theorem Rd.relS_fine {r : Rd} (h : r.fine) : r.relS.2.fine :=
  Rd.number_fine (Rd.text_fine (Rd.number_fine (Rd.number_fine (Rd.number_fine h (by decide)) (by decide)) (by decide))) (by decide)

theorem object_reader_relocs_ok (r0 : Rd) (n0 en : Nat) (S : List Sec) (Y : List Sym) (R : List Rel) (gS gY gR : Nat) (hr : r0.fine) (hn : n0 ≤ 65535) (hY : R.length ≤ 65535) :
    CallOk Try.prog f_object_reader_relocs [.ptr 1 0 0 0 0, .int .u32 n0] (rdH r0 en S Y R gS gY gR) 5
      (fun v H nx => v = .tup [] ∧ H = rdH (Rd.rels n0 r0).2 en S Y (R ++ (Rd.rels n0 r0).1) gS gY (gR + (Rd.rels n0 r0).1.length) ∧ nx = 5) := by
  refine fn_x cf_object_reader_relocs rfl ?_
  unfold ac_object_reader_relocs
  have hB : big = 9223372036854775807 := rfl
  generalize hres : Rd.rels n0 r0 = res
  (repeat (first | (simp (disch := first | exact dis1 | fail) only [evA, Nat.reduceBEq, Nat.reduceAdd, Nat.reduceLeDiff, boxR, rboxR, allocR, fldR, binI, unR, pickR, mknilR, mkslR, buildSlR, buildR, extR, convI, eqB, evU, wrap64]) | (with_reducible intro _) | ((with_reducible apply And.intro); omega)))
  refine loopX_intro (fun a : Nat × Rd × List Rel => ([(0, .ptr 1 0 0 0 0), (1, .int .u32 a.1)], rdH a.2.1 en S Y (R ++ a.2.2) gS gY (gR + a.2.2.length))) 5
    (fun a => a.1 + a.2.2.length ≤ n0 ∧ a.2.1.fine ∧ (a.2.2 ++ (Rd.rels a.1 a.2.1).1, (Rd.rels a.1 a.2.1).2) = res) (fun a => a.1) (n0, r0, []) ⟨by simp, hr, by simp [hres]⟩ (by simp only [List.append_nil, List.length_nil, Nat.add_zero]; exact Ent.keep rfl (by (try simp [subK, Kn.get, beq_eq]) <;> (repeat' with_reducible apply And.intro) <;> first | rfl | omega | (simp; done))) ?_
  rintro ⟨k, r, acc⟩ ⟨hk, hf, hs⟩ wf
  simp only at hk hf hs
  unfold ac_object_reader_relocs_l1
  have hee : ∀ x : Rd, (Rd.cells x).getD 2 .undef = .int .i64 x.e := fun _ => rfl
  have hel : ∀ x : Rd, (Rd.cells x).length = 3 := fun _ => rfl
  rcases k with _ | k
  · subst hs
    have d0 : decide ((0 : Int) < ((0 : Nat) : Int)) = false := rfl
    unfold rdH
    (repeat (first | (simp (disch := first | exact dis1 | fail) only [evA, Nat.reduceBEq, Nat.reduceAdd, Nat.reduceLeDiff, boxR, rboxR, allocR, fldR, binI, unR, pickR, mknilR, mkslR, buildSlR, buildR, extR, convI, eqB, evU, wrap64, d0]) | (with_reducible intro _) | ((with_reducible apply And.intro); omega)))
    simp only [Rd.rels, List.append_nil]
    (repeat (first | (simp (disch := first | exact dis1 | fail) only [evA, Nat.reduceBEq, Nat.reduceAdd, Nat.reduceLeDiff, boxR, rboxR, allocR, fldR, binI, unR, pickR, mknilR, mkslR, buildSlR, buildR, extR, convI, eqB, evU, wrap64, rs_object_reader_relocs]) | (with_reducible intro _) | ((with_reducible apply And.intro); omega)))
  have d0 : decide ((0 : Int) < ((k + 1 : Nat) : Int)) = true := decide_eq_true (by omega)
  by_cases he : r.e = 0
  case neg =>
    subst hs
    have d1 : decide (r.e = 0) = false := decide_eq_false he
    unfold rdH
    (repeat (first | (simp (disch := first | exact dis1 | fail) only [evA, Nat.reduceBEq, Nat.reduceAdd, Nat.reduceLeDiff, boxR, rboxR, allocR, fldR, binI, unR, pickR, mknilR, mkslR, buildSlR, buildR, extR, convI, eqB, evU, wrap64, d0, hee, hel, d1]) | (with_reducible intro _) | ((with_reducible apply And.intro); omega)))
    have e0 : Rd.rels (k + 1) r = ([], r) := by rw [Rd.rels, if_pos he]
    simp only [e0, List.append_nil]
    (repeat (first | (simp (disch := first | exact dis1 | fail) only [evA, Nat.reduceBEq, Nat.reduceAdd, Nat.reduceLeDiff, boxR, rboxR, allocR, fldR, binI, unR, pickR, mknilR, mkslR, buildSlR, buildR, extR, convI, eqB, evU, wrap64, rs_object_reader_relocs]) | (with_reducible intro _) | ((with_reducible apply And.intro); omega)))
  have d1 : decide (r.e = 0) = true := decide_eq_true he
  have e1 : Rd.rels (k + 1) r = (r.relS.1 :: (Rd.rels k r.relS.2).1, (Rd.rels k r.relS.2).2) := by rw [Rd.rels, if_neg (by simp [he])]
  obtain ⟨r1, hr1⟩ : ∃ x, x = (r.number 1).2 := ⟨_, rfl⟩
  obtain ⟨r2, hr2⟩ : ∃ x, x = (r1.number 4).2 := ⟨_, rfl⟩
  obtain ⟨r3, hr3⟩ : ∃ x, x = (r2.number 1).2 := ⟨_, rfl⟩
  obtain ⟨r4, hr4⟩ : ∃ x, x = r3.text.2 := ⟨_, rfl⟩
  obtain ⟨r5, hr5⟩ : ∃ x, x = (r4.number 4).2 := ⟨_, rfl⟩
  have f1 : r1.fine := by rw [hr1]; exact Rd.number_fine hf (by decide)
  have f2 : r2.fine := by rw [hr2]; exact Rd.number_fine f1 (by decide)
  have f3 : r3.fine := by rw [hr3]; exact Rd.number_fine f2 (by decide)
  have f4 : r4.fine := by rw [hr4]; exact Rd.text_fine f3
  have hf5 : r5.fine := by rw [hr5]; exact Rd.number_fine f4 (by decide)
  have k1 := position_number_ok r 1 hf.toOk (by decide)
  have k2 := position_number_ok r1 4 f1.toOk (by decide)
  have k3 := position_number_ok r2 1 f2.toOk (by decide)
  have k4 := position_text_ok r3
  have k5 := position_number_ok r4 4 f4.toOk (by decide)
  obtain ⟨a, ha, hae⟩ := Rd.number_val r (w := 1) (by decide)
  obtain ⟨b, hb, hbe⟩ := Rd.number_val r1 (w := 4) (by decide)
  obtain ⟨c, hc, hce⟩ := Rd.number_val r2 (w := 1) (by decide)
  obtain ⟨d, hd, hde⟩ := Rd.number_val r4 (w := 4) (by decide)
  have e2 : r.relS = ((⟨a, b, c, r3.text.1, IntKind.i32.wrap d⟩ : Rel), r5) := by
    unfold Rd.relS
    simp only [← hr1, ← hr2, ← hr3, ← hr4, ← hr5, hae, hbe, hce, hde]
  rw [hae, ← hr1] at k1
  rw [hbe, ← hr2] at k2
  rw [hce, ← hr3] at k3
  rw [← hr4] at k4
  rw [hde, ← hr5] at k5
  rw [e1, e2] at hs
  clear hr1 hr2 hr3 hr4 hr5
  have hsz : ((R ++ acc).length : Int) + 1 ≤ 70000 * 2 := by
    rw [List.length_append]
    omega
  have hca : IntKind.i64.wrap (a : Int) = (a : Int) := IntWalk.i64_in a ⟨by omega, by omega⟩
  have hcb : IntKind.i64.wrap (b : Int) = (b : Int) := IntWalk.i64_in b ⟨by omega, by omega⟩
  have hcc : IntKind.i64.wrap (c : Int) = (c : Int) := IntWalk.i64_in c ⟨by omega, by omega⟩
  unfold rdH
  (repeat (first | (simp (disch := first | exact dis1 | fail) only [evA, Nat.reduceBEq, Nat.reduceAdd, Nat.reduceLeDiff, boxR, rboxR, allocR, fldR, binI, unR, pickR, mknilR, mkslR, buildSlR, buildR, extR, convI, eqB, evU, wrap64, d0, hee, hel, d1]) | (with_reducible intro _) | ((with_reducible apply And.intro); omega)))
  refine draw_det dr_object_reader_relocs_0_Ls dr_object_reader_relocs_0_A dr_object_reader_relocs_0_St dr_object_reader_relocs_0_plan [(18, .ptr 1 0 0 0 0), (19, .ptr 1 0 0 0 0), (20, .ptr 1 0 0 0 0), (21, .ptr 1 0 0 0 1), (22, .ptr 1 0 0 0 4), (23, .own 4 0 (gR + acc.length) 0 (R ++ acc).length), (24, .ptr 1 0 0 0 0), (25, .ptr 1 0 0 0 0), (26, .ptr 1 0 0 0 0), (27, .ptr 0 0 0 0 0), (28, .int .u32 a), (29, .int .i64 a), (30, .ptr 1 0 0 0 0), (31, .ptr 1 0 0 0 0), (32, .ptr 1 0 0 0 0), (33, .ptr 0 0 0 0 0), (34, .int .u32 b), (35, .int .i64 b), (36, .ptr 1 0 0 0 0), (37, .ptr 1 0 0 0 0), (38, .ptr 1 0 0 0 0), (39, .ptr 0 0 0 0 0), (40, .int .u32 c), (41, .int .i64 c), (42, .ptr 1 0 0 0 0), (43, .ptr 1 0 0 0 0), (44, .ptr 1 0 0 0 0), (45, .ptr 0 0 0 0 0), (46, .str r3.text.1), (47, .ptr 1 0 0 0 0), (48, .ptr 1 0 0 0 0), (49, .ptr 1 0 0 0 0), (50, .ptr 0 0 0 0 0), (51, .int .u32 d), (52, .int .i32 (IntKind.i32.wrap d)), (53, .agg ([AV.int .i64 a, .int .i64 b, .int .i64 c, .str r3.text.1, .int .i32 (IntKind.i32.wrap d)])), (54, .own 5 0 0 0 1), (55, .own 4 0 (gR + acc.length + 1) 0 ((R ++ acc).length + 1)), (56, .ptr 1 0 0 0 0), (57, .ptr 1 0 0 0 1), (58, .ptr 1 0 0 0 4)] (hsOf [(rdH r en S Y (R ++ acc) gS gY (gR + acc.length), 5), (rdH r1 en S Y (R ++ acc) gS gY (gR + acc.length), 5), (rdH r2 en S Y (R ++ acc) gS gY (gR + acc.length), 5), (rdH r3 en S Y (R ++ acc) gS gY (gR + acc.length), 5), (rdH r4 en S Y (R ++ acc) gS gY (gR + acc.length), 5), (rdH r5 en S Y (R ++ acc) gS gY (gR + acc.length), 5), (rdH r5 en S Y (R ++ acc) gS gY (gR + acc.length) ++ [(5, .row 5 [[AV.int .i64 a, .int .i64 b, .int .i64 c, .str r3.text.1, .int .i32 (IntKind.i32.wrap d)]] 0)], 6), ([(0, .row 3 [r5.cells] 0), (1, .row 5 [[.ptr 0 0 0 0 0, .int .u32 en, .own 2 0 gS 0 S.length, .own 3 0 gY 0 Y.length, .own 4 0 (gR + acc.length) 0 (R ++ acc).length]] 0), (2, .row 5 (S.map Sec.cells) gS), (3, .row 3 (Y.map Sym.cells) gY), (4, .row 5 ((R ++ acc).map Rel.cells ++ [[AV.int .i64 a, .int .i64 b, .int .i64 c, .str r3.text.1, .int .i32 (IntKind.i32.wrap d)]]) (gR + acc.length + 1)), (5, .row 5 [[AV.int .i64 a, .int .i64 b, .int .i64 c, .str r3.text.1, .int .i32 (IntKind.i32.wrap d)]] 0)], 6), ([(0, .row 3 [r5.cells] 0), (1, .row 5 [[.ptr 0 0 0 0 0, .int .u32 en, .own 2 0 gS 0 S.length, .own 3 0 gY 0 Y.length, .own 4 0 (gR + acc.length + 1) 0 ((R ++ acc).length + 1)]] 0), (2, .row 5 (S.map Sec.cells) gS), (3, .row 3 (Y.map Sym.cells) gY), (4, .row 5 ((R ++ acc).map Rel.cells ++ [[AV.int .i64 a, .int .i64 b, .int .i64 c, .str r3.text.1, .int .i32 (IntKind.i32.wrap d)]]) (gR + acc.length + 1)), (5, .row 5 [[AV.int .i64 a, .int .i64 b, .int .i64 c, .str r3.text.1, .int .i32 (IntKind.i32.wrap d)]] 0)], 6)]) (by kernel_rfl) (by rfl) (by rfl) (by repeat' first | exact QExt.retK | apply QExt.seq | apply QExt.block | apply QExt.loop | apply QExt.join | assumption) ?plan [] (by rfl) ?fin
  case' plan =>
    intro Kf hs hK hH
    have kf18 : Kf.get 18 = .ptr 1 0 0 0 0 := by rw [hK, setAll_look]; rfl
    have kf19 : Kf.get 19 = .ptr 1 0 0 0 0 := by rw [hK, setAll_look]; rfl
    have kf20 : Kf.get 20 = .ptr 1 0 0 0 0 := by rw [hK, setAll_look]; rfl
    have kf21 : Kf.get 21 = .ptr 1 0 0 0 1 := by rw [hK, setAll_look]; rfl
    have kf22 : Kf.get 22 = .ptr 1 0 0 0 4 := by rw [hK, setAll_look]; rfl
    have kf23 : Kf.get 23 = .own 4 0 (gR + acc.length) 0 (R ++ acc).length := by rw [hK, setAll_look]; rfl
    have kf24 : Kf.get 24 = .ptr 1 0 0 0 0 := by rw [hK, setAll_look]; rfl
    have kf25 : Kf.get 25 = .ptr 1 0 0 0 0 := by rw [hK, setAll_look]; rfl
    have kf26 : Kf.get 26 = .ptr 1 0 0 0 0 := by rw [hK, setAll_look]; rfl
    have kf27 : Kf.get 27 = .ptr 0 0 0 0 0 := by rw [hK, setAll_look]; rfl
    have kf28 : Kf.get 28 = .int .u32 a := by rw [hK, setAll_look]; rfl
    have kf29 : Kf.get 29 = .int .i64 a := by rw [hK, setAll_look]; rfl
    have kf30 : Kf.get 30 = .ptr 1 0 0 0 0 := by rw [hK, setAll_look]; rfl
    have kf31 : Kf.get 31 = .ptr 1 0 0 0 0 := by rw [hK, setAll_look]; rfl
    have kf32 : Kf.get 32 = .ptr 1 0 0 0 0 := by rw [hK, setAll_look]; rfl
    have kf33 : Kf.get 33 = .ptr 0 0 0 0 0 := by rw [hK, setAll_look]; rfl
    have kf34 : Kf.get 34 = .int .u32 b := by rw [hK, setAll_look]; rfl
    have kf35 : Kf.get 35 = .int .i64 b := by rw [hK, setAll_look]; rfl
    have kf36 : Kf.get 36 = .ptr 1 0 0 0 0 := by rw [hK, setAll_look]; rfl
    have kf37 : Kf.get 37 = .ptr 1 0 0 0 0 := by rw [hK, setAll_look]; rfl
    have kf38 : Kf.get 38 = .ptr 1 0 0 0 0 := by rw [hK, setAll_look]; rfl
    have kf39 : Kf.get 39 = .ptr 0 0 0 0 0 := by rw [hK, setAll_look]; rfl
    have kf40 : Kf.get 40 = .int .u32 c := by rw [hK, setAll_look]; rfl
    have kf41 : Kf.get 41 = .int .i64 c := by rw [hK, setAll_look]; rfl
    have kf42 : Kf.get 42 = .ptr 1 0 0 0 0 := by rw [hK, setAll_look]; rfl
    have kf43 : Kf.get 43 = .ptr 1 0 0 0 0 := by rw [hK, setAll_look]; rfl
    have kf44 : Kf.get 44 = .ptr 1 0 0 0 0 := by rw [hK, setAll_look]; rfl
    have kf45 : Kf.get 45 = .ptr 0 0 0 0 0 := by rw [hK, setAll_look]; rfl
    have kf46 : Kf.get 46 = .str r3.text.1 := by rw [hK, setAll_look]; rfl
    have kf47 : Kf.get 47 = .ptr 1 0 0 0 0 := by rw [hK, setAll_look]; rfl
    have kf48 : Kf.get 48 = .ptr 1 0 0 0 0 := by rw [hK, setAll_look]; rfl
    have kf49 : Kf.get 49 = .ptr 1 0 0 0 0 := by rw [hK, setAll_look]; rfl
    have kf50 : Kf.get 50 = .ptr 0 0 0 0 0 := by rw [hK, setAll_look]; rfl
    have kf51 : Kf.get 51 = .int .u32 d := by rw [hK, setAll_look]; rfl
    have kf52 : Kf.get 52 = .int .i32 (IntKind.i32.wrap d) := by rw [hK, setAll_look]; rfl
    have kf53 : Kf.get 53 = .agg ([AV.int .i64 a, .int .i64 b, .int .i64 c, .str r3.text.1, .int .i32 (IntKind.i32.wrap d)]) := by rw [hK, setAll_look]; rfl
    have kf54 : Kf.get 54 = .own 5 0 0 0 1 := by rw [hK, setAll_look]; rfl
    have kf55 : Kf.get 55 = .own 4 0 (gR + acc.length + 1) 0 ((R ++ acc).length + 1) := by rw [hK, setAll_look]; rfl
    have kf56 : Kf.get 56 = .ptr 1 0 0 0 0 := by rw [hK, setAll_look]; rfl
    have kf57 : Kf.get 57 = .ptr 1 0 0 0 1 := by rw [hK, setAll_look]; rfl
    have kf58 : Kf.get 58 = .ptr 1 0 0 0 4 := by rw [hK, setAll_look]; rfl
    have kf0 : Kf.get 0 = .ptr 1 0 0 0 0 := by rw [hK, setAll_look]; rfl
    simp only [dr_object_reader_relocs_0_plan, planP_cons, planP_nil, and_true]
    (repeat' with_reducible apply And.intro)
    all_goals (rw [hH]; simp only [stepC, dr_object_reader_relocs_0_ops, List.getD_cons_succ, List.getD_cons_zero, hsOf, hsAt, beqL, beq_eq, Nat.reduceBEq, Bool.and_true, Bool.true_and, Bool.and_false, Bool.false_and, cond_true, cond_false, List.length_cons, List.length_nil, Nat.reduceAdd])
    all_goals try (simp (disch := first | exact dis1 | fail) only [evA, Nat.reduceBEq, Nat.reduceAdd, Nat.reduceLeDiff, boxR, rboxR, allocR, fldR, binI, unR, pickR, mknilR, mkslR, buildSlR, buildR, extR, convI, eqB, evU, wrap64, dstEq_set, dstEq_none, kf18, kf19, kf20, kf21, kf22, kf23, kf24, kf25, kf26, kf27, kf28, kf29, kf30, kf31, kf32, kf33, kf34, kf35, kf36, kf37, kf38, kf39, kf40, kf41, kf42, kf43, kf44, kf45, kf46, kf47, kf48, kf49, kf50, kf51, kf52, kf53, kf54, kf55, kf56, kf57, kf58, kf0, rdH, hel, hca, hcb, hcc, List.cons_append, List.nil_append]; done)
  case' fin => simp only [dr_object_reader_relocs_0_Ls, hsOf, hsAt, beqL, beq_eq, Nat.reduceBEq, Bool.and_true, Bool.true_and, Bool.and_false, Bool.false_and, cond_true, cond_false, List.length_cons, List.length_nil, Nat.reduceAdd, List.getD_cons_succ, List.getD_cons_zero, setAll]
  · have hkw : IntKind.u32.wrap (((k + 1 : Nat) : Int) - 1) = (k : Int) := by rw [wrapU32 (by omega) (by omega)]; omega
    have hY' : (R ++ (acc ++ [(⟨a, b, c, r3.text.1, IntKind.i32.wrap d⟩ : Rel)])).map Rel.cells = (R ++ acc).map Rel.cells ++ [[AV.int .i64 a, .int .i64 b, .int .i64 c, .str r3.text.1, .int .i32 (IntKind.i32.wrap d)]] := by
      rw [← List.append_assoc, List.map_append]
      rfl
    have hL : (R ++ (acc ++ [(⟨a, b, c, r3.text.1, IntKind.i32.wrap d⟩ : Rel)])).length = (R ++ acc).length + 1 := by rw [← List.append_assoc, List.length_append]; rfl
    have hg : gR + (acc ++ [(⟨a, b, c, r3.text.1, IntKind.i32.wrap d⟩ : Rel)]).length = gR + acc.length + 1 := by rw [List.length_append, List.length_singleton]; omega
    (repeat (first | (simp (disch := first | exact dis1 | fail) only [evA, Nat.reduceBEq, Nat.reduceAdd, Nat.reduceLeDiff, boxR, rboxR, allocR, fldR, binI, unR, pickR, mknilR, mkslR, buildSlR, buildR, extR, convI, eqB, evU, wrap64, hkw]) | (with_reducible intro _) | ((with_reducible apply And.intro); omega)))
    refine ⟨(k, r5, acc ++ [(⟨a, b, c, r3.text.1, IntKind.i32.wrap d⟩ : Rel)]), ⟨by simp only [List.length_append, List.length_singleton]; omega, hf5, by simpa using hs⟩, Nat.lt_succ_self k, ?_⟩
    simp only [hY', hL, hg]
    exact (Ent.tabB [(0, 0, 0), (1, 1, 0), (2, 2, 0), (3, 3, 0), (4, 4, 0)] [] rfl rfl rfl (by (try simp only [evWA, Nat.reduceBEq, Nat.reduceAdd, Nat.reduceSub, Nat.reduceLeDiff, Nat.reduceLT, implies_true, and_self, Int.natCast_zero, Int.natCast_one, Int.cast_ofNat_Int, evV, encInts, encNats, encBools, encP]) <;> exact fin2) (by (try simp only [evWA, Nat.reduceBEq, Nat.reduceAdd, Nat.reduceSub, Nat.reduceLeDiff, Nat.reduceLT, implies_true, and_self, Int.natCast_zero, Int.natCast_one, Int.cast_ofNat_Int, evV, encInts, encNats, encBools, encP]) <;> exact fin2))
  · unfold rdH
    (repeat (first | (simp (disch := first | exact dis1 | fail) only [evA, Nat.reduceBEq, Nat.reduceAdd, Nat.reduceLeDiff, boxR, rboxR, allocR, fldR, binI, unR, pickR, mknilR, mkslR, buildSlR, buildR, extR, convI, eqB, evU, wrap64, kf27]) | (with_reducible intro _) | ((with_reducible apply And.intro); omega)))
    refine call_lows 5 rfl ?_; refine call_own [(0, 0, 0)] 1 _ (k1) rfl rfl (by (try simp only [evWA, Nat.reduceBEq, Nat.reduceAdd, Nat.reduceSub, Nat.reduceLeDiff, Nat.reduceLT, implies_true, and_self, Int.natCast_zero, Int.natCast_one, Int.cast_ofNat_Int, evV, encInts, encNats, encBools, encP, Rd.cells, encB]) <;> exact fin1) (by (try simp only [evWA, Nat.reduceBEq, Nat.reduceAdd, Nat.reduceSub, Nat.reduceLeDiff, Nat.reduceLT, implies_true, and_self, Int.natCast_zero, Int.natCast_one, Int.cast_ofNat_Int, evV, encInts, encNats, encBools, encP, Rd.cells, encB]) <;> exact fin1) ?_
    rintro v' H' nx' ⟨rfl, rfl, rfl⟩
    (repeat (first | (simp (disch := first | exact dis1 | fail) only [evA, Nat.reduceBEq, Nat.reduceAdd, Nat.reduceLeDiff, boxR, rboxR, allocR, fldR, binI, unR, pickR, mknilR, mkslR, buildSlR, buildR, extR, convI, eqB, evU, wrap64, Rd.ren]) | (with_reducible intro _) | ((with_reducible apply And.intro); omega)))
    ((repeat (first | (simp (disch := first | exact dis1 | fail) only [evA, Nat.reduceBEq, Nat.reduceAdd, Nat.reduceLeDiff, boxR, rboxR, allocR, fldR, binI, unR, pickR, mknilR, mkslR, buildSlR, buildR, extR, convI, eqB, evU, wrap64, dstEq_set, dstEq_none, rowsLt, elsLt_cons, AV.lt1, AV.lt0, AH.sort, AH.ins, Nat.reduceEqDiff, Nat.reduceLT, if_true, if_false, reduceIte, and_true, true_and, kf28]) | (with_reducible intro _) | ((with_reducible apply And.intro); omega))); try ((repeat' with_reducible apply And.intro) <;> first | rfl | omega | exact elsLt_nil | exact elsLt_map (fun _ => rfl)))
  · unfold rdH
    (repeat (first | (simp (disch := first | exact dis1 | fail) only [evA, Nat.reduceBEq, Nat.reduceAdd, Nat.reduceLeDiff, boxR, rboxR, allocR, fldR, binI, unR, pickR, mknilR, mkslR, buildSlR, buildR, extR, convI, eqB, evU, wrap64, kf33]) | (with_reducible intro _) | ((with_reducible apply And.intro); omega)))
    refine call_lows 5 rfl ?_; refine call_own [(0, 0, 0)] 1 _ (k2) rfl rfl (by (try simp only [evWA, Nat.reduceBEq, Nat.reduceAdd, Nat.reduceSub, Nat.reduceLeDiff, Nat.reduceLT, implies_true, and_self, Int.natCast_zero, Int.natCast_one, Int.cast_ofNat_Int, evV, encInts, encNats, encBools, encP, Rd.cells, encB]) <;> exact fin1) (by (try simp only [evWA, Nat.reduceBEq, Nat.reduceAdd, Nat.reduceSub, Nat.reduceLeDiff, Nat.reduceLT, implies_true, and_self, Int.natCast_zero, Int.natCast_one, Int.cast_ofNat_Int, evV, encInts, encNats, encBools, encP, Rd.cells, encB]) <;> exact fin1) ?_
    rintro v' H' nx' ⟨rfl, rfl, rfl⟩
    (repeat (first | (simp (disch := first | exact dis1 | fail) only [evA, Nat.reduceBEq, Nat.reduceAdd, Nat.reduceLeDiff, boxR, rboxR, allocR, fldR, binI, unR, pickR, mknilR, mkslR, buildSlR, buildR, extR, convI, eqB, evU, wrap64, Rd.ren]) | (with_reducible intro _) | ((with_reducible apply And.intro); omega)))
    ((repeat (first | (simp (disch := first | exact dis1 | fail) only [evA, Nat.reduceBEq, Nat.reduceAdd, Nat.reduceLeDiff, boxR, rboxR, allocR, fldR, binI, unR, pickR, mknilR, mkslR, buildSlR, buildR, extR, convI, eqB, evU, wrap64, dstEq_set, dstEq_none, rowsLt, elsLt_cons, AV.lt1, AV.lt0, AH.sort, AH.ins, Nat.reduceEqDiff, Nat.reduceLT, if_true, if_false, reduceIte, and_true, true_and, kf34]) | (with_reducible intro _) | ((with_reducible apply And.intro); omega))); try ((repeat' with_reducible apply And.intro) <;> first | rfl | omega | exact elsLt_nil | exact elsLt_map (fun _ => rfl)))
  · unfold rdH
    (repeat (first | (simp (disch := first | exact dis1 | fail) only [evA, Nat.reduceBEq, Nat.reduceAdd, Nat.reduceLeDiff, boxR, rboxR, allocR, fldR, binI, unR, pickR, mknilR, mkslR, buildSlR, buildR, extR, convI, eqB, evU, wrap64, kf39]) | (with_reducible intro _) | ((with_reducible apply And.intro); omega)))
    refine call_lows 5 rfl ?_; refine call_own [(0, 0, 0)] 1 _ (k3) rfl rfl (by (try simp only [evWA, Nat.reduceBEq, Nat.reduceAdd, Nat.reduceSub, Nat.reduceLeDiff, Nat.reduceLT, implies_true, and_self, Int.natCast_zero, Int.natCast_one, Int.cast_ofNat_Int, evV, encInts, encNats, encBools, encP, Rd.cells, encB]) <;> exact fin1) (by (try simp only [evWA, Nat.reduceBEq, Nat.reduceAdd, Nat.reduceSub, Nat.reduceLeDiff, Nat.reduceLT, implies_true, and_self, Int.natCast_zero, Int.natCast_one, Int.cast_ofNat_Int, evV, encInts, encNats, encBools, encP, Rd.cells, encB]) <;> exact fin1) ?_
    rintro v' H' nx' ⟨rfl, rfl, rfl⟩
    (repeat (first | (simp (disch := first | exact dis1 | fail) only [evA, Nat.reduceBEq, Nat.reduceAdd, Nat.reduceLeDiff, boxR, rboxR, allocR, fldR, binI, unR, pickR, mknilR, mkslR, buildSlR, buildR, extR, convI, eqB, evU, wrap64, Rd.ren]) | (with_reducible intro _) | ((with_reducible apply And.intro); omega)))
    ((repeat (first | (simp (disch := first | exact dis1 | fail) only [evA, Nat.reduceBEq, Nat.reduceAdd, Nat.reduceLeDiff, boxR, rboxR, allocR, fldR, binI, unR, pickR, mknilR, mkslR, buildSlR, buildR, extR, convI, eqB, evU, wrap64, dstEq_set, dstEq_none, rowsLt, elsLt_cons, AV.lt1, AV.lt0, AH.sort, AH.ins, Nat.reduceEqDiff, Nat.reduceLT, if_true, if_false, reduceIte, and_true, true_and, kf40]) | (with_reducible intro _) | ((with_reducible apply And.intro); omega))); try ((repeat' with_reducible apply And.intro) <;> first | rfl | omega | exact elsLt_nil | exact elsLt_map (fun _ => rfl)))
  · unfold rdH
    (repeat (first | (simp (disch := first | exact dis1 | fail) only [evA, Nat.reduceBEq, Nat.reduceAdd, Nat.reduceLeDiff, boxR, rboxR, allocR, fldR, binI, unR, pickR, mknilR, mkslR, buildSlR, buildR, extR, convI, eqB, evU, wrap64, kf45]) | (with_reducible intro _) | ((with_reducible apply And.intro); omega)))
    refine call_lows 5 rfl ?_; refine call_own [(0, 0, 0)] 1 _ (k4) rfl rfl (by (try simp only [evWA, Nat.reduceBEq, Nat.reduceAdd, Nat.reduceSub, Nat.reduceLeDiff, Nat.reduceLT, implies_true, and_self, Int.natCast_zero, Int.natCast_one, Int.cast_ofNat_Int, evV, encInts, encNats, encBools, encP, Rd.cells, encB]) <;> exact fin1) (by (try simp only [evWA, Nat.reduceBEq, Nat.reduceAdd, Nat.reduceSub, Nat.reduceLeDiff, Nat.reduceLT, implies_true, and_self, Int.natCast_zero, Int.natCast_one, Int.cast_ofNat_Int, evV, encInts, encNats, encBools, encP, Rd.cells, encB]) <;> exact fin1) ?_
    rintro v' H' nx' ⟨rfl, rfl, rfl⟩
    (repeat (first | (simp (disch := first | exact dis1 | fail) only [evA, Nat.reduceBEq, Nat.reduceAdd, Nat.reduceLeDiff, boxR, rboxR, allocR, fldR, binI, unR, pickR, mknilR, mkslR, buildSlR, buildR, extR, convI, eqB, evU, wrap64, Rd.ren]) | (with_reducible intro _) | ((with_reducible apply And.intro); omega)))
    ((repeat (first | (simp (disch := first | exact dis1 | fail) only [evA, Nat.reduceBEq, Nat.reduceAdd, Nat.reduceLeDiff, boxR, rboxR, allocR, fldR, binI, unR, pickR, mknilR, mkslR, buildSlR, buildR, extR, convI, eqB, evU, wrap64, dstEq_set, dstEq_none, rowsLt, elsLt_cons, AV.lt1, AV.lt0, AH.sort, AH.ins, Nat.reduceEqDiff, Nat.reduceLT, if_true, if_false, reduceIte, and_true, true_and, kf46]) | (with_reducible intro _) | ((with_reducible apply And.intro); omega))); try ((repeat' with_reducible apply And.intro) <;> first | rfl | omega | exact elsLt_nil | exact elsLt_map (fun _ => rfl)))
  · unfold rdH
    (repeat (first | (simp (disch := first | exact dis1 | fail) only [evA, Nat.reduceBEq, Nat.reduceAdd, Nat.reduceLeDiff, boxR, rboxR, allocR, fldR, binI, unR, pickR, mknilR, mkslR, buildSlR, buildR, extR, convI, eqB, evU, wrap64, kf50]) | (with_reducible intro _) | ((with_reducible apply And.intro); omega)))
    refine call_lows 5 rfl ?_; refine call_own [(0, 0, 0)] 1 _ (k5) rfl rfl (by (try simp only [evWA, Nat.reduceBEq, Nat.reduceAdd, Nat.reduceSub, Nat.reduceLeDiff, Nat.reduceLT, implies_true, and_self, Int.natCast_zero, Int.natCast_one, Int.cast_ofNat_Int, evV, encInts, encNats, encBools, encP, Rd.cells, encB]) <;> exact fin1) (by (try simp only [evWA, Nat.reduceBEq, Nat.reduceAdd, Nat.reduceSub, Nat.reduceLeDiff, Nat.reduceLT, implies_true, and_self, Int.natCast_zero, Int.natCast_one, Int.cast_ofNat_Int, evV, encInts, encNats, encBools, encP, Rd.cells, encB]) <;> exact fin1) ?_
    rintro v' H' nx' ⟨rfl, rfl, rfl⟩
    (repeat (first | (simp (disch := first | exact dis1 | fail) only [evA, Nat.reduceBEq, Nat.reduceAdd, Nat.reduceLeDiff, boxR, rboxR, allocR, fldR, binI, unR, pickR, mknilR, mkslR, buildSlR, buildR, extR, convI, eqB, evU, wrap64, Rd.ren]) | (with_reducible intro _) | ((with_reducible apply And.intro); omega)))
    ((repeat (first | (simp (disch := first | exact dis1 | fail) only [evA, Nat.reduceBEq, Nat.reduceAdd, Nat.reduceLeDiff, boxR, rboxR, allocR, fldR, binI, unR, pickR, mknilR, mkslR, buildSlR, buildR, extR, convI, eqB, evU, wrap64, dstEq_set, dstEq_none, rowsLt, elsLt_cons, AV.lt1, AV.lt0, AH.sort, AH.ins, Nat.reduceEqDiff, Nat.reduceLT, if_true, if_false, reduceIte, and_true, true_and, kf51]) | (with_reducible intro _) | ((with_reducible apply And.intro); omega))); try ((repeat' with_reducible apply And.intro) <;> first | rfl | omega | exact elsLt_nil | exact elsLt_map (fun _ => rfl)))
  · unfold rdH
    (repeat (first | (simp (disch := first | exact dis1 | fail) only [evA, Nat.reduceBEq, Nat.reduceAdd, Nat.reduceLeDiff, boxR, rboxR, allocR, fldR, binI, unR, pickR, mknilR, mkslR, buildSlR, buildR, extR, convI, eqB, evU, wrap64, kf23, kf54, kf55, dstEq_set, List.cons_append, List.nil_append]) | (with_reducible intro _) | ((with_reducible apply And.intro); omega)))
    omega

end Go.Ab

namespace Go.Ab
open Go.RowKit Go.Proofs

def wrP (f : Int) : Bool := decide (IntKind.u32.wrap (BitVec.ofInt 32 f &&& BitVec.ofInt 32 1).toNat = 1)
def exP (f : Int) : Bool := decide (IntKind.u32.wrap (BitVec.ofInt 32 f &&& BitVec.ofInt 32 2).toNat = 2)

def Rd.secP (r : Rd) : Sec × Rd := (⟨r.text.1, UInt32.ofNat (r.r1.number 4).1.toNat, (r.r5.bytes r.size).1, wrP r.flag, exP r.flag⟩, (r.r5.bytes r.size).2)

def Rd.secsP : Nat → Rd → List Sec × Rd
  | 0, r => ([], r)
  | n + 1, r => if r.e ≠ 0 then ([], r) else (r.secP.1 :: (Rd.secsP n r.secP.2).1, (Rd.secsP n r.secP.2).2)

theorem Rd.secP_fine {r : Rd} (h : r.fine) : r.secP.2.fine :=
  Rd.bytes_fine (Rd.number_fine (Rd.mark_fine (Rd.number_fine (Rd.number_fine (Rd.text_fine h) (by decide)) (by decide))) (by decide))

def Rd.failR (r : Rd) (x : Int) : Rd := if r.e = 0 then ⟨r.b, r.p, x⟩ else r

theorem position_fail_all (r : Rd) (x : Int) : CallOk Try.prog f_object_position_fail [.ptr 0 0 0 0 0, .int .i64 x] [(0, .row 3 [r.cells] 0)] 1
    (fun v H nx => v = .tup [] ∧ H = [(0, .row 3 [(r.failR x).cells] 0)] ∧ nx = 1) := by
  obtain ⟨b, p, e⟩ := r
  refine fn_x cf_object_position_fail rfl ?_
  unfold ac_object_position_fail Rd.cells
  by_cases h : e = 0
  · subst h
    have e0 : decide ((0 : Int) = 0) = true := rfl
    have e1 : Rd.failR ⟨b, p, 0⟩ x = ⟨b, p, x⟩ := if_pos rfl
    rw [e1]
    (repeat (first | (simp (disch := first | exact dis1 | fail) only [evA, Nat.reduceBEq, Nat.reduceAdd, Nat.reduceLeDiff, boxR, rboxR, allocR, fldR, binI, unR, pickR, mknilR, mkslR, buildSlR, buildR, extR, convI, eqB, evU, wrap64, e0, rs_object_position_fail]) | (with_reducible intro _) | ((with_reducible apply And.intro); omega)))
  have e0 : decide (e = 0) = false := decide_eq_false h
  have e1 : Rd.failR ⟨b, p, e⟩ x = ⟨b, p, e⟩ := if_neg h
  rw [e1]
  (repeat (first | (simp (disch := first | exact dis1 | fail) only [evA, Nat.reduceBEq, Nat.reduceAdd, Nat.reduceLeDiff, boxR, rboxR, allocR, fldR, binI, unR, pickR, mknilR, mkslR, buildSlR, buildR, extR, convI, eqB, evU, wrap64, e0, rs_object_position_fail]) | (with_reducible intro _) | ((with_reducible apply And.intro); omega)))

theorem object_reader_sections_ok (r0 : Rd) (n0 en : Nat) (S : List Sec) (Y : List Sym) (R : List Rel) (gS gY gR : Nat) (hr : r0.fine) (hn : n0 ≤ 65535) (hY : S.length ≤ 65535) :
    CallOk Try.prog f_object_reader_sections [.ptr 1 0 0 0 0, .int .u32 n0] (rdH r0 en S Y R gS gY gR) 5
      (fun v H nx => v = .tup [] ∧ H = rdH (Rd.secsP n0 r0).2 en (S ++ (Rd.secsP n0 r0).1) Y R (gS + (Rd.secsP n0 r0).1.length) gY gR ∧ nx = 5) := by
  refine fn_x cf_object_reader_sections rfl ?_
  unfold ac_object_reader_sections
  have hB : big = 9223372036854775807 := rfl
  generalize hres : Rd.secsP n0 r0 = res
  (repeat (first | (simp (disch := first | exact dis1 | fail) only [evA, Nat.reduceBEq, Nat.reduceAdd, Nat.reduceLeDiff, boxR, rboxR, allocR, fldR, binI, unR, pickR, mknilR, mkslR, buildSlR, buildR, extR, convI, eqB, evU, wrap64]) | (with_reducible intro _) | ((with_reducible apply And.intro); omega)))
  refine loopX_intro (fun a : Nat × Rd × List Sec => ([(0, .ptr 1 0 0 0 0), (1, .int .u32 a.1)], rdH a.2.1 en (S ++ a.2.2) Y R (gS + a.2.2.length) gY gR)) 5
    (fun a => a.1 + a.2.2.length ≤ n0 ∧ a.2.1.fine ∧ (a.2.2 ++ (Rd.secsP a.1 a.2.1).1, (Rd.secsP a.1 a.2.1).2) = res) (fun a => a.1) (n0, r0, []) ⟨by simp, hr, by simp [hres]⟩ (by simp only [List.append_nil, List.length_nil, Nat.add_zero]; exact Ent.keep rfl (by (try simp [subK, Kn.get, beq_eq]) <;> (repeat' with_reducible apply And.intro) <;> first | rfl | omega | (simp; done))) ?_
  rintro ⟨k, r, acc⟩ ⟨hk, hf, hs⟩ wf
  simp only at hk hf hs
  unfold ac_object_reader_sections_l4
  have hee : ∀ x : Rd, (Rd.cells x).getD 2 .undef = .int .i64 x.e := fun _ => rfl
  have hel : ∀ x : Rd, (Rd.cells x).length = 3 := fun _ => rfl
  rcases k with _ | k
  · subst hs
    have d0 : decide ((0 : Int) < ((0 : Nat) : Int)) = false := rfl
    unfold rdH
    (repeat (first | (simp (disch := first | exact dis1 | fail) only [evA, Nat.reduceBEq, Nat.reduceAdd, Nat.reduceLeDiff, boxR, rboxR, allocR, fldR, binI, unR, pickR, mknilR, mkslR, buildSlR, buildR, extR, convI, eqB, evU, wrap64, d0]) | (with_reducible intro _) | ((with_reducible apply And.intro); omega)))
    simp only [Rd.secsP, List.append_nil]
    (repeat (first | (simp (disch := first | exact dis1 | fail) only [evA, Nat.reduceBEq, Nat.reduceAdd, Nat.reduceLeDiff, boxR, rboxR, allocR, fldR, binI, unR, pickR, mknilR, mkslR, buildSlR, buildR, extR, convI, eqB, evU, wrap64, rs_object_reader_sections]) | (with_reducible intro _) | ((with_reducible apply And.intro); omega)))
  have d0 : decide ((0 : Int) < ((k + 1 : Nat) : Int)) = true := decide_eq_true (by omega)
  by_cases he : r.e = 0
  case neg =>
    subst hs
    have d1 : decide (r.e = 0) = false := decide_eq_false he
    unfold rdH
    (repeat (first | (simp (disch := first | exact dis1 | fail) only [evA, Nat.reduceBEq, Nat.reduceAdd, Nat.reduceLeDiff, boxR, rboxR, allocR, fldR, binI, unR, pickR, mknilR, mkslR, buildSlR, buildR, extR, convI, eqB, evU, wrap64, d0, hee, hel, d1]) | (with_reducible intro _) | ((with_reducible apply And.intro); omega)))
    have e0 : Rd.secsP (k + 1) r = ([], r) := by rw [Rd.secsP, if_pos he]
    simp only [e0, List.append_nil]
    (repeat (first | (simp (disch := first | exact dis1 | fail) only [evA, Nat.reduceBEq, Nat.reduceAdd, Nat.reduceLeDiff, boxR, rboxR, allocR, fldR, binI, unR, pickR, mknilR, mkslR, buildSlR, buildR, extR, convI, eqB, evU, wrap64, rs_object_reader_sections]) | (with_reducible intro _) | ((with_reducible apply And.intro); omega)))
  have d1 : decide (r.e = 0) = true := decide_eq_true he
  have e1 : Rd.secsP (k + 1) r = (r.secP.1 :: (Rd.secsP k r.secP.2).1, (Rd.secsP k r.secP.2).2) := by rw [Rd.secsP, if_neg (by simp [he])]
  obtain ⟨r1, hr1⟩ : ∃ x, x = r.r1 := ⟨_, rfl⟩
  obtain ⟨r2, hr2⟩ : ∃ x, x = r.r2 := ⟨_, rfl⟩
  obtain ⟨r3, hr3⟩ : ∃ x, x = r.r3 := ⟨_, rfl⟩
  obtain ⟨r4, hr4⟩ : ∃ x, x = r.r4 := ⟨_, rfl⟩
  obtain ⟨r5, hr5⟩ : ∃ x, x = r.r5 := ⟨_, rfl⟩
  have f1 : r1.fine := by rw [hr1]; exact Rd.text_fine hf
  have f2 : r2.fine := by rw [hr2]; exact Rd.number_fine (hr1 ▸ f1) (by decide)
  have f3 : r3.fine := by rw [hr3]; exact Rd.number_fine (hr2 ▸ f2) (by decide)
  have f4 : r4.fine := by rw [hr4]; exact Rd.mark_fine (hr3 ▸ f3)
  have f5 : r5.fine := by rw [hr5]; exact Rd.number_fine (hr4 ▸ f4) (by decide)
  have k1 := position_text_ok r
  have k2 := position_number_ok r1 4 f1.toOk (by decide)
  have k3 := position_number_ok r2 1 f2.toOk (by decide)
  have k4 := position_number_ok r4 4 f4.toOk (by decide)
  obtain ⟨a, ha, hae⟩ := Rd.number_val r1 (w := 4) (by decide)
  obtain ⟨f, hfl, hfe⟩ := Rd.number_val r2 (w := 1) (by decide)
  obtain ⟨m, hm, hme⟩ := Rd.number_val r4 (w := 4) (by decide)
  have k5 := position_bytes_ok r5 m f5.toOk f5.ok hm
  obtain ⟨D, hD⟩ : ∃ x, x = (r5.bytes m).1 := ⟨_, rfl⟩
  obtain ⟨r6, hr6⟩ : ∃ x, x = (r5.bytes m).2 := ⟨_, rfl⟩
  have hf6 : r6.fine := by rw [hr6]; exact Rd.bytes_fine f5
  have hflag : r.flag = f := by rw [← hfe, hr2]; rfl
  have hm4 : r4 = r3.mark f := by rw [hr4, hr3, ← hflag]; rfl
  have e2 : r.secP = ((⟨r.text.1, UInt32.ofNat a, D, wrP f, exP f⟩ : Sec), r6) := by
    unfold Rd.secP
    have hsz : r.size = m := by unfold Rd.size; rw [← hr4, hme]; rfl
    rw [hsz, ← hr1, ← hr5, ← hD, ← hr6, hae, hflag]
    rfl
  rw [hae] at k2
  rw [hfe] at k3
  rw [hme] at k4
  rw [← hD, ← hr6] at k5
  change CallOk _ _ _ _ _ (fun v H nx => v = _ ∧ H = [(0, .row 3 [r.r1.cells] 0)] ∧ nx = 1) at k1
  rw [← hr1] at k1
  have q2 : (r1.number 4).2 = r2 := by rw [hr1, hr2]; rfl
  have q3 : (r2.number 1).2 = r3 := by rw [hr2, hr3]; rfl
  have q5 : (r4.number 4).2 = r5 := by rw [hr4, hr5]; rfl
  rw [q2] at k2
  rw [q3] at k3
  rw [q5] at k4
  rw [e1, e2] at hs
  clear hr1 hr2 hr3 hr4 hr5 hr6 q2 q3 q5 hae hfe hme
  have hsz : ((S ++ acc).length : Int) + 1 ≤ 70000 * 2 := by
    rw [List.length_append]
    omega
  unfold rdH
  (repeat (first | (simp (disch := first | exact dis1 | fail) only [evA, Nat.reduceBEq, Nat.reduceAdd, Nat.reduceLeDiff, boxR, rboxR, allocR, fldR, binI, unR, pickR, mknilR, mkslR, buildSlR, buildR, extR, convI, eqB, evU, wrap64, d0, hee, hel, d1]) | (with_reducible intro _) | ((with_reducible apply And.intro); omega)))
  refine draw_det dr_object_reader_sections_0_Ls dr_object_reader_sections_0_A dr_object_reader_sections_0_St dr_object_reader_sections_0_plan [(20, .ptr 1 0 0 0 0), (21, .ptr 1 0 0 0 0), (22, .ptr 1 0 0 0 0), (23, .ptr 0 0 0 0 0), (24, .str r.text.1), (25, .ptr 1 0 0 0 0), (26, .ptr 1 0 0 0 0), (27, .ptr 1 0 0 0 0), (28, .ptr 0 0 0 0 0), (29, .int .u32 a), (30, .agg [AV.str r.text.1, .int .u32 a, .nilsl, .bool false, .bool false]), (4, .ptr 5 0 0 0 0)] (hsAt [([], [(0, .row 3 [r.cells] 0), (1, .row 5 [[.ptr 0 0 0 0 0, .int .u32 en, .own 2 0 (gS + acc.length) 0 (S ++ acc).length, .own 3 0 gY 0 Y.length, .own 4 0 gR 0 R.length]] 0), (2, .row 5 ((S ++ acc).map Sec.cells) (gS + acc.length)), (3, .row 3 (Y.map Sym.cells) gY), (4, .row 5 (R.map Rel.cells) gR)], 5), ([4], [(0, .row 3 [r1.cells] 0), (1, .row 5 [[.ptr 0 0 0 0 0, .int .u32 en, .own 2 0 (gS + acc.length) 0 (S ++ acc).length, .own 3 0 gY 0 Y.length, .own 4 0 gR 0 R.length]] 0), (2, .row 5 ((S ++ acc).map Sec.cells) (gS + acc.length)), (3, .row 3 (Y.map Sym.cells) gY), (4, .row 5 (R.map Rel.cells) gR)], 5), ([11], [(0, .row 3 [r.cells] 0), (1, .row 5 [[.ptr 0 0 0 0 0, .int .u32 en, .own 2 0 (gS + acc.length) 0 (S ++ acc).length, .own 3 0 gY 0 Y.length, .own 4 0 gR 0 R.length]] 0), (2, .row 5 ((S ++ acc).map Sec.cells) (gS + acc.length)), (3, .row 3 (Y.map Sym.cells) gY), (4, .row 5 (R.map Rel.cells) gR), (5, .row 5 [[AV.str ⟨#[]⟩, .int .u32 0, .nilsl, .bool false, .bool false]] 0)], 6), ([4, 9], [(0, .row 3 [r2.cells] 0), (1, .row 5 [[.ptr 0 0 0 0 0, .int .u32 en, .own 2 0 (gS + acc.length) 0 (S ++ acc).length, .own 3 0 gY 0 Y.length, .own 4 0 gR 0 R.length]] 0), (2, .row 5 ((S ++ acc).map Sec.cells) (gS + acc.length)), (3, .row 3 (Y.map Sym.cells) gY), (4, .row 5 (R.map Rel.cells) gR)], 5), ([4, 11], [(0, .row 3 [r1.cells] 0), (1, .row 5 [[.ptr 0 0 0 0 0, .int .u32 en, .own 2 0 (gS + acc.length) 0 (S ++ acc).length, .own 3 0 gY 0 Y.length, .own 4 0 gR 0 R.length]] 0), (2, .row 5 ((S ++ acc).map Sec.cells) (gS + acc.length)), (3, .row 3 (Y.map Sym.cells) gY), (4, .row 5 (R.map Rel.cells) gR), (5, .row 5 [[AV.str ⟨#[]⟩, .int .u32 0, .nilsl, .bool false, .bool false]] 0)], 6), ([4, 9, 11], [(0, .row 3 [r2.cells] 0), (1, .row 5 [[.ptr 0 0 0 0 0, .int .u32 en, .own 2 0 (gS + acc.length) 0 (S ++ acc).length, .own 3 0 gY 0 Y.length, .own 4 0 gR 0 R.length]] 0), (2, .row 5 ((S ++ acc).map Sec.cells) (gS + acc.length)), (3, .row 3 (Y.map Sym.cells) gY), (4, .row 5 (R.map Rel.cells) gR), (5, .row 5 [[AV.str ⟨#[]⟩, .int .u32 0, .nilsl, .bool false, .bool false]] 0)], 6), ([4, 9, 11, 12], [(0, .row 3 [r2.cells] 0), (1, .row 5 [[.ptr 0 0 0 0 0, .int .u32 en, .own 2 0 (gS + acc.length) 0 (S ++ acc).length, .own 3 0 gY 0 Y.length, .own 4 0 gR 0 R.length]] 0), (2, .row 5 ((S ++ acc).map Sec.cells) (gS + acc.length)), (3, .row 3 (Y.map Sym.cells) gY), (4, .row 5 (R.map Rel.cells) gR), (5, .row 5 [[AV.str r.text.1, .int .u32 a, .nilsl, .bool false, .bool false]] 0)], 6)]) (by kernel_rfl) (by rfl) (by rfl) (by repeat' first | exact QExt.retK | apply QExt.seq | apply QExt.block | apply QExt.loop | apply QExt.join | assumption) ?plan [(4, .ptr 5 0 0 0 0)] (by rfl) ?fin
  case' plan =>
    intro Kf hs hK hH
    have kf20 : Kf.get 20 = .ptr 1 0 0 0 0 := by rw [hK, setAll_look]; rfl
    have kf21 : Kf.get 21 = .ptr 1 0 0 0 0 := by rw [hK, setAll_look]; rfl
    have kf22 : Kf.get 22 = .ptr 1 0 0 0 0 := by rw [hK, setAll_look]; rfl
    have kf23 : Kf.get 23 = .ptr 0 0 0 0 0 := by rw [hK, setAll_look]; rfl
    have kf24 : Kf.get 24 = .str r.text.1 := by rw [hK, setAll_look]; rfl
    have kf25 : Kf.get 25 = .ptr 1 0 0 0 0 := by rw [hK, setAll_look]; rfl
    have kf26 : Kf.get 26 = .ptr 1 0 0 0 0 := by rw [hK, setAll_look]; rfl
    have kf27 : Kf.get 27 = .ptr 1 0 0 0 0 := by rw [hK, setAll_look]; rfl
    have kf28 : Kf.get 28 = .ptr 0 0 0 0 0 := by rw [hK, setAll_look]; rfl
    have kf29 : Kf.get 29 = .int .u32 a := by rw [hK, setAll_look]; rfl
    have kf30 : Kf.get 30 = .agg [AV.str r.text.1, .int .u32 a, .nilsl, .bool false, .bool false] := by rw [hK, setAll_look]; rfl
    have kf4 : Kf.get 4 = .ptr 5 0 0 0 0 := by rw [hK, setAll_look]; rfl
    have kf0 : Kf.get 0 = .ptr 1 0 0 0 0 := by rw [hK, setAll_look]; rfl
    simp only [dr_object_reader_sections_0_plan, planP_cons, planP_nil, and_true]
    (repeat' with_reducible apply And.intro)
    all_goals (rw [hH]; simp only [stepC, dr_object_reader_sections_0_ops, List.getD_cons_succ, List.getD_cons_zero, hsOf, hsAt, beqL, beq_eq, Nat.reduceBEq, Bool.and_true, Bool.true_and, Bool.and_false, Bool.false_and, cond_true, cond_false, List.length_cons, List.length_nil, Nat.reduceAdd])
    all_goals try (simp (disch := first | exact dis1 | fail) only [evA, Nat.reduceBEq, Nat.reduceAdd, Nat.reduceLeDiff, boxR, rboxR, allocR, fldR, binI, unR, pickR, mknilR, mkslR, buildSlR, buildR, extR, convI, eqB, evU, wrap64, dstEq_set, dstEq_none, kf20, kf21, kf22, kf23, kf24, kf25, kf26, kf27, kf28, kf29, kf30, kf4, kf0, hel, List.cons_append, List.nil_append]; done)
  case' fin => simp only [dr_object_reader_sections_0_Ls, hsOf, hsAt, beqL, beq_eq, Nat.reduceBEq, Bool.and_true, Bool.true_and, Bool.and_false, Bool.false_and, cond_true, cond_false, List.length_cons, List.length_nil, Nat.reduceAdd, List.getD_cons_succ, List.getD_cons_zero, setAll]
  · (repeat (first | (simp (disch := first | exact dis1 | fail) only [evA, Nat.reduceBEq, Nat.reduceAdd, Nat.reduceLeDiff, boxR, rboxR, allocR, fldR, binI, unR, pickR, mknilR, mkslR, buildSlR, buildR, extR, convI, eqB, evU, wrap64]) | (with_reducible intro _) | ((with_reducible apply And.intro); omega)))
    refine call_lows 6 rfl ?_; refine call_own [(0, 0, 0)] 1 _ (k3) rfl rfl (by (try simp only [evWA, Nat.reduceBEq, Nat.reduceAdd, Nat.reduceSub, Nat.reduceLeDiff, Nat.reduceLT, implies_true, and_self, Int.natCast_zero, Int.natCast_one, Int.cast_ofNat_Int, evV, encInts, encNats, encBools, encP, Rd.cells, encB]) <;> exact fin1) (by (try simp only [evWA, Nat.reduceBEq, Nat.reduceAdd, Nat.reduceSub, Nat.reduceLeDiff, Nat.reduceLT, implies_true, and_self, Int.natCast_zero, Int.natCast_one, Int.cast_ofNat_Int, evV, encInts, encNats, encBools, encP, Rd.cells, encB]) <;> exact fin1) ?_
    rintro v' H' nx' ⟨rfl, rfl, rfl⟩
    refine ⟨?_, ?_⟩; (· (repeat (first | (simp (disch := first | exact dis1 | fail) only [evA, Nat.reduceBEq, Nat.reduceAdd, Nat.reduceLeDiff, boxR, rboxR, allocR, fldR, binI, unR, pickR, mknilR, mkslR, buildSlR, buildR, extR, convI, eqB, evU, wrap64, rowsLt, elsLt_cons, AV.lt1, AV.lt0, AH.sort, AH.ins, Nat.reduceEqDiff, Nat.reduceLT, if_true, if_false, reduceIte, and_true, true_and, Rd.ren]) | (with_reducible intro _) | ((with_reducible apply And.intro); omega))) <;> ((repeat' with_reducible apply And.intro) <;> first | rfl | omega | exact elsLt_nil | (refine elsLt_map ?_; intro _; rfl) | fail)); (repeat (first | (simp (disch := first | exact dis1 | fail) only [evA, Nat.reduceBEq, Nat.reduceAdd, Nat.reduceLeDiff, boxR, rboxR, allocR, fldR, binI, unR, pickR, mknilR, mkslR, buildSlR, buildR, extR, convI, eqB, evU, wrap64, AH.sort, AH.ins, Nat.reduceEqDiff, Nat.reduceLT, if_true, if_false, reduceIte, Rd.ren]) | (with_reducible intro _) | ((with_reducible apply And.intro); omega)))
    refine joinX_intro (fun _ : Unit => ([(0, .ptr 1 0 0 0 0), (1, .int .u32 (k + 1 : Nat)), (4, .ptr 5 0 0 0 0), (5, .int .u32 f)], [(0, .row 3 [r4.cells] 0), (1, .row 5 [[.ptr 0 0 0 0 0, .int .u32 en, .own 2 0 (gS + acc.length) 0 (S ++ acc).length, .own 3 0 gY 0 Y.length, .own 4 0 gR 0 R.length]] 0), (2, .row 5 ((S ++ acc).map Sec.cells) (gS + acc.length)), (3, .row 3 (Y.map Sym.cells) gY), (4, .row 5 (R.map Rel.cells) gR), (5, .row 5 [[AV.str r.text.1, .int .u32 a, .nilsl, .bool false, .bool false]] 0)])) 6 (fun _ => True) ?_ ?_
    · (repeat (first | (simp (disch := first | exact dis1 | fail) only [evA, Nat.reduceBEq, Nat.reduceAdd, Nat.reduceLeDiff, boxR, rboxR, allocR, fldR, binI, unR, pickR, mknilR, mkslR, buildSlR, buildR, extR, convI, eqB, evU, wrap64]) | (with_reducible intro _) | ((with_reducible apply And.intro); omega)))
      (refine condX_intro (fun h3 => ?_) (fun h3 => ?_)) <;> (try simp only [decide_eq_true_eq, decide_eq_false_iff_not, Bool.not_eq_true', Bool.not_eq_false', Bool.and_eq_true, Bool.or_eq_true, not_true_eq_false, not_false_eq_true] at h3)
      · have k6 := position_fail_all r3 4
        have hq : r3.failR 4 = r4 := by
          rw [hm4]
          unfold Rd.failR Rd.mark
          by_cases h : r3.e = 0
          · rw [if_pos h, if_pos ⟨h3, h⟩]
          · rw [if_neg h, if_neg (fun hh => h hh.2)]
        rw [hq] at k6
        (repeat (first | (simp (disch := first | exact dis1 | fail) only [evA, Nat.reduceBEq, Nat.reduceAdd, Nat.reduceLeDiff, boxR, rboxR, allocR, fldR, binI, unR, pickR, mknilR, mkslR, buildSlR, buildR, extR, convI, eqB, evU, wrap64]) | (with_reducible intro _) | ((with_reducible apply And.intro); omega)))
        refine call_lows 6 rfl ?_; refine call_own [(0, 0, 0)] 1 _ (k6) rfl rfl (by (try simp only [evWA, Nat.reduceBEq, Nat.reduceAdd, Nat.reduceSub, Nat.reduceLeDiff, Nat.reduceLT, implies_true, and_self, Int.natCast_zero, Int.natCast_one, Int.cast_ofNat_Int, evV, encInts, encNats, encBools, encP, Rd.cells, encB]) <;> exact fin1) (by (try simp only [evWA, Nat.reduceBEq, Nat.reduceAdd, Nat.reduceSub, Nat.reduceLeDiff, Nat.reduceLT, implies_true, and_self, Int.natCast_zero, Int.natCast_one, Int.cast_ofNat_Int, evV, encInts, encNats, encBools, encP, Rd.cells, encB]) <;> exact fin1) ?_
        rintro v' H' nx' ⟨rfl, rfl, rfl⟩
        refine ⟨?_, ?_⟩; (· (repeat (first | (simp (disch := first | exact dis1 | fail) only [evA, Nat.reduceBEq, Nat.reduceAdd, Nat.reduceLeDiff, boxR, rboxR, allocR, fldR, binI, unR, pickR, mknilR, mkslR, buildSlR, buildR, extR, convI, eqB, evU, wrap64, rowsLt, elsLt_cons, AV.lt1, AV.lt0, AH.sort, AH.ins, Nat.reduceEqDiff, Nat.reduceLT, if_true, if_false, reduceIte, and_true, true_and, Rd.ren]) | (with_reducible intro _) | ((with_reducible apply And.intro); omega))) <;> ((repeat' with_reducible apply And.intro) <;> first | rfl | omega | exact elsLt_nil | (refine elsLt_map ?_; intro _; rfl) | fail)); (repeat (first | (simp (disch := first | exact dis1 | fail) only [evA, Nat.reduceBEq, Nat.reduceAdd, Nat.reduceLeDiff, boxR, rboxR, allocR, fldR, binI, unR, pickR, mknilR, mkslR, buildSlR, buildR, extR, convI, eqB, evU, wrap64, AH.sort, AH.ins, Nat.reduceEqDiff, Nat.reduceLT, if_true, if_false, reduceIte, Rd.ren]) | (with_reducible intro _) | ((with_reducible apply And.intro); omega)))
        exact ⟨(), Ent.keep rfl (by (try simp [subK, Kn.get, beq_eq]) <;> (repeat' with_reducible apply And.intro) <;> first | rfl | omega | (simp; done))⟩
      · have hq : r3 = r4 := by rw [hm4, Rd.mark, if_neg (fun hh => h3 hh.1)]
        rw [hq]
        (repeat (first | (simp (disch := first | exact dis1 | fail) only [evA, Nat.reduceBEq, Nat.reduceAdd, Nat.reduceLeDiff, boxR, rboxR, allocR, fldR, binI, unR, pickR, mknilR, mkslR, buildSlR, buildR, extR, convI, eqB, evU, wrap64]) | (with_reducible intro _) | ((with_reducible apply And.intro); omega)))
        exact ⟨(), Ent.keep rfl (by (try simp [subK, Kn.get, beq_eq]) <;> (repeat' with_reducible apply And.intro) <;> first | rfl | omega | (simp; done))⟩
    rintro ⟨⟩ _ wf2
    unfold ac_object_reader_sections_k3
    (repeat (first | (simp (disch := first | exact dis1 | fail) only [evA, Nat.reduceBEq, Nat.reduceAdd, Nat.reduceLeDiff, boxR, rboxR, allocR, fldR, binI, unR, pickR, mknilR, mkslR, buildSlR, buildR, extR, convI, eqB, evU, wrap64]) | (with_reducible intro _) | ((with_reducible apply And.intro); omega)))
    refine draw_det dr_object_reader_sections_1_Ls dr_object_reader_sections_1_A dr_object_reader_sections_1_St dr_object_reader_sections_1_plan [(51, .ptr 1 0 0 0 0), (52, .ptr 1 0 0 0 0), (53, .ptr 1 0 0 0 0), (54, .ptr 0 0 0 0 0), (55, .ptr 1 0 0 0 0), (56, .ptr 1 0 0 0 0), (57, .ptr 1 0 0 0 0), (58, .ptr 0 0 0 0 0), (59, .int .u32 m), (60, encB D), (61, .ptr 5 0 0 0 2)] (hsOf [([(0, .row 3 [r4.cells] 0), (1, .row 5 [[.ptr 0 0 0 0 0, .int .u32 en, .own 2 0 (gS + acc.length) 0 (S ++ acc).length, .own 3 0 gY 0 Y.length, .own 4 0 gR 0 R.length]] 0), (2, .row 5 ((S ++ acc).map Sec.cells) (gS + acc.length)), (3, .row 3 (Y.map Sym.cells) gY), (4, .row 5 (R.map Rel.cells) gR), (5, .row 5 [[AV.str r.text.1, .int .u32 a, .nilsl, .bool (wrP f), .bool (exP f)]] 0)], 6), ([(0, .row 3 [r5.cells] 0), (1, .row 5 [[.ptr 0 0 0 0 0, .int .u32 en, .own 2 0 (gS + acc.length) 0 (S ++ acc).length, .own 3 0 gY 0 Y.length, .own 4 0 gR 0 R.length]] 0), (2, .row 5 ((S ++ acc).map Sec.cells) (gS + acc.length)), (3, .row 3 (Y.map Sym.cells) gY), (4, .row 5 (R.map Rel.cells) gR), (5, .row 5 [[AV.str r.text.1, .int .u32 a, .nilsl, .bool (wrP f), .bool (exP f)]] 0)], 6), ([(0, .row 3 [r6.cells] 0), (1, .row 5 [[.ptr 0 0 0 0 0, .int .u32 en, .own 2 0 (gS + acc.length) 0 (S ++ acc).length, .own 3 0 gY 0 Y.length, .own 4 0 gR 0 R.length]] 0), (2, .row 5 ((S ++ acc).map Sec.cells) (gS + acc.length)), (3, .row 3 (Y.map Sym.cells) gY), (4, .row 5 (R.map Rel.cells) gR), (5, .row 5 [[AV.str r.text.1, .int .u32 a, .nilsl, .bool (wrP f), .bool (exP f)]] 0)], 6), ([(0, .row 3 [r6.cells] 0), (1, .row 5 [[.ptr 0 0 0 0 0, .int .u32 en, .own 2 0 (gS + acc.length) 0 (S ++ acc).length, .own 3 0 gY 0 Y.length, .own 4 0 gR 0 R.length]] 0), (2, .row 5 ((S ++ acc).map Sec.cells) (gS + acc.length)), (3, .row 3 (Y.map Sym.cells) gY), (4, .row 5 (R.map Rel.cells) gR), (5, .row 5 [[AV.str r.text.1, .int .u32 a, encB D, .bool (wrP f), .bool (exP f)]] 0)], 6)]) (by kernel_rfl) (by rfl) (by rfl) (by repeat' first | exact QExt.retK | apply QExt.seq | apply QExt.block | apply QExt.loop | apply QExt.join | assumption) ?plan2 [] (by rfl) ?fin2
    case' plan2 =>
      intro Kf hs hK hH
      have kf51 : Kf.get 51 = .ptr 1 0 0 0 0 := by rw [hK, setAll_look]; rfl
      have kf52 : Kf.get 52 = .ptr 1 0 0 0 0 := by rw [hK, setAll_look]; rfl
      have kf53 : Kf.get 53 = .ptr 1 0 0 0 0 := by rw [hK, setAll_look]; rfl
      have kf54 : Kf.get 54 = .ptr 0 0 0 0 0 := by rw [hK, setAll_look]; rfl
      have kf55 : Kf.get 55 = .ptr 1 0 0 0 0 := by rw [hK, setAll_look]; rfl
      have kf56 : Kf.get 56 = .ptr 1 0 0 0 0 := by rw [hK, setAll_look]; rfl
      have kf57 : Kf.get 57 = .ptr 1 0 0 0 0 := by rw [hK, setAll_look]; rfl
      have kf58 : Kf.get 58 = .ptr 0 0 0 0 0 := by rw [hK, setAll_look]; rfl
      have kf59 : Kf.get 59 = .int .u32 m := by rw [hK, setAll_look]; rfl
      have kf60 : Kf.get 60 = encB D := by rw [hK, setAll_look]; rfl
      have kf61 : Kf.get 61 = .ptr 5 0 0 0 2 := by rw [hK, setAll_look]; rfl
      have kf0 : Kf.get 0 = .ptr 1 0 0 0 0 := by rw [hK, setAll_look]; rfl
      have kf4 : Kf.get 4 = .ptr 5 0 0 0 0 := by rw [hK, setAll_look]; rfl
      simp only [dr_object_reader_sections_1_plan, planP_cons, planP_nil, and_true]
      (repeat' with_reducible apply And.intro)
      all_goals (rw [hH]; simp only [stepC, dr_object_reader_sections_1_ops, List.getD_cons_succ, List.getD_cons_zero, hsOf, hsAt, beqL, beq_eq, Nat.reduceBEq, Bool.and_true, Bool.true_and, Bool.and_false, Bool.false_and, cond_true, cond_false, List.length_cons, List.length_nil, Nat.reduceAdd])
      all_goals try (simp (disch := first | exact dis1 | fail) only [evA, Nat.reduceBEq, Nat.reduceAdd, Nat.reduceLeDiff, boxR, rboxR, allocR, fldR, binI, unR, pickR, mknilR, mkslR, buildSlR, buildR, extR, convI, eqB, evU, wrap64, dstEq_set, dstEq_none, kf51, kf52, kf53, kf54, kf55, kf56, kf57, kf58, kf59, kf60, kf61, kf0, kf4, hel, List.cons_append, List.nil_append]; done)
    case' fin2 => simp only [dr_object_reader_sections_1_Ls, hsOf, hsAt, beqL, beq_eq, Nat.reduceBEq, Bool.and_true, Bool.true_and, Bool.and_false, Bool.false_and, cond_true, cond_false, List.length_cons, List.length_nil, Nat.reduceAdd, List.getD_cons_succ, List.getD_cons_zero, setAll]
    · (repeat (first | (simp (disch := first | exact dis1 | fail) only [evA, Nat.reduceBEq, Nat.reduceAdd, Nat.reduceLeDiff, boxR, rboxR, allocR, fldR, binI, unR, pickR, mknilR, mkslR, buildSlR, buildR, extR, convI, eqB, evU, wrap64]) | (with_reducible intro _) | ((with_reducible apply And.intro); omega)))
      refine draw_det dr_object_reader_sections_2_Ls dr_object_reader_sections_2_A dr_object_reader_sections_2_St dr_object_reader_sections_2_plan [(62, .ptr 1 0 0 0 0), (63, .ptr 1 0 0 0 0), (64, .ptr 1 0 0 0 0), (65, .ptr 1 0 0 0 1), (66, .ptr 1 0 0 0 2), (67, .own 2 0 (gS + acc.length) 0 (S ++ acc).length), (68, .agg [AV.str r.text.1, .int .u32 a, encB D, .bool (wrP f), .bool (exP f)]), (69, .own 6 0 0 0 1), (70, .own 2 0 (gS + acc.length + 1) 0 ((S ++ acc).length + 1)), (71, .ptr 1 0 0 0 0), (72, .ptr 1 0 0 0 1), (73, .ptr 1 0 0 0 2)] (hsOf [([(0, .row 3 [r6.cells] 0), (1, .row 5 [[.ptr 0 0 0 0 0, .int .u32 en, .own 2 0 (gS + acc.length) 0 (S ++ acc).length, .own 3 0 gY 0 Y.length, .own 4 0 gR 0 R.length]] 0), (2, .row 5 ((S ++ acc).map Sec.cells) (gS + acc.length)), (3, .row 3 (Y.map Sym.cells) gY), (4, .row 5 (R.map Rel.cells) gR), (5, .row 5 [[AV.str r.text.1, .int .u32 a, encB D, .bool (wrP f), .bool (exP f)]] 0)], 6), ([(0, .row 3 [r6.cells] 0), (1, .row 5 [[.ptr 0 0 0 0 0, .int .u32 en, .own 2 0 (gS + acc.length) 0 (S ++ acc).length, .own 3 0 gY 0 Y.length, .own 4 0 gR 0 R.length]] 0), (2, .row 5 ((S ++ acc).map Sec.cells) (gS + acc.length)), (3, .row 3 (Y.map Sym.cells) gY), (4, .row 5 (R.map Rel.cells) gR), (5, .row 5 [[AV.str r.text.1, .int .u32 a, encB D, .bool (wrP f), .bool (exP f)]] 0), (6, .row 5 [[AV.str r.text.1, .int .u32 a, encB D, .bool (wrP f), .bool (exP f)]] 0)], 7), ([(0, .row 3 [r6.cells] 0), (1, .row 5 [[.ptr 0 0 0 0 0, .int .u32 en, .own 2 0 (gS + acc.length) 0 (S ++ acc).length, .own 3 0 gY 0 Y.length, .own 4 0 gR 0 R.length]] 0), (2, .row 5 ((S ++ acc).map Sec.cells ++ [[AV.str r.text.1, .int .u32 a, encB D, .bool (wrP f), .bool (exP f)]]) (gS + acc.length + 1)), (3, .row 3 (Y.map Sym.cells) gY), (4, .row 5 (R.map Rel.cells) gR), (5, .row 5 [[AV.str r.text.1, .int .u32 a, encB D, .bool (wrP f), .bool (exP f)]] 0), (6, .row 5 [[AV.str r.text.1, .int .u32 a, encB D, .bool (wrP f), .bool (exP f)]] 0)], 7), ([(0, .row 3 [r6.cells] 0), (1, .row 5 [[.ptr 0 0 0 0 0, .int .u32 en, .own 2 0 (gS + acc.length + 1) 0 ((S ++ acc).length + 1), .own 3 0 gY 0 Y.length, .own 4 0 gR 0 R.length]] 0), (2, .row 5 ((S ++ acc).map Sec.cells ++ [[AV.str r.text.1, .int .u32 a, encB D, .bool (wrP f), .bool (exP f)]]) (gS + acc.length + 1)), (3, .row 3 (Y.map Sym.cells) gY), (4, .row 5 (R.map Rel.cells) gR), (5, .row 5 [[AV.str r.text.1, .int .u32 a, encB D, .bool (wrP f), .bool (exP f)]] 0), (6, .row 5 [[AV.str r.text.1, .int .u32 a, encB D, .bool (wrP f), .bool (exP f)]] 0)], 7)]) (by kernel_rfl) (by rfl) (by rfl) (by repeat' first | exact QExt.retK | apply QExt.seq | apply QExt.block | apply QExt.loop | apply QExt.join | assumption) ?plan3 [] (by rfl) ?fin3
      case' plan3 =>
        intro Kf hs hK hH
        have kf62 : Kf.get 62 = .ptr 1 0 0 0 0 := by rw [hK, setAll_look]; rfl
        have kf63 : Kf.get 63 = .ptr 1 0 0 0 0 := by rw [hK, setAll_look]; rfl
        have kf64 : Kf.get 64 = .ptr 1 0 0 0 0 := by rw [hK, setAll_look]; rfl
        have kf65 : Kf.get 65 = .ptr 1 0 0 0 1 := by rw [hK, setAll_look]; rfl
        have kf66 : Kf.get 66 = .ptr 1 0 0 0 2 := by rw [hK, setAll_look]; rfl
        have kf67 : Kf.get 67 = .own 2 0 (gS + acc.length) 0 (S ++ acc).length := by rw [hK, setAll_look]; rfl
        have kf68 : Kf.get 68 = .agg [AV.str r.text.1, .int .u32 a, encB D, .bool (wrP f), .bool (exP f)] := by rw [hK, setAll_look]; rfl
        have kf69 : Kf.get 69 = .own 6 0 0 0 1 := by rw [hK, setAll_look]; rfl
        have kf70 : Kf.get 70 = .own 2 0 (gS + acc.length + 1) 0 ((S ++ acc).length + 1) := by rw [hK, setAll_look]; rfl
        have kf71 : Kf.get 71 = .ptr 1 0 0 0 0 := by rw [hK, setAll_look]; rfl
        have kf72 : Kf.get 72 = .ptr 1 0 0 0 1 := by rw [hK, setAll_look]; rfl
        have kf73 : Kf.get 73 = .ptr 1 0 0 0 2 := by rw [hK, setAll_look]; rfl
        have kf0 : Kf.get 0 = .ptr 1 0 0 0 0 := by rw [hK, setAll_look]; rfl
        have kf4 : Kf.get 4 = .ptr 5 0 0 0 0 := by rw [hK, setAll_look]; rfl
        simp only [dr_object_reader_sections_2_plan, planP_cons, planP_nil, and_true]
        (repeat' with_reducible apply And.intro)
        all_goals (rw [hH]; simp only [stepC, dr_object_reader_sections_2_ops, List.getD_cons_succ, List.getD_cons_zero, hsOf, hsAt, beqL, beq_eq, Nat.reduceBEq, Bool.and_true, Bool.true_and, Bool.and_false, Bool.false_and, cond_true, cond_false, List.length_cons, List.length_nil, Nat.reduceAdd])
        all_goals try (simp (disch := first | exact dis1 | fail) only [evA, Nat.reduceBEq, Nat.reduceAdd, Nat.reduceLeDiff, boxR, rboxR, allocR, fldR, binI, unR, pickR, mknilR, mkslR, buildSlR, buildR, extR, convI, eqB, evU, wrap64, dstEq_set, dstEq_none, kf62, kf63, kf64, kf65, kf66, kf67, kf68, kf69, kf70, kf71, kf72, kf73, kf0, kf4, hel, List.cons_append, List.nil_append]; done)
      case' fin3 => simp only [dr_object_reader_sections_2_Ls, hsOf, hsAt, beqL, beq_eq, Nat.reduceBEq, Bool.and_true, Bool.true_and, Bool.and_false, Bool.false_and, cond_true, cond_false, List.length_cons, List.length_nil, Nat.reduceAdd, List.getD_cons_succ, List.getD_cons_zero, setAll]
      · have hkw : IntKind.u32.wrap (((k + 1 : Nat) : Int) - 1) = (k : Int) := by rw [wrapU32 (by omega) (by omega)]; omega
        have hY' : (S ++ (acc ++ [(⟨r.text.1, UInt32.ofNat a, D, wrP f, exP f⟩ : Sec)])).map Sec.cells = (S ++ acc).map Sec.cells ++ [[AV.str r.text.1, .int .u32 a, encB D, .bool (wrP f), .bool (exP f)]] := by
          rw [← List.append_assoc, List.map_append]
          simp only [List.map_cons, List.map_nil, Sec.cells, UInt32.toNat_ofNat_of_lt' (show a < UInt32.size from ha)]
        have hL : (S ++ (acc ++ [(⟨r.text.1, UInt32.ofNat a, D, wrP f, exP f⟩ : Sec)])).length = (S ++ acc).length + 1 := by rw [← List.append_assoc, List.length_append]; rfl
        have hg : gS + (acc ++ [(⟨r.text.1, UInt32.ofNat a, D, wrP f, exP f⟩ : Sec)]).length = gS + acc.length + 1 := by rw [List.length_append, List.length_singleton]; omega
        (repeat (first | (simp (disch := first | exact dis1 | fail) only [evA, Nat.reduceBEq, Nat.reduceAdd, Nat.reduceLeDiff, boxR, rboxR, allocR, fldR, binI, unR, pickR, mknilR, mkslR, buildSlR, buildR, extR, convI, eqB, evU, wrap64, hkw]) | (with_reducible intro _) | ((with_reducible apply And.intro); omega)))
        refine ⟨(k, r6, acc ++ [(⟨r.text.1, UInt32.ofNat a, D, wrP f, exP f⟩ : Sec)]), ⟨by simp only [List.length_append, List.length_singleton]; omega, hf6, by simpa using hs⟩, Nat.lt_succ_self k, ?_⟩
        simp only [hY', hL, hg]
        exact (Ent.tabB [(0, 0, 0), (1, 1, 0), (2, 2, 0), (3, 3, 0), (4, 4, 0)] [] rfl rfl rfl (by (try simp only [evWA, Nat.reduceBEq, Nat.reduceAdd, Nat.reduceSub, Nat.reduceLeDiff, Nat.reduceLT, implies_true, and_self, Int.natCast_zero, Int.natCast_one, Int.cast_ofNat_Int, evV, encInts, encNats, encBools, encP]) <;> exact fin2) (by (try simp only [evWA, Nat.reduceBEq, Nat.reduceAdd, Nat.reduceSub, Nat.reduceLeDiff, Nat.reduceLT, implies_true, and_self, Int.natCast_zero, Int.natCast_one, Int.cast_ofNat_Int, evV, encInts, encNats, encBools, encP]) <;> exact fin2))
      · (repeat (first | (simp (disch := first | exact dis1 | fail) only [evA, Nat.reduceBEq, Nat.reduceAdd, Nat.reduceLeDiff, boxR, rboxR, allocR, fldR, binI, unR, pickR, mknilR, mkslR, buildSlR, buildR, extR, convI, eqB, evU, wrap64, kf67, kf69, kf70, dstEq_set, List.cons_append, List.nil_append]) | (with_reducible intro _) | ((with_reducible apply And.intro); omega)))
        omega
    · (repeat (first | (simp (disch := first | exact dis1 | fail) only [evA, Nat.reduceBEq, Nat.reduceAdd, Nat.reduceLeDiff, boxR, rboxR, allocR, fldR, binI, unR, pickR, mknilR, mkslR, buildSlR, buildR, extR, convI, eqB, evU, wrap64, kf58]) | (with_reducible intro _) | ((with_reducible apply And.intro); omega)))
      refine call_lows 6 rfl ?_; refine call_own [(0, 0, 0)] 1 _ (k4) rfl rfl (by (try simp only [evWA, Nat.reduceBEq, Nat.reduceAdd, Nat.reduceSub, Nat.reduceLeDiff, Nat.reduceLT, implies_true, and_self, Int.natCast_zero, Int.natCast_one, Int.cast_ofNat_Int, evV, encInts, encNats, encBools, encP, Rd.cells, encB]) <;> exact fin1) (by (try simp only [evWA, Nat.reduceBEq, Nat.reduceAdd, Nat.reduceSub, Nat.reduceLeDiff, Nat.reduceLT, implies_true, and_self, Int.natCast_zero, Int.natCast_one, Int.cast_ofNat_Int, evV, encInts, encNats, encBools, encP, Rd.cells, encB]) <;> exact fin1) ?_
      rintro v' H' nx' ⟨rfl, rfl, rfl⟩
      (repeat (first | (simp (disch := first | exact dis1 | fail) only [evA, Nat.reduceBEq, Nat.reduceAdd, Nat.reduceLeDiff, boxR, rboxR, allocR, fldR, binI, unR, pickR, mknilR, mkslR, buildSlR, buildR, extR, convI, eqB, evU, wrap64, Rd.ren, encB_ren]) | (with_reducible intro _) | ((with_reducible apply And.intro); omega)))
      ((repeat (first | (simp (disch := first | exact dis1 | fail) only [evA, Nat.reduceBEq, Nat.reduceAdd, Nat.reduceLeDiff, boxR, rboxR, allocR, fldR, binI, unR, pickR, mknilR, mkslR, buildSlR, buildR, extR, convI, eqB, evU, wrap64, dstEq_set, dstEq_none, rowsLt, elsLt_cons, AV.lt1, AV.lt0, AH.sort, AH.ins, Nat.reduceEqDiff, Nat.reduceLT, if_true, if_false, reduceIte, and_true, true_and, kf59]) | (with_reducible intro _) | ((with_reducible apply And.intro); omega))); try ((repeat' with_reducible apply And.intro) <;> first | rfl | omega | exact elsLt_nil | exact elsLt_map (fun _ => rfl)))
    · (repeat (first | (simp (disch := first | exact dis1 | fail) only [evA, Nat.reduceBEq, Nat.reduceAdd, Nat.reduceLeDiff, boxR, rboxR, allocR, fldR, binI, unR, pickR, mknilR, mkslR, buildSlR, buildR, extR, convI, eqB, evU, wrap64, kf54, kf59]) | (with_reducible intro _) | ((with_reducible apply And.intro); omega)))
      refine call_lows 6 rfl ?_; refine call_own [(0, 0, 0)] 1 _ (k5) rfl rfl (by (try simp only [evWA, Nat.reduceBEq, Nat.reduceAdd, Nat.reduceSub, Nat.reduceLeDiff, Nat.reduceLT, implies_true, and_self, Int.natCast_zero, Int.natCast_one, Int.cast_ofNat_Int, evV, encInts, encNats, encBools, encP, Rd.cells, encB]) <;> exact fin1) (by (try simp only [evWA, Nat.reduceBEq, Nat.reduceAdd, Nat.reduceSub, Nat.reduceLeDiff, Nat.reduceLT, implies_true, and_self, Int.natCast_zero, Int.natCast_one, Int.cast_ofNat_Int, evV, encInts, encNats, encBools, encP, Rd.cells, encB]) <;> exact fin1) ?_
      rintro v' H' nx' ⟨rfl, rfl, rfl⟩
      (repeat (first | (simp (disch := first | exact dis1 | fail) only [evA, Nat.reduceBEq, Nat.reduceAdd, Nat.reduceLeDiff, boxR, rboxR, allocR, fldR, binI, unR, pickR, mknilR, mkslR, buildSlR, buildR, extR, convI, eqB, evU, wrap64, Rd.ren, encB_ren]) | (with_reducible intro _) | ((with_reducible apply And.intro); omega)))
      ((repeat (first | (simp (disch := first | exact dis1 | fail) only [evA, Nat.reduceBEq, Nat.reduceAdd, Nat.reduceLeDiff, boxR, rboxR, allocR, fldR, binI, unR, pickR, mknilR, mkslR, buildSlR, buildR, extR, convI, eqB, evU, wrap64, dstEq_set, dstEq_none, rowsLt, elsLt_cons, AV.lt1, AV.lt0, AH.sort, AH.ins, Nat.reduceEqDiff, Nat.reduceLT, if_true, if_false, reduceIte, and_true, true_and, kf60]) | (with_reducible intro _) | ((with_reducible apply And.intro); omega))); try ((repeat' with_reducible apply And.intro) <;> first | rfl | omega | exact elsLt_nil | exact elsLt_map (fun _ => rfl)))
    · (repeat (first | (simp (disch := first | exact dis1 | fail) only [evA, Nat.reduceBEq, Nat.reduceAdd, Nat.reduceLeDiff, boxR, rboxR, allocR, fldR, binI, unR, pickR, mknilR, mkslR, buildSlR, buildR, extR, convI, eqB, evU, wrap64, kf60, kf61, encB_solid, encB_cells, dstEq_none]) | (with_reducible intro _) | ((with_reducible apply And.intro); omega)))
  · (repeat (first | (simp (disch := first | exact dis1 | fail) only [evA, Nat.reduceBEq, Nat.reduceAdd, Nat.reduceLeDiff, boxR, rboxR, allocR, fldR, binI, unR, pickR, mknilR, mkslR, buildSlR, buildR, extR, convI, eqB, evU, wrap64, kf23]) | (with_reducible intro _) | ((with_reducible apply And.intro); omega)))
    refine call_lows 5 rfl ?_; refine call_own [(0, 0, 0)] 1 _ (k1) rfl rfl (by (try simp only [evWA, Nat.reduceBEq, Nat.reduceAdd, Nat.reduceSub, Nat.reduceLeDiff, Nat.reduceLT, implies_true, and_self, Int.natCast_zero, Int.natCast_one, Int.cast_ofNat_Int, evV, encInts, encNats, encBools, encP, Rd.cells, encB]) <;> exact fin1) (by (try simp only [evWA, Nat.reduceBEq, Nat.reduceAdd, Nat.reduceSub, Nat.reduceLeDiff, Nat.reduceLT, implies_true, and_self, Int.natCast_zero, Int.natCast_one, Int.cast_ofNat_Int, evV, encInts, encNats, encBools, encP, Rd.cells, encB]) <;> exact fin1) ?_
    rintro v' H' nx' ⟨rfl, rfl, rfl⟩
    (repeat (first | (simp (disch := first | exact dis1 | fail) only [evA, Nat.reduceBEq, Nat.reduceAdd, Nat.reduceLeDiff, boxR, rboxR, allocR, fldR, binI, unR, pickR, mknilR, mkslR, buildSlR, buildR, extR, convI, eqB, evU, wrap64, Rd.ren, encB_ren]) | (with_reducible intro _) | ((with_reducible apply And.intro); omega)))
    ((repeat (first | (simp (disch := first | exact dis1 | fail) only [evA, Nat.reduceBEq, Nat.reduceAdd, Nat.reduceLeDiff, boxR, rboxR, allocR, fldR, binI, unR, pickR, mknilR, mkslR, buildSlR, buildR, extR, convI, eqB, evU, wrap64, dstEq_set, dstEq_none, rowsLt, elsLt_cons, AV.lt1, AV.lt0, AH.sort, AH.ins, Nat.reduceEqDiff, Nat.reduceLT, if_true, if_false, reduceIte, and_true, true_and, kf24]) | (with_reducible intro _) | ((with_reducible apply And.intro); omega))); try ((repeat' with_reducible apply And.intro) <;> first | rfl | omega | exact elsLt_nil | exact elsLt_map (fun _ => rfl)))
  · (repeat (first | (simp (disch := first | exact dis1 | fail) only [evA, Nat.reduceBEq, Nat.reduceAdd, Nat.reduceLeDiff, boxR, rboxR, allocR, fldR, binI, unR, pickR, mknilR, mkslR, buildSlR, buildR, extR, convI, eqB, evU, wrap64, kf23]) | (with_reducible intro _) | ((with_reducible apply And.intro); omega)))
    refine call_lows 6 rfl ?_; refine call_own [(0, 0, 0)] 1 _ (k1) rfl rfl (by (try simp only [evWA, Nat.reduceBEq, Nat.reduceAdd, Nat.reduceSub, Nat.reduceLeDiff, Nat.reduceLT, implies_true, and_self, Int.natCast_zero, Int.natCast_one, Int.cast_ofNat_Int, evV, encInts, encNats, encBools, encP, Rd.cells, encB]) <;> exact fin1) (by (try simp only [evWA, Nat.reduceBEq, Nat.reduceAdd, Nat.reduceSub, Nat.reduceLeDiff, Nat.reduceLT, implies_true, and_self, Int.natCast_zero, Int.natCast_one, Int.cast_ofNat_Int, evV, encInts, encNats, encBools, encP, Rd.cells, encB]) <;> exact fin1) ?_
    rintro v' H' nx' ⟨rfl, rfl, rfl⟩
    (repeat (first | (simp (disch := first | exact dis1 | fail) only [evA, Nat.reduceBEq, Nat.reduceAdd, Nat.reduceLeDiff, boxR, rboxR, allocR, fldR, binI, unR, pickR, mknilR, mkslR, buildSlR, buildR, extR, convI, eqB, evU, wrap64, Rd.ren, encB_ren]) | (with_reducible intro _) | ((with_reducible apply And.intro); omega)))
    ((repeat (first | (simp (disch := first | exact dis1 | fail) only [evA, Nat.reduceBEq, Nat.reduceAdd, Nat.reduceLeDiff, boxR, rboxR, allocR, fldR, binI, unR, pickR, mknilR, mkslR, buildSlR, buildR, extR, convI, eqB, evU, wrap64, dstEq_set, dstEq_none, rowsLt, elsLt_cons, AV.lt1, AV.lt0, AH.sort, AH.ins, Nat.reduceEqDiff, Nat.reduceLT, if_true, if_false, reduceIte, and_true, true_and, kf24]) | (with_reducible intro _) | ((with_reducible apply And.intro); omega))); try ((repeat' with_reducible apply And.intro) <;> first | rfl | omega | exact elsLt_nil | exact elsLt_map (fun _ => rfl)))
  · (repeat (first | (simp (disch := first | exact dis1 | fail) only [evA, Nat.reduceBEq, Nat.reduceAdd, Nat.reduceLeDiff, boxR, rboxR, allocR, fldR, binI, unR, pickR, mknilR, mkslR, buildSlR, buildR, extR, convI, eqB, evU, wrap64, kf28]) | (with_reducible intro _) | ((with_reducible apply And.intro); omega)))
    refine call_lows 5 rfl ?_; refine call_own [(0, 0, 0)] 1 _ (k2) rfl rfl (by (try simp only [evWA, Nat.reduceBEq, Nat.reduceAdd, Nat.reduceSub, Nat.reduceLeDiff, Nat.reduceLT, implies_true, and_self, Int.natCast_zero, Int.natCast_one, Int.cast_ofNat_Int, evV, encInts, encNats, encBools, encP, Rd.cells, encB]) <;> exact fin1) (by (try simp only [evWA, Nat.reduceBEq, Nat.reduceAdd, Nat.reduceSub, Nat.reduceLeDiff, Nat.reduceLT, implies_true, and_self, Int.natCast_zero, Int.natCast_one, Int.cast_ofNat_Int, evV, encInts, encNats, encBools, encP, Rd.cells, encB]) <;> exact fin1) ?_
    rintro v' H' nx' ⟨rfl, rfl, rfl⟩
    (repeat (first | (simp (disch := first | exact dis1 | fail) only [evA, Nat.reduceBEq, Nat.reduceAdd, Nat.reduceLeDiff, boxR, rboxR, allocR, fldR, binI, unR, pickR, mknilR, mkslR, buildSlR, buildR, extR, convI, eqB, evU, wrap64, Rd.ren, encB_ren]) | (with_reducible intro _) | ((with_reducible apply And.intro); omega)))
    ((repeat (first | (simp (disch := first | exact dis1 | fail) only [evA, Nat.reduceBEq, Nat.reduceAdd, Nat.reduceLeDiff, boxR, rboxR, allocR, fldR, binI, unR, pickR, mknilR, mkslR, buildSlR, buildR, extR, convI, eqB, evU, wrap64, dstEq_set, dstEq_none, rowsLt, elsLt_cons, AV.lt1, AV.lt0, AH.sort, AH.ins, Nat.reduceEqDiff, Nat.reduceLT, if_true, if_false, reduceIte, and_true, true_and, kf29]) | (with_reducible intro _) | ((with_reducible apply And.intro); omega))); try ((repeat' with_reducible apply And.intro) <;> first | rfl | omega | exact elsLt_nil | exact elsLt_map (fun _ => rfl)))
  · (repeat (first | (simp (disch := first | exact dis1 | fail) only [evA, Nat.reduceBEq, Nat.reduceAdd, Nat.reduceLeDiff, boxR, rboxR, allocR, fldR, binI, unR, pickR, mknilR, mkslR, buildSlR, buildR, extR, convI, eqB, evU, wrap64, kf28]) | (with_reducible intro _) | ((with_reducible apply And.intro); omega)))
    refine call_lows 6 rfl ?_; refine call_own [(0, 0, 0)] 1 _ (k2) rfl rfl (by (try simp only [evWA, Nat.reduceBEq, Nat.reduceAdd, Nat.reduceSub, Nat.reduceLeDiff, Nat.reduceLT, implies_true, and_self, Int.natCast_zero, Int.natCast_one, Int.cast_ofNat_Int, evV, encInts, encNats, encBools, encP, Rd.cells, encB]) <;> exact fin1) (by (try simp only [evWA, Nat.reduceBEq, Nat.reduceAdd, Nat.reduceSub, Nat.reduceLeDiff, Nat.reduceLT, implies_true, and_self, Int.natCast_zero, Int.natCast_one, Int.cast_ofNat_Int, evV, encInts, encNats, encBools, encP, Rd.cells, encB]) <;> exact fin1) ?_
    rintro v' H' nx' ⟨rfl, rfl, rfl⟩
    (repeat (first | (simp (disch := first | exact dis1 | fail) only [evA, Nat.reduceBEq, Nat.reduceAdd, Nat.reduceLeDiff, boxR, rboxR, allocR, fldR, binI, unR, pickR, mknilR, mkslR, buildSlR, buildR, extR, convI, eqB, evU, wrap64, Rd.ren, encB_ren]) | (with_reducible intro _) | ((with_reducible apply And.intro); omega)))
    ((repeat (first | (simp (disch := first | exact dis1 | fail) only [evA, Nat.reduceBEq, Nat.reduceAdd, Nat.reduceLeDiff, boxR, rboxR, allocR, fldR, binI, unR, pickR, mknilR, mkslR, buildSlR, buildR, extR, convI, eqB, evU, wrap64, dstEq_set, dstEq_none, rowsLt, elsLt_cons, AV.lt1, AV.lt0, AH.sort, AH.ins, Nat.reduceEqDiff, Nat.reduceLT, if_true, if_false, reduceIte, and_true, true_and, kf29]) | (with_reducible intro _) | ((with_reducible apply And.intro); omega))); try ((repeat' with_reducible apply And.intro) <;> first | rfl | omega | exact elsLt_nil | exact elsLt_map (fun _ => rfl)))


end Go.Ab
