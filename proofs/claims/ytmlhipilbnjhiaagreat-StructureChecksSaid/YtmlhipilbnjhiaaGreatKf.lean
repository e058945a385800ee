/-
  Part 6 of the proof: how the calls of this program run, over values instead of memory, and what each function computes.
-/
import Derived.Test.YtmlhipilbnjhiaaGreatRows
import Derived.WalkKit
import Derived.OpenShut
import Derived.ShutString
import Derived.ChangeOld
import Derived.Below
import Derived.Test.YtmlhipilbnjhiaaGreatProg
import Derived.KernelRfl
import Derived.Test.YtmlhipilbnjhiaaGreatKe
set_option maxRecDepth 100000
set_option linter.unusedVariables false
set_option linter.unusedSimpArgs false
set_option linter.unnecessarySimpa false
set_option linter.unusedSectionVars false

namespace Go.Ab
open Go.RowKit
inductive Ex where
  | mk (op n var width : Int) (l : List Ex)
structure NdF where
  kind : Int
  block : Int
  label : Int
inductive Nd where
  | mk (f : NdF) (cond : List Ex) (l : List Nd)
def Ex.l : Ex → List Ex
  | .mk _ _ _ _ l => l
def Nd.f : Nd → NdF
  | .mk f _ _ => f
mutual
def encX : Ex → List AV
  | .mk op n v w l => [.int .i64 op, .int .u32 n, .int .i64 v, .int .i64 w, .sl 5 l.length (fun i j => ((zwt l).getD i []).getD j .undef)]
def zwt : List Ex → List (List AV)
  | [] => []
  | e :: l => encX e :: zwt l
end
theorem zrH : ∀ l : List Ex, zwt l = l.map encX
  | [] => by rw [zwt]; rfl
  | e :: l => by rw [zwt, zrH l]; rfl
theorem zhg (op n v w : Int) (l : List Ex) : encX (.mk op n v w l) = [.int .i64 op, .int .u32 n, .int .i64 v, .int .i64 w, encL 5 encX l] := by
  rw [encX, zrH]
  rfl
mutual
def encN : Nd → List AV
  | .mk f c l => [.int .i64 f.kind, .int .i64 f.block, .int .i64 f.label, encL 5 encX c, .sl 5 l.length (fun i j => ((zxU l).getD i []).getD j .undef)]
def zxU : List Nd → List (List AV)
  | [] => []
  | e :: l => encN e :: zxU l
end
theorem zqr : ∀ l : List Nd, zxU l = l.map encN
  | [] => by rw [zxU]; rfl
  | e :: l => by rw [zxU, zqr l]; rfl
theorem zci (f : NdF) (c : List Ex) (l : List Nd) : encN (.mk f c l) = [.int .i64 f.kind, .int .i64 f.block, .int .i64 f.label, encL 5 encX c, encL 5 encN l] := by
  rw [encN, zqr]
  rfl
mutual
def zjH : Ex → Int → Int → Int
  | .mk _ _ _ _ l, most, left => if most < 1 ∨ left < 1 ∨ 4 < l.length then -1 else zdX l (most - 1) (left - 1)
def zdX : List Ex → Int → Int → Int
  | [], _, n => n
  | e :: l, most, n => if n < 0 then n else zdX l most (zjH e most n)
end
def zeT : List Ex → Bool
  | [] => true
  | e :: l => if zjH e 70 200 < 0 then false else zeT l
mutual
def zdc : Nd → Int → Int
  | .mk _ c l, left => if 3 < c.length ∨ zeT c = false then -1 else zbn l (left - 1)
def zbn : List Nd → Int → Int
  | [], n => n
  | e :: l, n => if n < 0 then n else zbn l (zdc e n)
end
mutual
def allN : Nd → List Nd
  | .mk f c l => .mk f c l :: zeD l
def zeD : List Nd → List Nd
  | [] => []
  | e :: l => allN e ++ zeD l
end
mutual
def zbZ : Nd → Nat
  | .mk _ _ l => 1 + zbW l
def zbW : List Nd → Nat
  | [] => 0
  | e :: l => zbZ e + zbW l
end
mutual
theorem znP : ∀ (n : Nd) (left : Int), 0 ≤ zdc n left → (zbZ n : Int) + zdc n left ≤ left
  | .mk f c l, left, h => by
    rw [zdc] at h ⊢
    split at h
    · omega
    · rename_i hc
      rw [if_neg hc]
      have := zmm l (left - 1) h
      rw [zbZ]
      omega
theorem zmm : ∀ (l : List Nd) (left : Int), 0 ≤ zbn l left → (zbW l : Int) + zbn l left ≤ left
  | [], left, h => by
    rw [zbn, zbW]
    omega
  | e :: l, left, h => by
    rw [zbn] at h ⊢
    split at h
    · omega
    · rename_i hn
      rw [if_neg hn]
      have h2 := zmm l _ h
      have h3 : 0 ≤ zdc e left := by
        apply Classical.byContradiction
        intro hc
        have hlt : zdc e left < 0 := by omega
        have : zbn l (zdc e left) = zdc e left := by
          cases l with
          | nil => rw [zbn]
          | cons a l => rw [zbn, if_pos hlt]
        omega
      have h1 := znP e left h3
      rw [zbW]
      omega
end
mutual
theorem znj : ∀ n : Nd, (allN n).length = zbZ n
  | .mk f c l => by rw [allN, zbZ, List.length_cons, zq9 l]; omega
theorem zq9 : ∀ l : List Nd, (zeD l).length = zbW l
  | [] => by rw [zeD, zbW]; rfl
  | e :: l => by rw [zeD, zbW, List.length_append, znj e, zq9 l]
end
end Go.Ab
namespace Go.Ab
open Go.RowKit Go.Proofs Go.Proofs.YtmlhipilbnjhiaaGreat
section
variable {HH : Type} {enc : TypeId × Value → HH} {w : World} {base : Nat} {spare : Nat → Bool} {held : Bool} {L : Nat → Prop} (hL : ∀ b, ¬ L b)
include hL
theorem zlI {P : Program} {α : Type} {cells : α → List AV} {t e : TypeId} {sz : Nat} {fuel : Nat} (ht : P.underlying t = some (.slice e)) (hs : P.cellsOf e = sz)
    (hel : ∀ fuel', fuel' < fuel → ∀ cs y, DataW.trod enc P w base spare held fuel' e cs = some y → cs.length = sz → ∃ x : α, ElOk w L cs (cells x)) {cs : List Value} {y : DataW HH × List MemPlace}
    (h : DataW.trod enc P w base spare held fuel t cs = some y) : ∃ (l : List α) (v : Value), cs = [v] ∧ v.oneCell' = true ∧ ∀ ι, VR w L ι v (encL sz cells l) := by
  rcases DataW.trod_slice ht h with ⟨rfl, rfl⟩ | ⟨a, len, cap, elems, rest, n, rfl, rfl, rfl, hb, hl, hc, he, hi, _, _⟩
  · exact ⟨[], _, rfl, rfl, fun ι => .sl0 _ _ _⟩
  · rw [hs] at hi
    have key : ∀ i : Fin len, ∃ p : α × List Value, p.2.length = sz ∧ (∀ j, j < sz → w.cell? ((a.add (i.1 * sz)).add j) = some (p.2.getD j undef)) ∧ ElOk w L p.2 (cells p.1) := by
      intro i
      have h1 := hi i.1 i.2
      rw [List.getElem?_eq_getElem (by omega), Option.bind_eq_some_iff] at h1
      obtain ⟨cs', h2, h3⟩ := h1
      obtain ⟨h4, h5⟩ := zqU h2
      obtain ⟨x, hx⟩ := hel _ (Nat.lt_succ_self _) _ _ h3 h4
      exact ⟨(x, cs'), h4, h5, hx⟩
    obtain ⟨F, hF⟩ := Classical.axiomOfChoice key
    refine ⟨List.ofFn fun i => (F i).1, _, rfl, rfl, fun ι => ?_⟩
    have hlen : (List.ofFn fun i => (F i).1).length = len := List.length_ofFn
    unfold encL
    rw [hlen]
    refine .sl ι a sz len cap _ (fun i j => if hi : i < len then (F ⟨i, hi⟩).2.getD j undef else undef) hl (by unfold maxLen at hc; unfold big; omega) (fun i j hi hj => ?_) (fun _ => hL _) (fun i j hi hj => ?_)
    · obtain ⟨h1, h2, h3⟩ := hF ⟨i, hi⟩
      rw [dif_pos hi]
      exact ⟨h2 j hj, (h3 j (by omega)).2⟩
    · obtain ⟨h1, h2, h3⟩ := hF ⟨i, hi⟩
      rw [dif_pos hi]
      have e : ((List.ofFn fun i => (F i).1).map cells).getD i [] = cells (F ⟨i, hi⟩).1 := by
        rw [zeb (a := (F ⟨i, hi⟩).1)]
        rw [List.getElem?_eq_getElem (by rw [hlen]; exact hi), List.getElem_ofFn]
      rw [e]
      exact (h3 j (by omega)).1
theorem zxn : ∀ (k fuel : Nat), fuel ≤ k → ∀ (cs : List Value) (y : DataW HH × List MemPlace), DataW.trod enc Tryz.prog w base spare held fuel 60 cs = some y → ∃ e : Ex, ElOk w L cs (encX e) := by
  intro k
  induction k with
  | zero =>
    intro fuel hk cs y h
    obtain ⟨xs, n, h0, _⟩ := DataW.trod_struct Tryz.underlying60 h
    omega
  | succ k ih =>
  intro fuel hk cs y h
  obtain ⟨xs, n, rfl, rfl, hlen, hxs, hf⟩ := DataW.trod_struct Tryz.underlying60 h
  have hc : Tryz.prog.cellsOf 60 = 5 := by kernel_rfl
  have hc3 : Tryz.prog.cellsOf 3 = 1 := by kernel_rfl
  have hc22 : Tryz.prog.cellsOf 22 = 1 := by kernel_rfl
  have hc28 : Tryz.prog.cellsOf 28 = 1 := by kernel_rfl
  rw [hc] at hlen
  have hget : ∀ i, i < 5 → xs[i]? = some (xs.getD i (.nil, [])) := fun i hi => by
    rw [List.getD_eq_getElem?_getD, List.getElem?_eq_getElem (by rw [hxs]; exact hi)]
    rfl
  match cs, hlen with
  | [c0, c1, c2, c3, c4], _ =>
    have f0 : DataW.trod enc Tryz.prog w base spare held n 3 (([c0, c1, c2, c3, c4].drop 0).take (Tryz.prog.cellsOf 3)) = some (xs.getD 0 (.nil, [])) := (hf 0 _ rfl).trans (hget 0 (by decide))
    rw [hc3] at f0
    replace f0 : DataW.trod enc Tryz.prog w base spare held n 3 [c0] = some (xs.getD 0 (.nil, [])) := f0
    have f1 : DataW.trod enc Tryz.prog w base spare held n 22 (([c0, c1, c2, c3, c4].drop 1).take (Tryz.prog.cellsOf 22)) = some (xs.getD 1 (.nil, [])) := (hf 1 _ rfl).trans (hget 1 (by decide))
    rw [hc22] at f1
    replace f1 : DataW.trod enc Tryz.prog w base spare held n 22 [c1] = some (xs.getD 1 (.nil, [])) := f1
    have f2 : DataW.trod enc Tryz.prog w base spare held n 3 (([c0, c1, c2, c3, c4].drop 2).take (Tryz.prog.cellsOf 3)) = some (xs.getD 2 (.nil, [])) := (hf 2 _ rfl).trans (hget 2 (by decide))
    rw [hc3] at f2
    replace f2 : DataW.trod enc Tryz.prog w base spare held n 3 [c2] = some (xs.getD 2 (.nil, [])) := f2
    have f3 : DataW.trod enc Tryz.prog w base spare held n 3 (([c0, c1, c2, c3, c4].drop 3).take (Tryz.prog.cellsOf 3)) = some (xs.getD 3 (.nil, [])) := (hf 3 _ rfl).trans (hget 3 (by decide))
    rw [hc3] at f3
    replace f3 : DataW.trod enc Tryz.prog w base spare held n 3 [c3] = some (xs.getD 3 (.nil, [])) := f3
    have f4 : DataW.trod enc Tryz.prog w base spare held n 28 (([c0, c1, c2, c3, c4].drop 4).take (Tryz.prog.cellsOf 28)) = some (xs.getD 4 (.nil, [])) := (hf 4 _ rfl).trans (hget 4 (by decide))
    rw [hc28] at f4
    replace f4 : DataW.trod enc Tryz.prog w base spare held n 28 [c4] = some (xs.getD 4 (.nil, [])) := f4
    obtain ⟨n0, h0, w0⟩ := zfH Tryz.underlying3 f0
    obtain ⟨n1, h1, w1⟩ := zfH Tryz.underlying22 f1
    obtain ⟨n2, h2, w2⟩ := zfH Tryz.underlying3 f2
    obtain ⟨n3, h3, w3⟩ := zfH Tryz.underlying3 f3
    obtain ⟨l4, v4, h4, o4, w4⟩ := zlI (L := L) (α := Ex) (cells := encX) hL Tryz.underlying28 hc (fun fuel' hf' cs y h _ => ih fuel' (by omega) cs y h) f4
    cases h0; cases h1; cases h2; cases h3; cases h4
    refine ⟨.mk n0 n1 n2 n3 l4, fun j hj => ?_⟩
    rw [zhg]
    match j with
    | 0 => exact ⟨.int _ _ _ w0, rfl⟩
    | 1 => exact ⟨.int _ _ _ w1, rfl⟩
    | 2 => exact ⟨.int _ _ _ w2, rfl⟩
    | 3 => exact ⟨.int _ _ _ w3, rfl⟩
    | 4 => exact ⟨w4 _, o4⟩
    | j + 5 => exact absurd hj (by simp)
theorem zAH : ∀ (k fuel : Nat), fuel ≤ k → ∀ (cs : List Value) (y : DataW HH × List MemPlace), DataW.trod enc Tryz.prog w base spare held fuel 31 cs = some y → ∃ e : Nd, cs.length = 5 ∧ ElOk w L cs (encN e) ∧ ∀ j, j < 5 → ∀ ι, VR w L ι (cs.getD j undef) ((encN e).getD j .undef) := by
  intro k
  induction k with
  | zero =>
    intro fuel hk cs y h
    obtain ⟨xs, n, h0, _⟩ := DataW.trod_struct Tryz.underlying31 h
    omega
  | succ k ih =>
  intro fuel hk cs y h
  have hcx : Tryz.prog.cellsOf 60 = 5 := by kernel_rfl
  obtain ⟨xs, n, rfl, rfl, hlen, hxs, hf⟩ := DataW.trod_struct Tryz.underlying31 h
  have hc : Tryz.prog.cellsOf 31 = 5 := by kernel_rfl
  have hc3 : Tryz.prog.cellsOf 3 = 1 := by kernel_rfl
  have hc28 : Tryz.prog.cellsOf 28 = 1 := by kernel_rfl
  have hc29 : Tryz.prog.cellsOf 29 = 1 := by kernel_rfl
  rw [hc] at hlen
  have hget : ∀ i, i < 5 → xs[i]? = some (xs.getD i (.nil, [])) := fun i hi => by
    rw [List.getD_eq_getElem?_getD, List.getElem?_eq_getElem (by rw [hxs]; exact hi)]
    rfl
  match cs, hlen with
  | [c0, c1, c2, c3, c4], _ =>
    have f0 : DataW.trod enc Tryz.prog w base spare held n 3 (([c0, c1, c2, c3, c4].drop 0).take (Tryz.prog.cellsOf 3)) = some (xs.getD 0 (.nil, [])) := (hf 0 _ rfl).trans (hget 0 (by decide))
    rw [hc3] at f0
    replace f0 : DataW.trod enc Tryz.prog w base spare held n 3 [c0] = some (xs.getD 0 (.nil, [])) := f0
    have f1 : DataW.trod enc Tryz.prog w base spare held n 3 (([c0, c1, c2, c3, c4].drop 1).take (Tryz.prog.cellsOf 3)) = some (xs.getD 1 (.nil, [])) := (hf 1 _ rfl).trans (hget 1 (by decide))
    rw [hc3] at f1
    replace f1 : DataW.trod enc Tryz.prog w base spare held n 3 [c1] = some (xs.getD 1 (.nil, [])) := f1
    have f2 : DataW.trod enc Tryz.prog w base spare held n 3 (([c0, c1, c2, c3, c4].drop 2).take (Tryz.prog.cellsOf 3)) = some (xs.getD 2 (.nil, [])) := (hf 2 _ rfl).trans (hget 2 (by decide))
    rw [hc3] at f2
    replace f2 : DataW.trod enc Tryz.prog w base spare held n 3 [c2] = some (xs.getD 2 (.nil, [])) := f2
    have f3 : DataW.trod enc Tryz.prog w base spare held n 28 (([c0, c1, c2, c3, c4].drop 3).take (Tryz.prog.cellsOf 28)) = some (xs.getD 3 (.nil, [])) := (hf 3 _ rfl).trans (hget 3 (by decide))
    rw [hc28] at f3
    replace f3 : DataW.trod enc Tryz.prog w base spare held n 28 [c3] = some (xs.getD 3 (.nil, [])) := f3
    have f4 : DataW.trod enc Tryz.prog w base spare held n 29 (([c0, c1, c2, c3, c4].drop 4).take (Tryz.prog.cellsOf 29)) = some (xs.getD 4 (.nil, [])) := (hf 4 _ rfl).trans (hget 4 (by decide))
    rw [hc29] at f4
    replace f4 : DataW.trod enc Tryz.prog w base spare held n 29 [c4] = some (xs.getD 4 (.nil, [])) := f4
    obtain ⟨n0, h0, w0⟩ := zfH Tryz.underlying3 f0
    obtain ⟨n1, h1, w1⟩ := zfH Tryz.underlying3 f1
    obtain ⟨n2, h2, w2⟩ := zfH Tryz.underlying3 f2
    obtain ⟨l3, v3, h3, o3, w3⟩ := zlI (L := L) (α := Ex) (cells := encX) hL Tryz.underlying28 hcx (fun fuel' hf' cs y h _ => zxn hL fuel' fuel' (Nat.le_refl _) cs y h) f3
    obtain ⟨l4, v4, h4, o4, w4⟩ := zlI (L := L) (α := Nd) (cells := encN) hL Tryz.underlying29 hc (fun fuel' hf' cs y h _ => let ⟨e, _, h, _⟩ := ih fuel' (by omega) cs y h; ⟨e, h⟩) f4
    cases h0; cases h1; cases h2; cases h3; cases h4
    refine ⟨.mk ⟨n0, n1, n2⟩ l3 l4, rfl, fun j hj => ?_, fun j hj ι => ?_⟩
    · rw [zci]
      match j with
      | 0 => exact ⟨.int _ _ _ w0, rfl⟩
      | 1 => exact ⟨.int _ _ _ w1, rfl⟩
      | 2 => exact ⟨.int _ _ _ w2, rfl⟩
      | 3 => exact ⟨w3 _, o3⟩
      | 4 => exact ⟨w4 _, o4⟩
      | j + 5 => exact absurd hj (by simp)
    · rw [zci]
      match j with
      | 0 => exact .int _ _ _ w0
      | 1 => exact .int _ _ _ w1
      | 2 => exact .int _ _ _ w2
      | 3 => exact w3 _
      | 4 => exact w4 _
      | j + 5 => exact absurd hj (by omega)
theorem open_node {v : Value} {d : DataW HH} {ps : List MemPlace} (hv : Value.okWide Tryz.prog w .any base 31 v) {b2 : Nat} (h : DataW.Trod enc Tryz.prog w b2 spare held 31 v d ps) : ∃ e : Nd, True ∧ ∀ ι, VR w L ι v (.agg (encN e)) := by
  obtain ⟨fuel, hf⟩ := h
  unfold Value.okWide at hv
  rw [Tryz.underlying31] at hv
  simp only at hv
  obtain ⟨cs, rfl, _, _⟩ := hv
  have hf' : DataW.trod enc Tryz.prog w b2 spare held fuel 31 cs.toList = some (d, ps) := hf
  obtain ⟨o, h1, h2, h3⟩ := zAH hL fuel fuel (Nat.le_refl _) _ _ hf'
  have hlen : (encN o).length = 5 := by obtain ⟨_, _, _⟩ := o; rw [zci]; rfl
  refine ⟨o, trivial, fun ι => .agg ι cs _ (by rw [hlen]; simpa using h1) (fun i v hi => ?_) (fun i v a hi ha => ?_)⟩
  · have hi' : i < cs.toList.length := by have := (Array.getElem?_eq_some_iff.1 hi).1; simpa using this
    have e : cs.toList.getD i undef = v := by
      rw [List.getD_eq_getElem?_getD, Array.getElem?_toList, hi]; rfl
    have := (h2 i hi').2
    rwa [e] at this
  · have hi' : i < cs.toList.length := by have := (Array.getElem?_eq_some_iff.1 hi).1; simpa using this
    have e : cs.toList.getD i undef = v := by
      rw [List.getD_eq_getElem?_getD, Array.getElem?_toList, hi]; rfl
    have e2 : (encN o).getD i .undef = a := by
      rw [List.getD_eq_getElem?_getD, ha]; rfl
    have := h3 i (by omega) ι
    rwa [e, e2] at this
end
theorem zx9 {H : AH} {v : AV} {b : Bool} (h : Frz H v (.bool b)) : v = .bool b := by
  unfold Frz at h
  generalize he : AV.bool b = x at h
  cases h <;> first | (cases he; done) | (cases he; rfl)
theorem row_true {P : Program} {f : FuncId} {args : List AV} {vs : Array Value} {w : World} (h : zaj P f args (· = .bool true)) (hv : ∀ L : Nat → Prop, (∀ b, ¬ L b) → VRs w L noI vs.toList args) :
    Calls P f vs w fun e w' => e = .returned (.bool true) ∧ Below w.heap.size w w' := by
  have hno : ∀ b, ¬ Lt (fun _ => False) noI [] b := fun b hb => hb.elim (fun h => h) (zlR b)
  refine (h w (fun _ => False) noI vs (.empty (fun b hb => hb.elim)) (hv _ hno)).mono fun e w' ⟨v, ι', H', nx', a, h1, h2, _, h4, a2, h5, h6⟩ => ?_
  subst h1 h6
  have := zx9 h5
  subst this
  cases h4
  exact ⟨rfl, h2.ext.os, h2.ext.tape, h2.ext.output, h2.ext.size, fun k hk => h2.ext.block k hk (zlR k)⟩
end Go.Ab
namespace Go.Ab
def zmW : Nat := 2
def zkR : Nat := 3
def zi5 : Nat := 4
def zc6 : Nat := 5
def zjD : Nat := 6
def zhh : Nat := 7
def zkf : Nat := 8
def zj7 : Nat := 9
def zlc : Nat := 10
def zcU : Nat := 11
def zdo : Nat := 12
def zdR : Nat := 13
def zk5 : Nat := 14
def znD : Nat := 15
def zdb : Nat := 16
def zb4 : Nat := 17
def zdx : Nat := 18
def zsz : Nat := 19
def zu5 : Nat := 20
def zij : Nat := 21
def zh2 : Nat := 22
def zlX : Nat := 23
def zsx : Nat := 24
def zvk : Nat := 25
def zcZ : Nat := 26
def zfh : Nat := 27
def ze9 : Nat := 28
def zqz : Nat := 29
def zoK : Nat := 30
def zim : Nat := 31
def zhL : Nat := 32
def zuF : Nat := 33
def zlG : Nat := 34
def znV : Nat := 35
def zpr : Nat := 36
def zmZ : Nat := 37
def zeY : Nat := 38
def zut : Nat := 39
def zvD : Nat := 40
def ztd : Nat := 41
def zca : Nat := 42
def ziN : Nat := 43
def zhv : Nat := 44
def zdd : Nat := 45
def zlZ : Nat := 46
def ze5 : Nat := 47
def zdh : Nat := 48
def zvj : Nat := 49
def zaw : Nat := 50
def zcG : Nat := 51
def zaA : Nat := 52
def zcY : Nat := 53
def zcb : Nat := 54
def zcM : Nat := 55
def zbJ : Nat := 56
def zdf : Nat := 57
def zaR : Nat := 58
def zaz : Nat := 59
def za4 : Nat := 60
def zkI : Nat := 61
def zm9 : Nat := 62
def za3 : Nat := 63
def zkb : Nat := 64
def znd : Nat := 65
def zue : Nat := 66
def zsZ : Nat := 67
def zet : Nat := 68
def zuS : Nat := 69
def zfc : Nat := 70
def zfi : Nat := 71
def zgU : Nat := 72
def zgn : Nat := 73
def zsS : Nat := 74
def zr4 : Nat := 75
def zvG : Nat := 76
def zvi : Nat := 77
def zgA : Nat := 78
def zf3 : Nat := 79
def zrC : Nat := 80
def zqm : Nat := 81
def zhY : Nat := 82
def zdK : Nat := 83
def zdT : Nat := 84
def zbu : Nat := 85
def zer : Nat := 86
def zjg : Nat := 87
def zhJ : Nat := 88
def zhk : Nat := 89
def zf5 : Nat := 90
def zl9 : Nat := 91
def znu : Nat := 92
def zhc : Nat := 93
def zjT : Nat := 94
def zf2 : Nat := 95
def zil : Nat := 96
def zda : Nat := 97
def zbe : Nat := 98
def zgj : Nat := 99
def zaS : Nat := 100
def zdG : Nat := 101
def zcn : Nat := 102
def zbP : Nat := 103
def zcg : Nat := 104
def zgl : Nat := 105
def znv : Nat := 106
def zel : Nat := 107
def zrl : Nat := 108
def zu8 : Nat := 109
def zp4 : Nat := 110
def zpz : Nat := 111
def zq7 : Nat := 112
def zw7 : Nat := 113
def zrx : Nat := 114
def zr3 : Nat := 115
def zaM : Nat := 116
def zfa : Nat := 117
def zcv : Nat := 118
def zaN : Nat := 119
def zbf : Nat := 120
def zei : Nat := 121
def zdQ : Nat := 122
def zbl : Nat := 123
def zmX : Nat := 124
def zep : Nat := 125
def zct : Nat := 126
def zl2 : Nat := 127
def zqd : Nat := 128
def zd8 : Nat := 129
def zoE : Nat := 130
def zrK : Nat := 131
def zpR : Nat := 132
def zdO : Nat := 133
def zq0 : Nat := 134
def zhu : Nat := 135
def zfk : Nat := 136
def zh9 : Nat := 137
def zfj : Nat := 138
def zdP : Nat := 139
def zff : Nat := 140
def zba : Nat := 141
def zej : Nat := 142
def zf0 : Nat := 143
def zea : Nat := 144
def zeV : Nat := 145
def zeE : Nat := 146
def zc3 : Nat := 147
def zoz : Nat := 148
def zd7 : Nat := 149
def zfy : Nat := 150
def zlL : Nat := 151
def zlM : Nat := 152
def zeU : Nat := 153
def zpx : Nat := 154
def zoN : Nat := 155
def zaT : Nat := 156
def zaV : Nat := 157
def zee : Nat := 158
def zgb : Nat := 159
def zlF : Nat := 160
def zlw : Nat := 161
def zdk : Nat := 162
def zb6 : Nat := 163
def zbR : Nat := 164
def zjj : Nat := 165
def zhr : Nat := 166
def zfe : Nat := 167
def zcJ : Nat := 168
def za2 : Nat := 169
def zaD : Nat := 170
def ze6 : Nat := 171
def zaX : Nat := 172
def zfZ : Nat := 173
def zh6 : Nat := 174
def ziR : Nat := 175
def zd6 : Nat := 176
def zgK : Nat := 177
def znH : Nat := 178
def zw0 : Nat := 179
def zbo : Nat := 180
def zb8 : Nat := 181
def zkc : Nat := 182
def zav : Nat := 183
def zaU : Nat := 184
def zgM : Nat := 185
def zgI : Nat := 186
end Go.Ab
namespace Go.Ab
open Go.RowKit Go.Proofs
def zmS : ACode := .seq (.region [ (oN 1 (.rbox (.t 0))), (oN 2 (.mov (.c (.bool false))))] [0, 2]) (.seq (.region [ (oN 3 (.load true 5 (.t 1))), (oN 4 (.call zfc [(.t 3), (.c (.int .i64 300))])), (oN 5 (.bin .geq (.t 4) (.c (.int .i64 0)))), (oN 2 (.mov (.t 5)))] [1, 3, 4, 5]) (.ret))
def zmF : List ARet := [.tmp 2]
theorem zqT : zaP Tryz.prog zij (qRo [1]) = some (zmS.strip, zmF, 6) := by kernel_rfl
def zeJ : ACode := .seq (.region [ (oN 10 (.bin .lss (.t 9) (.t 8)))] []) (.seq (.cond (.t 10) (.skip) (.exit 0)) (.seq (.block 1 (.seq (.region [ (oN 11 (.idx 5 (.t 7) (.t 9))), (oN 12 (.load true 5 (.t 11))), (oN 5 (.alloc [.int .i64 0, .int .i64 0, .int .i64 0, .nilsl, .nilsl])), ⟨none, .store 5 (.t 5) (.t 12), none⟩] [10, 11, 12]) (.seq (.region [ (oN 13 (.fldaddr 0 1 (.t 5))), (oN 14 (.load false 1 (.t 13))), (oN 15 (.bin .eql (.t 14) (.c (.int .i64 10))))] [13, 14]) (.cond (.t 15) (.region [ (oN 16 (.mov (.t 3))), (oN 17 (.fldaddr 2 1 (.t 5))), (oN 18 (.load false 1 (.t 17))), (oN 19 (.buildSl 1 1 [.int .i64 0] [(0, (.t 18))])), (oN 20 (.append 1 8 (.t 16) (.t 19))), (oN 3 (.mov (.t 20)))] [5, 15, 16, 17, 18, 19, 20]) (.skip))))) (.region [ (oN 21 (.bin .add (.t 9) (.c (.int .i64 1)))), (oN 9 (.mov (.t 21)))] [5, 15, 21])))
def zeQ : ACode := .seq (.region [ (oN 22 (.mov (.t 3))), (oN 2 (.mov (.t 22)))] [3, 7, 8, 9, 22]) (.ret)
def zgg : ACode := .seq (.region [ (oN 1 (.rbox (.t 0))), (oN 2 (.mknil 1))] [0, 2]) (.seq (.region [ (oN 3 (.mknil 1))] []) (.seq (.seq (.region [ (oN 6 (.load true 5 (.t 1))), (oN 7 (.call zdd [(.t 6)])), (oN 8 (.len (.t 7))), (oN 9 (.mov (.c (.int .i64 0))))] [1, 6]) (.block 0 (.loop zeJ))) (zeQ)))
def zgD : List ARet := [.tmp 2]
theorem zkz : zaP Tryz.prog zcZ (qRo [1]) = some (zgg.strip, zgD, 23) := by kernel_rfl
def zfw : ACode := .seq (.seq (.region [ (oN 13 (.mov (.t 4))), (oN 14 (.fldaddr 4 1 (.t 1))), (oN 15 (.load false 1 (.t 14))), (oN 16 (.len (.t 15))), (oN 17 (.bin .lss (.t 13) (.t 16)))] [13, 14, 15, 16]) (.cond (.t 17) (.skip) (.exit 0))) (.seq (.block 1 (.region [ (oN 20 (.mov (.t 3))), (oN 21 (.fldaddr 4 1 (.t 1))), (oN 22 (.load false 1 (.t 21))), (oN 23 (.mov (.t 4))), (oN 24 (.idx 5 (.t 22) (.t 23))), (oN 25 (.load true 5 (.t 24))), (oN 26 (.call zfh [(.t 25)])), (oN 27 (.append 1 8 (.t 20) (.t 26))), (oN 3 (.mov (.t 27)))] [17, 20, 21, 22, 23, 24, 25, 26, 27])) (.region [ (oN 18 (.mov (.t 4))), (oN 19 (.bin .add (.t 18) (.c (.int .i64 1)))), (oN 4 (.mov (.t 19)))] [18, 19]))
def zfz : ACode := .seq (.region [ (oN 28 (.mov (.t 3))), (oN 2 (.mov (.t 28)))] [1, 3, 4, 28]) (.ret)
def zlE : ACode := .seq (.region [ (oN 1 (.rbox (.t 0))), (oN 2 (.mknil 1))] [0, 2]) (.seq (.region [ (oN 3 (.mknil 1))] []) (.seq (.seq (.region [ (oN 5 (.fldaddr 0 1 (.t 1))), (oN 6 (.load false 1 (.t 5))), (oN 7 (.bin .eql (.t 6) (.c (.int .i64 10))))] [5, 6]) (.cond (.t 7) (.region [ (oN 8 (.mov (.t 3))), (oN 9 (.fldaddr 2 1 (.t 1))), (oN 10 (.load false 1 (.t 9))), (oN 11 (.buildSl 1 1 [.int .i64 0] [(0, (.t 10))])), (oN 12 (.append 1 8 (.t 8) (.t 11))), (oN 3 (.mov (.t 12)))] [7, 8, 9, 10, 11, 12]) (.skip))) (.seq (.seq (.region [ (oN 4 (.mov (.c (.int .i64 0))))] [7]) (.block 0 (.loop zfw))) (zfz))))
def zhU : List ARet := [.tmp 2]
theorem zp8 : zaP Tryz.prog zfh (qRo [1]) = some (zlE.strip, zhU, 29) := by kernel_rfl
def zfq : ACode := .seq (.seq (.region [ (oN 18 (.mov (.t 4))), (oN 19 (.fldaddr 4 1 (.t 1))), (oN 20 (.load false 1 (.t 19))), (oN 21 (.len (.t 20))), (oN 22 (.bin .lss (.t 18) (.t 21)))] [18, 19, 20, 21]) (.cond (.t 22) (.skip) (.exit 0))) (.seq (.block 1 (.region [ (oN 25 (.mov (.t 3))), (oN 26 (.fldaddr 4 1 (.t 1))), (oN 27 (.load false 1 (.t 26))), (oN 28 (.mov (.t 4))), (oN 29 (.idx 5 (.t 27) (.t 28))), (oN 30 (.load true 5 (.t 29))), (oN 31 (.call ze9 [(.t 30)])), (oN 32 (.append 1 8 (.t 25) (.t 31))), (oN 3 (.mov (.t 32)))] [22, 25, 26, 27, 28, 29, 30, 31, 32])) (.region [ (oN 23 (.mov (.t 4))), (oN 24 (.bin .add (.t 23) (.c (.int .i64 1)))), (oN 4 (.mov (.t 24)))] [23, 24]))
def zfu : ACode := .seq (.region [ (oN 33 (.mov (.t 3))), (oN 2 (.mov (.t 33)))] [1, 3, 4, 33]) (.ret)
def zle : ACode := .seq (.region [ (oN 1 (.rbox (.t 0))), (oN 2 (.mknil 1))] [0, 2]) (.seq (.region [ (oN 3 (.mknil 1))] []) (.seq (.seq (.region [ (oN 5 (.fldaddr 0 1 (.t 1))), (oN 6 (.load false 1 (.t 5))), (oN 7 (.bin .eql (.t 6) (.c (.int .i64 2)))), (oN 8 (.mov (.t 7))), (oG 9 8 false (.fldaddr 0 1 (.t 1))), (oG 10 8 false (.load false 1 (.t 9))), (oG 11 8 false (.bin .eql (.t 10) (.c (.int .i64 5)))), (oN 12 (.pick (.t 8) (.c (.bool true)) (.t 11)))] [5, 6, 7, 8, 9, 10, 11]) (.cond (.t 12) (.region [ (oN 13 (.mov (.t 3))), (oN 14 (.fldaddr 1 1 (.t 1))), (oN 15 (.load false 1 (.t 14))), (oN 16 (.buildSl 1 1 [.int .i64 0] [(0, (.t 15))])), (oN 17 (.append 1 8 (.t 13) (.t 16))), (oN 3 (.mov (.t 17)))] [12, 13, 14, 15, 16, 17]) (.skip))) (.seq (.seq (.region [ (oN 4 (.mov (.c (.int .i64 0))))] [12]) (.block 0 (.loop zfq))) (zfu))))
def zih : List ARet := [.tmp 2]
theorem zpJ : zaP Tryz.prog ze9 (qRo [1]) = some (zle.strip, zih, 34) := by kernel_rfl
def zi9 : ACode := .seq (.seq (.region [ (oN 23 (.mov (.t 8))), (oN 24 (.fldaddr 4 1 (.t 3))), (oN 25 (.load false 1 (.t 24))), (oN 26 (.len (.t 25))), (oN 27 (.bin .lss (.t 23) (.t 26))), (oN 28 (.mov (.t 27))), (oG 29 28 true (.mov (.t 7))), (oG 30 28 true (.bin .geq (.t 29) (.c (.int .i64 0)))), (oN 31 (.pick (.t 28) (.t 30) (.c (.bool false))))] [23, 24, 25, 26, 27, 28, 29, 30]) (.cond (.t 31) (.skip) (.exit 0))) (.seq (.block 1 (.region [ (oN 34 (.fldaddr 4 1 (.t 3))), (oN 35 (.load false 1 (.t 34))), (oN 36 (.mov (.t 8))), (oN 37 (.idx 5 (.t 35) (.t 36))), (oN 38 (.load true 5 (.t 37))), (oN 39 (.mov (.t 1))), (oN 40 (.bin .sub (.t 39) (.c (.int .i64 1)))), (oN 41 (.mov (.t 7))), (oN 42 (.call zeY [(.t 38), (.t 40), (.t 41)])), (oN 7 (.mov (.t 42)))] [31, 34, 35, 36, 37, 38, 39, 40, 41, 42])) (.region [ (oN 32 (.mov (.t 8))), (oN 33 (.bin .add (.t 32) (.c (.int .i64 1)))), (oN 8 (.mov (.t 33)))] [32, 33]))
def zgy : ACode := .seq (.region [ (oN 43 (.mov (.t 7))), (oN 6 (.mov (.t 43)))] [1, 3, 7, 8, 43]) (.ret)
def zmM : ACode := .seq (.region [ (oN 3 (.rbox (.t 0))), (oN 6 (.mov (.c (.int .i64 0))))] [0, 6]) (.seq (.seq (.region [ (oN 9 (.mov (.t 1))), (oN 10 (.bin .lss (.t 9) (.c (.int .i64 1)))), (oN 11 (.mov (.t 10))), (oG 12 11 false (.mov (.t 2))), (oG 13 11 false (.bin .lss (.t 12) (.c (.int .i64 1)))), (oN 14 (.pick (.t 11) (.c (.bool true)) (.t 13))), (oN 15 (.mov (.t 14))), (oG 16 15 false (.fldaddr 4 1 (.t 3))), (oG 17 15 false (.load false 1 (.t 16))), (oG 18 15 false (.len (.t 17))), (oG 19 15 false (.bin .gtr (.t 18) (.c (.int .i64 4)))), (oN 20 (.pick (.t 15) (.c (.bool true)) (.t 19)))] [9, 10, 11, 12, 13, 14, 15, 16, 17, 18, 19]) (.cond (.t 20) (.seq (.region [ (oN 6 (.mov (.c (.int .i64 (-1)))))] [1, 2, 3, 20]) (.ret)) (.skip))) (.seq (.region [ (oN 21 (.mov (.t 2))), (oN 22 (.bin .sub (.t 21) (.c (.int .i64 1)))), (oN 7 (.mov (.t 22)))] [2, 6, 20, 21, 22]) (.seq (.seq (.region [ (oN 8 (.mov (.c (.int .i64 0))))] []) (.block 0 (.loop zi9))) (zgy))))
def zd2 : List ARet := [.tmp 6]
theorem zqo : zaP Tryz.prog zeY (qRo [3]) = some (zmM.strip, zd2, 44) := by kernel_rfl
def zge : ACode := .seq (.seq (.region [ (oN 35 (.mov (.t 6))), (oN 36 (.bin .geq (.t 35) (.c (.int .i64 0))))] [35]) (.cond (.t 36) (.skip) (.exit 2))) (.seq (.block 3 (.region [ (oN 39 (.mov (.t 4))), (oN 40 (.fldaddr 4 1 (.t 5))), (oN 41 (.load false 1 (.t 40))), (oN 42 (.mov (.t 6))), (oN 43 (.idx 5 (.t 41) (.t 42))), (oN 44 (.load true 5 (.t 43))), (oN 45 (.buildSl 5 1 [.int .i64 0, .int .i64 0, .int .i64 0, .nilsl, .nilsl] [(0, (.t 44))])), (oN 46 (.append 5 72 (.t 39) (.t 45))), (oN 4 (.mov (.t 46)))] [36, 39, 40, 41, 42, 43, 44, 45, 46])) (.region [ (oN 37 (.mov (.t 6))), (oN 38 (.bin .sub (.t 37) (.c (.int .i64 1)))), (oN 6 (.mov (.t 38)))] [37, 38]))
def zf9 : ACode := .seq (.seq (.region [ (oN 9 (.mov (.t 4))), (oN 10 (.len (.t 9))), (oN 11 (.bin .gtr (.t 10) (.c (.int .i64 0))))] [9, 10]) (.cond (.t 11) (.skip) (.exit 0))) (.block 1 (.seq (.region [ (oN 12 (.mov (.t 4))), (oN 13 (.mov (.t 4))), (oN 14 (.len (.t 13))), (oN 15 (.bin .sub (.t 14) (.c (.int .i64 1)))), (oN 16 (.idx 5 (.t 12) (.t 15))), (oN 17 (.load true 5 (.t 16))), (oN 5 (.alloc [.int .i64 0, .int .i64 0, .int .i64 0, .nilsl, .nilsl])), ⟨none, .store 5 (.t 5) (.t 17), none⟩] [11, 12, 13, 14, 15, 16, 17]) (.seq (.region [ (oN 18 (.mov (.t 4))), (oN 19 (.mov (.t 4))), (oN 20 (.len (.t 19))), (oN 21 (.bin .sub (.t 20) (.c (.int .i64 1)))), (oN 22 (.slice 5 (.t 18) none (some (.t 21)))), (oN 4 (.mov (.t 22)))] [18, 19, 20, 21, 22]) (.seq (.region [ (oN 23 (.mov (.t 3))), (oN 24 (.load true 5 (.t 5))), (oN 25 (.buildSl 5 1 [.int .i64 0, .int .i64 0, .int .i64 0, .nilsl, .nilsl] [(0, (.t 24))])), (oN 26 (.append 5 72 (.t 23) (.t 25))), (oN 3 (.mov (.t 26)))] [23, 24, 25, 26]) (.seq (.seq (.region [ (oN 27 (.fldaddr 4 1 (.t 5))), (oN 28 (.load false 1 (.t 27))), (oN 29 (.len (.t 28))), (oN 30 (.bin .eql (.t 29) (.c (.int .i64 0))))] [27, 28, 29]) (.cond (.t 30) (.exit 1) (.skip))) (.seq (.region [ (oN 31 (.fldaddr 4 1 (.t 5))), (oN 32 (.load false 1 (.t 31))), (oN 33 (.len (.t 32))), (oN 34 (.bin .sub (.t 33) (.c (.int .i64 1)))), (oN 6 (.mov (.t 34)))] [30, 31, 32, 33, 34]) (.block 2 (.loop zge))))))))
def zgc : ACode := .seq (.region [ (oN 47 (.mov (.t 3))), (oN 2 (.mov (.t 47)))] [3, 4, 5, 6, 47]) (.ret)
def ziy : ACode := .seq (.region [ (oN 1 (.rbox (.t 0))), (oN 2 (.mknil 5))] [0, 2]) (.scope (.seq (.region [ (oN 3 (.mknil 5))] []) (.seq (.region [ (oN 7 (.load true 5 (.t 1))), (oN 8 (.buildSl 5 1 [.int .i64 0, .int .i64 0, .int .i64 0, .nilsl, .nilsl] [(0, (.t 7))])), (oN 4 (.mov (.t 8)))] [1, 7, 8]) (.seq (.label 0) (.seq (.block 0 (.loop zf9)) (zgc))))))
def zis : List ARet := [.tmp 2]
theorem znf : zaP Tryz.prog zdd (qRo [1]) = some (ziy.strip, zis, 48) := by kernel_rfl
def ziz : ACode := .seq (.seq (.region [ (oN 13 (.mov (.t 5))), (oN 14 (.fldaddr 3 1 (.t 2))), (oN 15 (.load false 1 (.t 14))), (oN 16 (.len (.t 15))), (oN 17 (.bin .lss (.t 13) (.t 16)))] [13, 14, 15, 16]) (.cond (.t 17) (.skip) (.exit 0))) (.seq (.block 1 (.seq (.region [ (oN 20 (.fldaddr 3 1 (.t 2))), (oN 21 (.load false 1 (.t 20))), (oN 22 (.mov (.t 5))), (oN 23 (.idx 5 (.t 21) (.t 22))), (oN 24 (.load true 5 (.t 23))), (oN 25 (.call zeY [(.t 24), (.c (.int .i64 70)), (.c (.int .i64 200))])), (oN 26 (.bin .lss (.t 25) (.c (.int .i64 0))))] [17, 20, 21, 22, 23, 24, 25]) (.cond (.t 26) (.seq (.region [ (oN 4 (.mov (.c (.int .i64 (-1)))))] [1, 2, 5, 26]) (.ret)) (.skip)))) (.region [ (oN 18 (.mov (.t 5))), (oN 19 (.bin .add (.t 18) (.c (.int .i64 1)))), (oN 5 (.mov (.t 19)))] [4, 18, 19, 26]))
def ziG : ACode := .seq (.seq (.region [ (oN 27 (.mov (.t 6))), (oN 28 (.fldaddr 4 1 (.t 2))), (oN 29 (.load false 1 (.t 28))), (oN 30 (.len (.t 29))), (oN 31 (.bin .lss (.t 27) (.t 30))), (oN 32 (.mov (.t 31))), (oG 33 32 true (.mov (.t 1))), (oG 34 32 true (.bin .geq (.t 33) (.c (.int .i64 0)))), (oN 35 (.pick (.t 32) (.t 34) (.c (.bool false))))] [27, 28, 29, 30, 31, 32, 33, 34]) (.cond (.t 35) (.skip) (.exit 2))) (.seq (.block 3 (.region [ (oN 38 (.fldaddr 4 1 (.t 2))), (oN 39 (.load false 1 (.t 38))), (oN 40 (.mov (.t 6))), (oN 41 (.idx 5 (.t 39) (.t 40))), (oN 42 (.load true 5 (.t 41))), (oN 43 (.mov (.t 1))), (oN 44 (.call zfc [(.t 42), (.t 43)])), (oN 1 (.mov (.t 44)))] [35, 38, 39, 40, 41, 42, 43, 44])) (.region [ (oN 36 (.mov (.t 6))), (oN 37 (.bin .add (.t 36) (.c (.int .i64 1)))), (oN 6 (.mov (.t 37)))] [36, 37]))
def zfo : ACode := .seq (.region [ (oN 45 (.mov (.t 1))), (oN 4 (.mov (.t 45)))] [1, 2, 6, 45]) (.ret)
def zix : ACode := .seq (.seq (.region [ (oN 6 (.mov (.c (.int .i64 0))))] [5]) (.block 2 (.loop ziG))) (zfo)
def zlp : ACode := .seq (.region [ (oN 2 (.rbox (.t 0))), (oN 4 (.mov (.c (.int .i64 0))))] [0, 4]) (.seq (.region [ (oN 7 (.mov (.t 1))), (oN 8 (.bin .sub (.t 7) (.c (.int .i64 1)))), (oN 1 (.mov (.t 8)))] [7, 8]) (.seq (.seq (.region [ (oN 9 (.fldaddr 3 1 (.t 2))), (oN 10 (.load false 1 (.t 9))), (oN 11 (.len (.t 10))), (oN 12 (.bin .gtr (.t 11) (.c (.int .i64 3))))] [9, 10, 11]) (.cond (.t 12) (.seq (.region [ (oN 4 (.mov (.c (.int .i64 (-1)))))] [1, 2, 12]) (.ret)) (.skip))) (.seq (.seq (.region [ (oN 5 (.mov (.c (.int .i64 0))))] [4, 12]) (.block 0 (.loop ziz))) (zix))))
def zew : List ARet := [.tmp 4]
theorem zqj : zaP Tryz.prog zfc (qRo [2]) = some (zlp.strip, zew, 46) := by kernel_rfl
def zfD : ACode := .seq (.seq (.region [ (oN 13 (.mov (.t 4))), (oN 14 (.fldaddr 1 1 (.t 1))), (oN 15 (.load false 1 (.t 14))), (oN 16 (.len (.t 15))), (oN 17 (.bin .lss (.t 13) (.t 16)))] [13, 14, 15, 16]) (.cond (.t 17) (.skip) (.exit 0))) (.seq (.block 1 (.region [ (oN 20 (.mov (.t 3))), (oN 21 (.fldaddr 1 1 (.t 1))), (oN 22 (.load false 1 (.t 21))), (oN 23 (.mov (.t 4))), (oN 24 (.idx 2 (.t 22) (.t 23))), (oN 25 (.fldaddr 1 1 (.t 24))), (oN 26 (.load false 1 (.t 25))), (oN 27 (.len (.t 26))), (oN 28 (.bin .add (.t 20) (.t 27))), (oN 3 (.mov (.t 28)))] [17, 20, 21, 22, 23, 24, 25, 26, 27, 28])) (.region [ (oN 18 (.mov (.t 4))), (oN 19 (.bin .add (.t 18) (.c (.int .i64 1)))), (oN 4 (.mov (.t 19)))] [18, 19]))
def zfS : ACode := .seq (.seq (.region [ (oN 35 (.mov (.t 5))), (oN 36 (.fldaddr 1 1 (.t 1))), (oN 37 (.load false 1 (.t 36))), (oN 38 (.len (.t 37))), (oN 39 (.bin .lss (.t 35) (.t 38)))] [35, 36, 37, 38]) (.cond (.t 39) (.skip) (.exit 2))) (.seq (.block 3 (.seq (.draw ( .step (oN 42 (.fldaddr 1 1 (.t 1))) ( .step (oN 43 (.load false 1 (.t 42))) ( .step (oN 44 (.mov (.t 5))) ( .step (oN 45 (.idx 2 (.t 43) (.t 44))) ( .step (oN 46 (.load true 2 (.t 45))) ( .step (oN 47 (.fldaddr 1 1 (.t 1))) ( .step (oN 48 (.load false 1 (.t 47))) ( .step (oN 49 (.len (.t 48))) ( .step (oN 50 (.callq ze5 [(.t 46), (.t 49)])) ( .step (oN 51 (.un .not (.t 50))) ( .done))))))))))) [39, 42, 43, 44, 45, 46, 47, 48, 49, 50]) (.cond (.t 51) (.seq (.region [ (oN 2 (.mov (.c (.int .i64 18))))] [1, 5, 51]) (.ret)) (.skip)))) (.region [ (oN 40 (.mov (.t 5))), (oN 41 (.bin .add (.t 40) (.c (.int .i64 1)))), (oN 5 (.mov (.t 41)))] [2, 40, 41, 51]))
def zfO : ACode := .seq (.seq (.region [ (oN 59 (.mov (.t 7))), (oN 60 (.fldaddr 1 1 (.t 1))), (oN 61 (.load false 1 (.t 60))), (oN 62 (.mov (.t 6))), (oN 63 (.idx 2 (.t 61) (.t 62))), (oN 64 (.fldaddr 1 1 (.t 63))), (oN 65 (.load false 1 (.t 64))), (oN 66 (.len (.t 65))), (oN 67 (.bin .lss (.t 59) (.t 66)))] [59, 60, 61, 62, 63, 64, 65, 66]) (.cond (.t 67) (.skip) (.exit 6))) (.seq (.block 7 (.seq (.region [ (oN 70 (.fldaddr 1 1 (.t 1))), (oN 71 (.load false 1 (.t 70))), (oN 72 (.mov (.t 6))), (oN 73 (.idx 2 (.t 71) (.t 72))), (oN 74 (.fldaddr 1 1 (.t 73))), (oN 75 (.load false 1 (.t 74))), (oN 76 (.mov (.t 7))), (oN 77 (.idx 8 (.t 75) (.t 76))), (oN 78 (.load true 8 (.t 77))), (oN 79 (.call zdh [(.t 78)])), (oN 8 (.mov (.t 79)))] [67, 70, 71, 72, 73, 74, 75, 76, 77, 78, 79]) (.seq (.region [ (oN 80 (.mov (.t 8))), (oN 81 (.bin .neq (.t 80) (.c (.int .i64 0))))] [80]) (.cond (.t 81) (.seq (.region [ (oN 82 (.mov (.t 8))), (oN 2 (.mov (.t 82)))] [1, 6, 7, 8, 81, 82]) (.ret)) (.skip))))) (.region [ (oN 68 (.mov (.t 7))), (oN 69 (.bin .add (.t 68) (.c (.int .i64 1)))), (oN 7 (.mov (.t 69)))] [2, 8, 68, 69, 81]))
def zfA : ACode := .region [ (oN 57 (.mov (.t 6))), (oN 58 (.bin .add (.t 57) (.c (.int .i64 1)))), (oN 6 (.mov (.t 58)))] [7, 57, 58]
def zfC : ACode := .seq (.seq (.region [ (oN 52 (.mov (.t 6))), (oN 53 (.fldaddr 1 1 (.t 1))), (oN 54 (.load false 1 (.t 53))), (oN 55 (.len (.t 54))), (oN 56 (.bin .lss (.t 52) (.t 55)))] [52, 53, 54, 55]) (.cond (.t 56) (.skip) (.exit 4))) (.seq (.block 5 (.seq (.region [ (oN 7 (.mov (.c (.int .i64 0))))] [56]) (.block 6 (.loop zfO)))) (zfA))
def zfL : ACode := .seq (.region [ (oN 2 (.mov (.c (.int .i64 0))))] [1, 6]) (.ret)
def zfF : ACode := .seq (.seq (.region [ (oN 6 (.mov (.c (.int .i64 0))))] [5]) (.block 4 (.loop zfC))) (zfL)
def zfK : ACode := .seq (.seq (.region [ (oN 29 (.mov (.t 3))), (oN 30 (.bin .gtr (.t 29) (.c (.int .i64 1024))))] [3, 4, 29]) (.cond (.t 30) (.seq (.region [ (oN 2 (.mov (.c (.int .i64 6))))] [1, 30]) (.ret)) (.skip))) (.seq (.seq (.region [ (oN 31 (.fldaddr 1 1 (.t 1))), (oN 32 (.load false 1 (.t 31))), (oN 33 (.len (.t 32))), (oN 34 (.bin .eql (.t 33) (.c (.int .i64 0))))] [2, 30, 31, 32, 33]) (.cond (.t 34) (.seq (.region [ (oN 2 (.mov (.c (.int .i64 18))))] [1, 34]) (.ret)) (.skip))) (.seq (.seq (.region [ (oN 5 (.mov (.c (.int .i64 0))))] [2, 34]) (.block 2 (.loop zfS))) (zfF)))
def zhp : ACode := .seq (.region [ (oN 1 (.rbox (.t 0))), (oN 2 (.mov (.c (.int .i64 0))))] [0, 2]) (.seq (.seq (.region [ (oN 9 (.fldaddr 1 1 (.t 1))), (oN 10 (.load false 1 (.t 9))), (oN 11 (.len (.t 10))), (oN 12 (.bin .gtr (.t 11) (.c (.int .i64 256))))] [9, 10, 11]) (.cond (.t 12) (.seq (.region [ (oN 2 (.mov (.c (.int .i64 6))))] [1, 12]) (.ret)) (.skip))) (.seq (.region [ (oN 3 (.mov (.c (.int .i64 0))))] [2, 12]) (.seq (.seq (.region [ (oN 4 (.mov (.c (.int .i64 0))))] []) (.block 0 (.loop zfD))) (zfK))))
def zcy : List ARet := [.tmp 2]
theorem zlQ : zaP Tryz.prog zdR (qRo [1]) = some (zhp.strip, zcy, 83) := by kernel_rfl
def zgd : ACode := .seq (.region [ (oN 15 (.bin .lss (.t 14) (.t 13)))] []) (.seq (.cond (.t 15) (.skip) (.exit 0)) (.seq (.block 1 (.seq (.region [ (oN 16 (.idx 2 (.t 12) (.t 14))), (oN 17 (.load true 2 (.t 16))), (oN 5 (.alloc [.int .u32 0, .nilsl])), ⟨none, .store 2 (.t 5) (.t 17), none⟩] [15, 16, 17]) (.region [ (oN 18 (.mov (.t 3))), (oN 19 (.fldaddr 1 1 (.t 5))), (oN 20 (.load false 1 (.t 19))), (oN 21 (.len (.t 20))), (oN 22 (.bin .add (.t 18) (.t 21))), (oN 3 (.mov (.t 22)))] [5, 18, 19, 20, 21, 22]))) (.region [ (oN 23 (.bin .add (.t 14) (.c (.int .i64 1)))), (oN 14 (.mov (.t 23)))] [23])))
def zgt : ACode := .seq (.region [ (oN 46 (.bin .lss (.t 45) (.t 44)))] []) (.seq (.cond (.t 46) (.skip) (.exit 4)) (.seq (.block 5 (.seq (.region [ (oN 47 (.idx 8 (.t 43) (.t 45))), (oN 48 (.load true 8 (.t 47))), (oN 9 (.alloc [.int .i64 0, .int .i64 0, .int .i64 0, .int .i64 0, .int .i64 0, .int .u32 0, .nilsl, .nilsl])), ⟨none, .store 8 (.t 9) (.t 48), none⟩] [46, 47, 48]) (.seq (.region [ (oN 49 (.load true 8 (.t 9))), (oN 50 (.call zdK [(.t 49)])), (oN 10 (.mov (.t 50)))] [9, 49, 50]) (.seq (.region [ (oN 51 (.mov (.t 10))), (oN 52 (.bin .neq (.t 51) (.c (.int .i64 0))))] [51]) (.cond (.t 52) (.seq (.region [ (oN 53 (.mov (.t 10))), (oN 2 (.mov (.t 53)))] [10, 36, 37, 38, 43, 44, 45, 52, 53]) (.ret)) (.skip)))))) (.region [ (oN 54 (.bin .add (.t 45) (.c (.int .i64 1)))), (oN 45 (.mov (.t 54)))] [2, 10, 52, 54])))
def zgo : ACode := .region [ (oN 55 (.bin .add (.t 38) (.c (.int .i64 1)))), (oN 38 (.mov (.t 55)))] [43, 44, 45, 55]
def zgC : ACode := .seq (.region [ (oN 39 (.bin .lss (.t 38) (.t 37)))] []) (.seq (.cond (.t 39) (.skip) (.exit 2)) (.seq (.block 3 (.seq (.region [ (oN 40 (.idx 2 (.t 36) (.t 38))), (oN 41 (.load true 2 (.t 40))), (oN 7 (.alloc [.int .u32 0, .nilsl])), ⟨none, .store 2 (.t 7) (.t 41), none⟩] [39, 40, 41]) (.seq (.region [ (oN 42 (.fldaddr 1 1 (.t 7))), (oN 43 (.load false 1 (.t 42))), (oN 44 (.len (.t 43))), (oN 45 (.mov (.c (.int .i64 0))))] [7, 42]) (.block 4 (.loop zgt))))) (zgo)))
def zgp : ACode := .seq (.region [ (oN 2 (.mov (.c (.int .i64 0))))] [36, 37, 38]) (.ret)
def zgf : ACode := .seq (.seq (.region [ (oN 24 (.fldaddr 1 1 (.t 1))), (oN 25 (.load false 1 (.t 24))), (oN 26 (.len (.t 25))), (oN 27 (.bin .gtr (.t 26) (.c (.int .i64 256)))), (oN 28 (.mov (.t 27))), (oG 29 28 false (.mov (.t 3))), (oG 30 28 false (.bin .gtr (.t 29) (.c (.int .i64 1024)))), (oN 31 (.pick (.t 28) (.c (.bool true)) (.t 30)))] [3, 12, 13, 14, 24, 25, 26, 27, 28, 29, 30]) (.cond (.t 31) (.seq (.region [ (oN 2 (.mov (.c (.int .i64 6))))] [1, 31]) (.ret)) (.skip))) (.seq (.seq (.region [ (oN 32 (.load true 2 (.t 1))), (oN 33 (.call zhY [(.t 32)])), (oN 34 (.un .not (.t 33)))] [2, 31, 32, 33]) (.cond (.t 34) (.seq (.region [ (oN 2 (.mov (.c (.int .i64 18))))] [1, 34]) (.ret)) (.skip))) (.seq (.seq (.region [ (oN 35 (.fldaddr 1 1 (.t 1))), (oN 36 (.load false 1 (.t 35))), (oN 37 (.len (.t 36))), (oN 38 (.mov (.c (.int .i64 0))))] [1, 2, 34, 35]) (.block 2 (.loop zgC))) (zgp)))
def ziI : ACode := .seq (.region [ (oN 1 (.rbox (.t 0))), (oN 2 (.mov (.c (.int .i64 0))))] [0, 2]) (.seq (.region [ (oN 3 (.mov (.c (.int .i64 0))))] []) (.seq (.seq (.region [ (oN 11 (.fldaddr 1 1 (.t 1))), (oN 12 (.load false 1 (.t 11))), (oN 13 (.len (.t 12))), (oN 14 (.mov (.c (.int .i64 0))))] [11]) (.block 0 (.loop zgd))) (zgf)))
def zdU : List ARet := [.tmp 2]
theorem zm6 : zaP Tryz.prog zca (qRo [1]) = some (ziI.strip, zdU, 56) := by kernel_rfl
def zgO : ACode := .seq (.seq (.region [ (oN 12 (.mov (.t 5))), (oN 13 (.fldaddr 1 1 (.t 2))), (oN 14 (.load false 1 (.t 13))), (oN 15 (.len (.t 14))), (oN 16 (.bin .lss (.t 12) (.t 15)))] [12, 13, 14, 15]) (.cond (.t 16) (.skip) (.exit 0))) (.seq (.block 1 (.seq (.draw ( .step (oN 19 (.fldaddr 1 1 (.t 2))) ( .step (oN 20 (.load false 1 (.t 19))) ( .step (oN 21 (.mov (.t 5))) ( .step (oN 22 (.idx 8 (.t 20) (.t 21))) ( .step (oN 23 (.load true 8 (.t 22))) ( .step (oN 24 (.callq zjT [(.t 23)])) ( .step (oN 25 (.mov (.t 5))) ( .step (oN 26 (.fldaddr 1 1 (.t 2))) ( .step (oN 27 (.load false 1 (.t 26))) ( .step (oN 28 (.len (.t 27))) ( .step (oN 29 (.bin .sub (.t 28) (.c (.int .i64 1)))) ( .step (oN 30 (.bin .eql (.t 25) (.t 29))) ( .step (oN 31 (.eqb true (.t 24) (.t 30))) ( .done)))))))))))))) [16, 19, 20, 21, 22, 23, 24, 25, 26, 27, 28, 29, 30]) (.cond (.t 31) (.seq (.region [ (oN 4 (.mov (.c (.bool false))))] [1, 2, 5, 31]) (.ret)) (.skip)))) (.region [ (oN 17 (.mov (.t 5))), (oN 18 (.bin .add (.t 17) (.c (.int .i64 1)))), (oN 5 (.mov (.t 18)))] [4, 17, 18, 31]))
def zg0 : ACode := .seq (.seq (.region [ (oN 41 (.mov (.t 7))), (oN 42 (.mov (.t 6))), (oN 43 (.len (.t 42))), (oN 44 (.bin .lss (.t 41) (.t 43)))] [41, 42, 43]) (.cond (.t 44) (.skip) (.exit 2))) (.seq (.block 3 (.seq (.region [ (oN 47 (.mov (.t 6))), (oN 48 (.mov (.t 7))), (oN 49 (.idx 1 (.t 47) (.t 48))), (oN 50 (.load false 1 (.t 49))), (oN 51 (.bin .lss (.t 50) (.c (.int .i64 0)))), (oN 52 (.mov (.t 51))), (oG 53 52 false (.mov (.t 6))), (oG 54 52 false (.mov (.t 7))), (oG 55 52 false (.idx 1 (.t 53) (.t 54))), (oG 56 52 false (.load false 1 (.t 55))), (oG 57 52 false (.mov (.t 1))), (oG 58 52 false (.bin .geq (.t 56) (.t 57))), (oN 59 (.pick (.t 52) (.c (.bool true)) (.t 58)))] [44, 47, 48, 49, 50, 51, 52, 53, 54, 55, 56, 57, 58]) (.cond (.t 59) (.seq (.region [ (oN 4 (.mov (.c (.bool false))))] [1, 6, 7, 59]) (.ret)) (.skip)))) (.region [ (oN 45 (.mov (.t 7))), (oN 46 (.bin .add (.t 45) (.c (.int .i64 1)))), (oN 7 (.mov (.t 46)))] [4, 45, 46, 59]))
def zg8 : ACode := .seq (.region [ (oN 4 (.mov (.c (.bool true))))] [1, 6, 7]) (.ret)
def zgT : ACode := .seq (.region [ (oN 32 (.fldaddr 1 1 (.t 2))), (oN 33 (.load false 1 (.t 32))), (oN 34 (.fldaddr 1 1 (.t 2))), (oN 35 (.load false 1 (.t 34))), (oN 36 (.len (.t 35))), (oN 37 (.bin .sub (.t 36) (.c (.int .i64 1)))), (oN 38 (.idx 8 (.t 33) (.t 37))), (oN 39 (.load true 8 (.t 38))), (oN 40 (.call zf2 [(.t 39)])), (oN 6 (.mov (.t 40)))] [2, 5, 32, 33, 34, 35, 36, 37, 38, 39, 40]) (.seq (.seq (.region [ (oN 7 (.mov (.c (.int .i64 0))))] []) (.block 2 (.loop zg0))) (zg8))
def zji : ACode := .seq (.region [ (oN 2 (.rbox (.t 0))), (oN 4 (.mov (.c (.bool false))))] [0, 4]) (.seq (.seq (.region [ (oN 8 (.fldaddr 1 1 (.t 2))), (oN 9 (.load false 1 (.t 8))), (oN 10 (.len (.t 9))), (oN 11 (.bin .eql (.t 10) (.c (.int .i64 0))))] [8, 9, 10]) (.cond (.t 11) (.seq (.region [ (oN 4 (.mov (.c (.bool false))))] [1, 2, 11]) (.ret)) (.skip))) (.seq (.seq (.region [ (oN 5 (.mov (.c (.int .i64 0))))] [4, 11]) (.block 0 (.loop zgO))) (zgT)))
def zb9 : List ARet := [.tmp 4]
theorem znI : zaP Tryz.prog ze5 (qRo [2]) = some (zji.strip, zb9, 60) := by kernel_rfl
def zgk : ACode := .seq (.seq (.region [ (oN 22 (.mov (.t 3))), (oN 23 (.fldaddr 6 1 (.t 1))), (oN 24 (.load false 1 (.t 23))), (oN 25 (.len (.t 24))), (oN 26 (.bin .lss (.t 22) (.t 25)))] [22, 23, 24, 25]) (.cond (.t 26) (.skip) (.exit 0))) (.seq (.block 1 (.seq (.region [ (oN 29 (.fldaddr 6 1 (.t 1))), (oN 30 (.load false 1 (.t 29))), (oN 31 (.mov (.t 3))), (oN 32 (.idx 5 (.t 30) (.t 31))), (oN 33 (.load true 5 (.t 32))), (oN 34 (.call zda [(.t 33)])), (oN 4 (.mov (.t 34)))] [26, 29, 30, 31, 32, 33, 34]) (.seq (.region [ (oN 35 (.mov (.t 4))), (oN 36 (.bin .neq (.t 35) (.c (.int .i64 0))))] [35]) (.cond (.t 36) (.seq (.region [ (oN 37 (.mov (.t 4))), (oN 2 (.mov (.t 37)))] [1, 3, 4, 36, 37]) (.ret)) (.skip))))) (.region [ (oN 27 (.mov (.t 3))), (oN 28 (.bin .add (.t 27) (.c (.int .i64 1)))), (oN 3 (.mov (.t 28)))] [2, 4, 27, 28, 36]))
def zgw : ACode := .seq (.seq (.region [ (oN 38 (.load true 8 (.t 1))), (oN 39 (.call zbe [(.t 38)])), (oN 40 (.un .not (.t 39))), (oN 41 (.mov (.t 40))), (oG 42 41 false (.fldaddr 1 1 (.t 1))), (oG 43 41 false (.load false 1 (.t 42))), (oG 44 41 false (.call zgj [(.t 43)])), (oG 45 41 false (.un .not (.t 44))), (oN 46 (.pick (.t 41) (.c (.bool true)) (.t 45))), (oN 47 (.mov (.t 46))), (oG 48 47 false (.fldaddr 0 1 (.t 1))), (oG 49 47 false (.load false 1 (.t 48))), (oG 50 47 false (.bin .eql (.t 49) (.c (.int .i64 2)))), (oG 51 47 false (.mov (.t 50))), (oG 52 51 true (.fldaddr 2 1 (.t 1))), (oG 53 51 true (.load false 1 (.t 52))), (oG 54 51 true (.bin .neq (.t 53) (.c (.int .i64 1)))), (oG 55 47 false (.pick (.t 51) (.t 54) (.c (.bool false)))), (oG 56 47 false (.mov (.t 55))), (oG 57 56 true (.fldaddr 2 1 (.t 1))), (oG 58 56 true (.load false 1 (.t 57))), (oG 59 56 true (.bin .neq (.t 58) (.c (.int .i64 2)))), (oG 60 47 false (.pick (.t 56) (.t 59) (.c (.bool false)))), (oG 61 47 false (.mov (.t 60))), (oG 62 61 true (.fldaddr 2 1 (.t 1))), (oG 63 61 true (.load false 1 (.t 62))), (oG 64 61 true (.bin .neq (.t 63) (.c (.int .i64 4)))), (oG 65 47 false (.pick (.t 61) (.t 64) (.c (.bool false)))), (oN 66 (.pick (.t 47) (.c (.bool true)) (.t 65)))] [3, 38, 39, 40, 41, 42, 43, 44, 45, 46, 47, 48, 49, 50, 51, 52, 53, 54, 55, 56, 57, 58, 59, 60, 61, 62, 63, 64, 65]) (.cond (.t 66) (.seq (.region [ (oN 2 (.mov (.c (.int .i64 2))))] [1, 66]) (.ret)) (.skip))) (.seq (.seq (.region [ (oN 67 (.fldaddr 0 1 (.t 1))), (oN 68 (.load false 1 (.t 67))), (oN 69 (.bin .eql (.t 68) (.c (.int .i64 8)))), (oN 70 (.mov (.t 69))), (oG 71 70 true (.fldaddr 7 1 (.t 1))), (oG 72 70 true (.load false 1 (.t 71))), (oG 73 70 true (.len (.t 72))), (oG 74 70 true (.bin .lss (.t 73) (.c (.int .i64 1)))), (oG 75 70 true (.mov (.t 74))), (oG 76 75 false (.fldaddr 7 1 (.t 1))), (oG 77 75 false (.load false 1 (.t 76))), (oG 78 75 false (.len (.t 77))), (oG 79 75 false (.bin .gtr (.t 78) (.c (.int .i64 64)))), (oG 80 70 true (.pick (.t 75) (.c (.bool true)) (.t 79))), (oN 81 (.pick (.t 70) (.t 80) (.c (.bool false))))] [1, 2, 66, 67, 68, 69, 70, 71, 72, 73, 74, 75, 76, 77, 78, 79, 80]) (.cond (.t 81) (.seq (.region [ (oN 2 (.mov (.c (.int .i64 2))))] [81]) (.ret)) (.skip))) (.seq (.region [ (oN 2 (.mov (.c (.int .i64 0))))] [81]) (.ret)))
def ziH : ACode := .seq (.region [ (oN 1 (.rbox (.t 0))), (oN 2 (.mov (.c (.int .i64 0))))] [0, 2]) (.seq (.seq (.draw ( .step (oN 5 (.fldaddr 0 1 (.t 1))) ( .step (oN 6 (.load false 1 (.t 5))) ( .step (oN 7 (.bin .lss (.t 6) (.c (.int .i64 1)))) ( .step (oN 8 (.mov (.t 7))) ( .step (oG 9 8 false (.fldaddr 0 1 (.t 1))) ( .step (oG 10 8 false (.load false 1 (.t 9))) ( .step (oG 11 8 false (.bin .gtr (.t 10) (.c (.int .i64 10)))) ( .step (oN 12 (.pick (.t 8) (.c (.bool true)) (.t 11))) ( .step (oN 13 (.mov (.t 12))) ( .step (oG 14 13 false (.fldaddr 6 1 (.t 1))) ( .step (oG 15 13 false (.load false 1 (.t 14))) ( .step (oG 16 13 false (.len (.t 15))) ( .step (oG 17 13 false (.fldaddr 0 1 (.t 1))) ( .step (oG 18 13 false (.load false 1 (.t 17))) ( .step (oG 19 13 false (.callq zil [(.t 18)])) ( .step (oG 20 13 false (.bin .neq (.t 16) (.t 19))) ( .step (oN 21 (.pick (.t 13) (.c (.bool true)) (.t 20))) ( .done)))))))))))))))))) [5, 6, 7, 8, 9, 10, 11, 12, 13, 14, 15, 16, 17, 18, 19, 20]) (.cond (.t 21) (.seq (.region [ (oN 2 (.mov (.c (.int .i64 2))))] [1, 21]) (.ret)) (.skip))) (.seq (.seq (.region [ (oN 3 (.mov (.c (.int .i64 0))))] [2, 21]) (.block 0 (.loop zgk))) (zgw)))
def zat : List ARet := [.tmp 2]
theorem zne : zaP Tryz.prog zdh (qRo [1]) = some (ziH.strip, zat, 82) := by kernel_rfl
def zjm : ACode := .seq (.region [ (oN 14 (.bin .lss (.t 13) (.t 12)))] []) (.seq (.cond (.t 14) (.skip) (.exit 0)) (.seq (.block 1 (.seq (.region [ (oN 15 (.idx 2 (.t 11) (.t 13))), (oN 16 (.load true 2 (.t 15))), (oN 4 (.alloc [.int .u32 0, .nilsl])), ⟨none, .store 2 (.t 4) (.t 16), none⟩] [14, 15, 16]) (.seq (.region [ (oN 17 (.fldaddr 1 1 (.t 4))), (oN 18 (.load false 1 (.t 17))), (oN 19 (.len (.t 18))), (oN 5 (.mov (.t 19)))] [17, 18, 19]) (.seq (.seq (.region [ (oN 20 (.mov (.t 5))), (oN 21 (.bin .eql (.t 20) (.c (.int .i64 0)))), (oN 22 (.mov (.t 21))), (oG 23 22 false (.fldaddr 1 1 (.t 4))), (oG 24 22 false (.load false 1 (.t 23))), (oG 25 22 false (.mov (.t 5))), (oG 26 22 false (.bin .sub (.t 25) (.c (.int .i64 1)))), (oG 27 22 false (.idx 8 (.t 24) (.t 26))), (oG 28 22 false (.load true 8 (.t 27))), (oG 29 22 false (.call zcv [(.t 28)])), (oG 30 22 false (.un .not (.t 29))), (oN 31 (.pick (.t 22) (.c (.bool true)) (.t 30))), (oN 32 (.mov (.t 31))), (oG 33 32 false (.fldaddr 1 1 (.t 4))), (oG 34 32 false (.load false 1 (.t 33))), (oG 35 32 false (.mov (.t 5))), (oG 36 32 false (.bin .sub (.t 35) (.c (.int .i64 1)))), (oG 37 32 false (.slice 8 (.t 34) none (some (.t 36)))), (oG 38 32 false (.call zaN [(.t 37), (.c (.fn (.func zcv) []))])), (oN 39 (.pick (.t 32) (.c (.bool true)) (.t 38)))] [5, 20, 21, 22, 23, 24, 25, 26, 27, 28, 29, 30, 31, 32, 33, 34, 35, 36, 37, 38]) (.cond (.t 39) (.seq (.region [ (oN 2 (.mov (.c (.bool false))))] [1, 4, 11, 12, 13, 39]) (.ret)) (.skip))) (.seq (.region [ (oN 40 (.load true 2 (.t 4))), (oN 41 (.call zer [(.t 40)])), (oN 42 (.mkfn (.func zei) [(.t 1)])), (oN 43 (.call zbf [(.t 41), (.t 42)]))] [2, 4, 39, 40, 41, 42]) (.cond (.t 43) (.seq (.region [ (oN 2 (.mov (.c (.bool false))))] [1, 11, 12, 13, 43]) (.ret)) (.skip))))))) (.region [ (oN 44 (.bin .add (.t 13) (.c (.int .i64 1)))), (oN 13 (.mov (.t 44)))] [2, 43, 44])))
def zi3 : ACode := .seq (.region [ (oN 2 (.mov (.c (.bool true))))] [1, 11, 12, 13]) (.ret)
def zmK : ACode := .seq (.region [ (oN 1 (.rbox (.t 0))), (oN 2 (.mov (.c (.bool false))))] [0, 2]) (.seq (.seq (.region [ (oN 6 (.fldaddr 1 1 (.t 1))), (oN 7 (.load false 1 (.t 6))), (oN 8 (.len (.t 7))), (oN 9 (.bin .eql (.t 8) (.c (.int .i64 0))))] [6, 7, 8]) (.cond (.t 9) (.seq (.region [ (oN 2 (.mov (.c (.bool false))))] [1, 9]) (.ret)) (.skip))) (.seq (.seq (.region [ (oN 10 (.fldaddr 1 1 (.t 1))), (oN 11 (.load false 1 (.t 10))), (oN 12 (.len (.t 11))), (oN 13 (.mov (.c (.int .i64 0))))] [2, 9, 10]) (.block 0 (.loop zjm))) (zi3)))
def zde : List ARet := [.tmp 2]
theorem zrL : zaP Tryz.prog zhY (qRo [1]) = some (zmK.strip, zde, 45) := by kernel_rfl
def zg2 : ACode := .seq (.region [ (oN 23 (.bin .lss (.t 22) (.t 21)))] []) (.seq (.cond (.t 23) (.skip) (.exit 0)) (.seq (.block 1 (.seq (.region [ (oN 24 (.idx 5 (.t 20) (.t 22))), (oN 25 (.load true 5 (.t 24))), (oN 5 (.alloc [.int .i64 0, .int .u32 0, .int .i64 0, .int .i64 0, .nilsl])), ⟨none, .store 5 (.t 5) (.t 25), none⟩] [23, 24, 25]) (.seq (.region [ (oN 26 (.load true 5 (.t 5))), (oN 27 (.call zdG [(.t 26)])), (oN 6 (.mov (.t 27)))] [5, 26, 27]) (.seq (.region [ (oN 28 (.mov (.t 6))), (oN 29 (.bin .neq (.t 28) (.c (.int .i64 0))))] [28]) (.cond (.t 29) (.seq (.region [ (oN 30 (.mov (.t 6))), (oN 2 (.mov (.t 30)))] [1, 6, 20, 21, 22, 29, 30]) (.ret)) (.skip)))))) (.region [ (oN 31 (.bin .add (.t 22) (.c (.int .i64 1)))), (oN 22 (.mov (.t 31)))] [2, 6, 29, 31])))
def zgQ : ACode := .seq (.seq (.region [ (oN 32 (.load true 8 (.t 1))), (oN 33 (.call zbl [(.t 32)])), (oN 34 (.un .not (.t 33)))] [1, 20, 21, 22, 32, 33]) (.cond (.t 34) (.seq (.region [ (oN 2 (.mov (.c (.int .i64 2))))] [34]) (.ret)) (.skip))) (.seq (.region [ (oN 2 (.mov (.c (.int .i64 0))))] [34]) (.ret))
def zi1 : ACode := .seq (.region [ (oN 1 (.rbox (.t 0))), (oN 2 (.mov (.c (.int .i64 0))))] [0, 2]) (.seq (.seq (.region [ (oN 7 (.fldaddr 0 1 (.t 1))), (oN 8 (.load false 1 (.t 7))), (oN 9 (.call zdQ [(.t 8)])), (oN 3 (.mov (.t 9)))] [7, 8, 9]) (.seq (.region [ (oN 10 (.mov (.t 3))), (oN 11 (.bin .lss (.t 10) (.c (.int .i64 0)))), (oN 12 (.mov (.t 11))), (oG 13 12 false (.mov (.t 3))), (oG 14 12 false (.fldaddr 6 1 (.t 1))), (oG 15 12 false (.load false 1 (.t 14))), (oG 16 12 false (.len (.t 15))), (oG 17 12 false (.bin .neq (.t 13) (.t 16))), (oN 18 (.pick (.t 12) (.c (.bool true)) (.t 17)))] [3, 10, 11, 12, 13, 14, 15, 16, 17]) (.cond (.t 18) (.seq (.region [ (oN 2 (.mov (.c (.int .i64 2))))] [1, 18]) (.ret)) (.skip)))) (.seq (.seq (.region [ (oN 19 (.fldaddr 6 1 (.t 1))), (oN 20 (.load false 1 (.t 19))), (oN 21 (.len (.t 20))), (oN 22 (.mov (.c (.int .i64 0))))] [2, 18, 19]) (.block 0 (.loop zg2))) (zgQ)))
def zbm : List ARet := [.tmp 2]
theorem zot : zaP Tryz.prog zdK (qRo [1]) = some (zi1.strip, zbm, 35) := by kernel_rfl
def ziB : ACode := .seq (.region [ (oN 1 (.rbox (.t 0))), (oN 2 (.mknil 1))] [0, 2]) (.seq (.seq (.region [ (oN 4 (.fldaddr 1 1 (.t 1))), (oN 5 (.load false 1 (.t 4))), (oN 6 (.len (.t 5))), (oN 7 (.bin .eql (.t 6) (.c (.int .i64 0))))] [4, 5, 6]) (.cond (.t 7) (.seq (.region [ (oN 2 (.mknil 1))] [1, 7]) (.ret)) (.skip))) (.seq (.region [ (oN 8 (.fldaddr 1 1 (.t 1))), (oN 9 (.load false 1 (.t 8))), (oN 10 (.fldaddr 1 1 (.t 1))), (oN 11 (.load false 1 (.t 10))), (oN 12 (.len (.t 11))), (oN 13 (.bin .sub (.t 12) (.c (.int .i64 1)))), (oN 14 (.idx 8 (.t 9) (.t 13))), (oN 15 (.load true 8 (.t 14))), (oN 3 (.alloc [.int .i64 0, .int .i64 0, .int .i64 0, .int .i64 0, .int .i64 0, .int .u32 0, .nilsl, .nilsl])), ⟨none, .store 8 (.t 3) (.t 15), none⟩] [1, 2, 7, 8, 9, 10, 11, 12, 13, 14, 15]) (.seq (.seq (.region [ (oN 16 (.fldaddr 0 1 (.t 3))), (oN 17 (.load false 1 (.t 16)))] [16]) (.block 0 (.seq (.region [ (oN 19 (.bin .eql (.t 17) (.c (.int .i64 6)))), (oN 18 (.mov (.t 19)))] [19]) (.cond (.t 18) (.seq (.region [ (oN 20 (.fldaddr 3 1 (.t 3))), (oN 21 (.load false 1 (.t 20))), (oN 22 (.buildSl 1 1 [.int .i64 0] [(0, (.t 21))])), (oN 2 (.mov (.t 22)))] [3, 17, 18, 20, 21, 22]) (.ret)) (.seq (.region [ (oN 24 (.bin .eql (.t 17) (.c (.int .i64 7)))), (oN 23 (.mov (.t 24)))] [18, 24]) (.cond (.t 23) (.seq (.region [ (oN 25 (.fldaddr 3 1 (.t 3))), (oN 26 (.load false 1 (.t 25))), (oN 27 (.fldaddr 4 1 (.t 3))), (oN 28 (.load false 1 (.t 27))), (oN 29 (.buildSl 1 2 [.int .i64 0] [(0, (.t 26)), (1, (.t 28))])), (oN 2 (.mov (.t 29)))] [3, 17, 23, 25, 26, 27, 28, 29]) (.ret)) (.seq (.region [ (oN 31 (.bin .eql (.t 17) (.c (.int .i64 8)))), (oN 30 (.mov (.t 31)))] [17, 23, 31]) (.cond (.t 30) (.seq (.region [ (oN 32 (.fldaddr 7 1 (.t 3))), (oN 33 (.load false 1 (.t 32))), (oN 34 (.call zaz [(.t 33)])), (oN 2 (.mov (.t 34)))] [3, 30, 32, 33, 34]) (.ret)) (.skip))))))))) (.seq (.region [ (oN 2 (.mknil 1))] [3, 30]) (.ret)))))
def zck : List ARet := [.tmp 2]
theorem zmU : zaP Tryz.prog zer (qRo [1]) = some (ziB.strip, zck, 35) := by kernel_rfl
def zn1 : ACode := .seq (.region [ (oN 1 (.rbox (.t 0))), (oN 2 (.mov (.c (.bool false))))] [0, 2]) (.seq (.region [ (oN 3 (.fldaddr 0 1 (.t 1))), (oN 4 (.load false 1 (.t 3))), (oN 5 (.bin .geq (.t 4) (.c (.int .i64 6)))), (oN 6 (.mov (.t 5))), (oG 7 6 true (.fldaddr 0 1 (.t 1))), (oG 8 6 true (.load false 1 (.t 7))), (oG 9 6 true (.bin .leq (.t 8) (.c (.int .i64 10)))), (oN 10 (.pick (.t 6) (.t 9) (.c (.bool false)))), (oN 2 (.mov (.t 10)))] [1, 3, 4, 5, 6, 7, 8, 9, 10]) (.ret))
def zkF : List ARet := [.tmp 2]
theorem ztg : zaP Tryz.prog zjT (qRo [1]) = some (zn1.strip, zkF, 11) := by kernel_rfl
def zkh : ACode := .seq (.region [ (oN 1 (.rbox (.t 0))), (oN 2 (.mknil 1))] [0, 2]) (.seq (.seq (.region [ (oN 3 (.fldaddr 0 1 (.t 1))), (oN 4 (.load false 1 (.t 3)))] [3]) (.block 0 (.seq (.region [ (oN 6 (.bin .eql (.t 4) (.c (.int .i64 6)))), (oN 5 (.mov (.t 6)))] [6]) (.cond (.t 5) (.seq (.region [ (oN 7 (.fldaddr 3 1 (.t 1))), (oN 8 (.load false 1 (.t 7))), (oN 9 (.buildSl 1 1 [.int .i64 0] [(0, (.t 8))])), (oN 2 (.mov (.t 9)))] [1, 4, 5, 7, 8, 9]) (.ret)) (.seq (.region [ (oN 11 (.bin .eql (.t 4) (.c (.int .i64 7)))), (oN 10 (.mov (.t 11)))] [5, 11]) (.cond (.t 10) (.seq (.region [ (oN 12 (.fldaddr 3 1 (.t 1))), (oN 13 (.load false 1 (.t 12))), (oN 14 (.fldaddr 4 1 (.t 1))), (oN 15 (.load false 1 (.t 14))), (oN 16 (.buildSl 1 2 [.int .i64 0] [(0, (.t 13)), (1, (.t 15))])), (oN 2 (.mov (.t 16)))] [1, 4, 10, 12, 13, 14, 15, 16]) (.ret)) (.seq (.region [ (oN 18 (.bin .eql (.t 4) (.c (.int .i64 8)))), (oN 17 (.mov (.t 18)))] [4, 10, 18]) (.cond (.t 17) (.seq (.region [ (oN 19 (.fldaddr 7 1 (.t 1))), (oN 20 (.load false 1 (.t 19))), (oN 2 (.mov (.t 20)))] [1, 17, 19, 20]) (.ret)) (.skip))))))))) (.seq (.region [ (oN 2 (.mknil 1))] [1, 17]) (.ret)))
def zdM : List ARet := [.tmp 2]
theorem zoM : zaP Tryz.prog zf2 (qRo [1]) = some (zkh.strip, zdM, 21) := by kernel_rfl
def zmd : ACode := .seq (.region [ (oN 2 (.mov (.c (.int .i64 0))))] [2]) (.seq (.seq (.region [ (oN 3 (.mov (.t 0)))] [0]) (.block 0 (.seq (.region [ (oN 5 (.bin .eql (.t 3) (.c (.int .i64 2)))), (oN 4 (.mov (.t 5)))] [5]) (.cond (.t 4) (.seq (.region [ (oN 2 (.mov (.c (.int .i64 2))))] [3, 4]) (.ret)) (.seq (.seq (.region [ (oN 7 (.bin .eql (.t 3) (.c (.int .i64 1)))), (oN 6 (.mov (.t 7)))] [4, 7]) (.cond (.t 6) (.skip) (.seq (.region [ (oN 8 (.bin .eql (.t 3) (.c (.int .i64 4)))), (oN 6 (.mov (.t 8)))] [8]) (.cond (.t 6) (.skip) (.seq (.region [ (oN 9 (.bin .eql (.t 3) (.c (.int .i64 7)))), (oN 6 (.mov (.t 9)))] [9]) (.cond (.t 6) (.skip) (.region [ (oN 10 (.bin .eql (.t 3) (.c (.int .i64 8)))), (oN 6 (.mov (.t 10)))] [3, 10]))))))) (.cond (.t 6) (.seq (.region [ (oN 2 (.mov (.c (.int .i64 1))))] [3, 6]) (.ret)) (.skip))))))) (.seq (.region [ (oN 2 (.mov (.c (.int .i64 0))))] [3, 6]) (.ret)))
def zdj : List ARet := [.tmp 2]
theorem zrQ : zaP Tryz.prog zil (qRo []) = some (zmd.strip, zdj, 11) := by kernel_rfl
def zip : ACode := .seq (.region [ (oN 1 (.rbox (.t 0))), (oN 2 (.mov (.c (.int .i64 0))))] [0, 2]) (.seq (.seq (.region [ (oN 3 (.load true 5 (.t 1))), (oN 4 (.call zfj [(.t 3), (.c (.int .i64 64))]))] [3]) (.cond (.t 4) (.seq (.region [ (oN 2 (.mov (.c (.int .i64 20))))] [1, 4]) (.ret)) (.skip))) (.seq (.seq (.region [ (oN 5 (.load true 5 (.t 1))), (oN 6 (.call zdP [(.t 5)])), (oN 7 (.un .not (.t 6)))] [1, 2, 4, 5, 6]) (.cond (.t 7) (.seq (.region [ (oN 2 (.mov (.c (.int .i64 2))))] [7]) (.ret)) (.skip))) (.seq (.region [ (oN 2 (.mov (.c (.int .i64 0))))] [7]) (.ret))))
def zdS : List ARet := [.tmp 2]
theorem znb : zaP Tryz.prog zda (qRo [1]) = some (zip.strip, zdS, 8) := by kernel_rfl
def zbq : ACode := .seq (.region [ (oN 1 (.rbox (.t 0))), (oN 2 (.mov (.c (.bool false))))] [0, 2]) (.seq (.region [ (oN 5 (.fldaddr 0 1 (.t 1))), (oN 6 (.load false 1 (.t 5))), (oN 7 (.bin .eql (.t 6) (.c (.int .i64 1)))), (oN 8 (.mov (.t 7))), (oG 9 8 false (.fldaddr 0 1 (.t 1))), (oG 10 8 false (.load false 1 (.t 9))), (oG 11 8 false (.bin .eql (.t 10) (.c (.int .i64 3)))), (oN 12 (.pick (.t 8) (.c (.bool true)) (.t 11))), (oN 3 (.mov (.t 12)))] [5, 6, 7, 8, 9, 10, 11, 12]) (.seq (.region [ (oN 13 (.fldaddr 0 1 (.t 1))), (oN 14 (.load false 1 (.t 13))), (oN 15 (.bin .eql (.t 14) (.c (.int .i64 6)))), (oN 16 (.mov (.t 15))), (oG 17 16 false (.fldaddr 0 1 (.t 1))), (oG 18 16 false (.load false 1 (.t 17))), (oG 19 16 false (.bin .eql (.t 18) (.c (.int .i64 7)))), (oN 20 (.pick (.t 16) (.c (.bool true)) (.t 19))), (oN 4 (.mov (.t 20)))] [13, 14, 15, 16, 17, 18, 19, 20]) (.seq (.region [ (oN 21 (.mov (.t 3))), (oN 22 (.mov (.t 21))), (oG 23 22 false (.fldaddr 1 1 (.t 1))), (oG 24 22 false (.load false 1 (.t 23))), (oG 25 22 false (.bin .eql (.t 24) (.c (.int .i64 0)))), (oN 26 (.pick (.t 22) (.c (.bool true)) (.t 25))), (oN 27 (.mov (.t 26))), (oG 28 27 true (.fldaddr 0 1 (.t 1))), (oG 29 27 true (.load false 1 (.t 28))), (oG 30 27 true (.bin .eql (.t 29) (.c (.int .i64 2)))), (oG 31 27 true (.mov (.t 30))), (oG 32 31 false (.fldaddr 2 1 (.t 1))), (oG 33 31 false (.load false 1 (.t 32))), (oG 34 31 false (.bin .eql (.t 33) (.c (.int .i64 0)))), (oG 35 27 true (.pick (.t 31) (.c (.bool true)) (.t 34))), (oN 36 (.pick (.t 27) (.t 35) (.c (.bool false)))), (oN 37 (.mov (.t 36))), (oG 38 37 true (.mov (.t 4))), (oG 39 37 true (.mov (.t 38))), (oG 40 39 false (.fldaddr 3 1 (.t 1))), (oG 41 39 false (.load false 1 (.t 40))), (oG 42 39 false (.bin .eql (.t 41) (.c (.int .i64 0)))), (oG 43 37 true (.pick (.t 39) (.c (.bool true)) (.t 42))), (oN 44 (.pick (.t 37) (.t 43) (.c (.bool false)))), (oN 45 (.mov (.t 44))), (oG 46 45 true (.fldaddr 0 1 (.t 1))), (oG 47 45 true (.load false 1 (.t 46))), (oG 48 45 true (.bin .eql (.t 47) (.c (.int .i64 7)))), (oG 49 45 true (.mov (.t 48))), (oG 50 49 false (.fldaddr 4 1 (.t 1))), (oG 51 49 false (.load false 1 (.t 50))), (oG 52 49 false (.bin .eql (.t 51) (.c (.int .i64 0)))), (oG 53 45 true (.pick (.t 49) (.c (.bool true)) (.t 52))), (oN 54 (.pick (.t 45) (.t 53) (.c (.bool false)))), (oN 55 (.mov (.t 54))), (oG 56 55 true (.fldaddr 0 1 (.t 1))), (oG 57 55 true (.load false 1 (.t 56))), (oG 58 55 true (.bin .eql (.t 57) (.c (.int .i64 5)))), (oG 59 55 true (.mov (.t 58))), (oG 60 59 false (.fldaddr 5 1 (.t 1))), (oG 61 59 false (.load false 1 (.t 60))), (oG 62 59 false (.bin .eql (.t 61) (.c (.int .u32 0)))), (oG 63 55 true (.pick (.t 59) (.c (.bool true)) (.t 62))), (oN 64 (.pick (.t 55) (.t 63) (.c (.bool false)))), (oN 65 (.mov (.t 64))), (oG 66 65 true (.fldaddr 0 1 (.t 1))), (oG 67 65 true (.load false 1 (.t 66))), (oG 68 65 true (.bin .eql (.t 67) (.c (.int .i64 8)))), (oG 69 65 true (.mov (.t 68))), (oG 70 69 false (.fldaddr 7 1 (.t 1))), (oG 71 69 false (.load false 1 (.t 70))), (oG 72 69 false (.len (.t 71))), (oG 73 69 false (.bin .eql (.t 72) (.c (.int .i64 0)))), (oG 74 65 true (.pick (.t 69) (.c (.bool true)) (.t 73))), (oN 75 (.pick (.t 65) (.t 74) (.c (.bool false)))), (oN 2 (.mov (.t 75)))] [1, 3, 4, 21, 22, 23, 24, 25, 26, 27, 28, 29, 30, 31, 32, 33, 34, 35, 36, 37, 38, 39, 40, 41, 42, 43, 44, 45, 46, 47, 48, 49, 50, 51, 52, 53, 54, 55, 56, 57, 58, 59, 60, 61, 62, 63, 64, 65, 66, 67, 68, 69, 70, 71, 72, 73, 74, 75]) (.ret))))
def zag : List ARet := [.tmp 2]
theorem zbI : zaP Tryz.prog zbe (qRo [1]) = some (zbq.strip, zag, 76) := by kernel_rfl
def zmQ : ACode := .seq (.region [ (oN 2 (.mov (.c (.bool false))))] [2]) (.seq (.region [ (oN 3 (.mov (.t 0))), (oN 4 (.bin .geq (.t 3) (.c (.int .i64 0)))), (oN 5 (.mov (.t 4))), (oG 6 5 true (.mov (.t 0))), (oG 7 5 true (.bin .lss (.t 6) (.c (.int .i64 65536)))), (oN 8 (.pick (.t 5) (.t 7) (.c (.bool false)))), (oN 2 (.mov (.t 8)))] [0, 3, 4, 5, 6, 7, 8]) (.ret))
def zi4 : List ARet := [.tmp 2]
theorem zqK : zaP Tryz.prog zgj (qRo []) = some (zmQ.strip, zi4, 9) := by kernel_rfl
def zjt : ACode := .seq (.region [ (oN 1 (.rbox (.t 0))), (oN 2 (.mov (.c (.int .i64 0))))] [0, 2]) (.seq (.block 0 (.seq (.region [ (oN 4 (.load true 5 (.t 1))), (oN 5 (.call zff [(.t 4), (.c (.int .i64 64))])), (oN 6 (.un .not (.t 5))), (oN 3 (.mov (.t 6)))] [4, 5, 6]) (.cond (.t 3) (.seq (.region [ (oN 2 (.mov (.c (.int .i64 20))))] [1, 3]) (.ret)) (.seq (.region [ (oN 8 (.load true 5 (.t 1))), (oN 9 (.call zba [(.t 8)])), (oN 10 (.un .not (.t 9))), (oN 7 (.mov (.t 10)))] [1, 3, 8, 9, 10]) (.cond (.t 7) (.seq (.region [ (oN 2 (.mov (.c (.int .i64 2))))] [7]) (.ret)) (.skip)))))) (.seq (.region [ (oN 2 (.mov (.c (.int .i64 0))))] [7]) (.ret)))
def zen : List ARet := [.tmp 2]
theorem znw : zaP Tryz.prog zdG (qRo [1]) = some (zjt.strip, zen, 11) := by kernel_rfl
def zit : ACode := .seq (.region [ (oN 1 (.rbox (.t 0))), (oN 2 (.mov (.c (.bool false))))] [0, 2]) (.seq (.region [ (oN 3 (.fldaddr 0 1 (.t 1))), (oN 4 (.load false 1 (.t 3))), (oN 5 (.bin .geq (.t 4) (.c (.int .i64 6)))), (oN 6 (.mov (.t 5))), (oG 7 6 true (.fldaddr 0 1 (.t 1))), (oG 8 6 true (.load false 1 (.t 7))), (oG 9 6 true (.bin .leq (.t 8) (.c (.int .i64 10)))), (oN 10 (.pick (.t 6) (.t 9) (.c (.bool false)))), (oN 2 (.mov (.t 10)))] [1, 3, 4, 5, 6, 7, 8, 9, 10]) (.ret))
def zfp : List ARet := [.tmp 2]
theorem zm1 : zaP Tryz.prog zcv (qRo [1]) = some (zit.strip, zfp, 11) := by kernel_rfl
def zbB : ACode := .seq (.region [ (oN 4 (.mov (.c (.bool false))))] [4]) (.seq (.region [ (oN 5 (.mov (.t 0))), (oN 6 (.mov (.t 1))), (oN 7 (.call zaT [(.t 5), (.t 6)])), (oN 8 (.bin .geq (.t 7) (.c (.int .i64 0)))), (oN 4 (.mov (.t 8)))] [0, 1, 5, 6, 7, 8]) (.ret))
def zbA : List ARet := [.tmp 4]
theorem zc2 : zaP Tryz.prog zaN (qRo []) = some (zbB.strip, zbA, 9) := by kernel_rfl
def zcA : ACode := .seq (.region [ (oN 4 (.mov (.c (.bool false))))] [4]) (.seq (.region [ (oN 5 (.mov (.t 0))), (oN 6 (.mov (.t 1))), (oN 7 (.call zaV [(.t 5), (.t 6)])), (oN 8 (.bin .geq (.t 7) (.c (.int .i64 0)))), (oN 4 (.mov (.t 8)))] [0, 1, 5, 6, 7, 8]) (.ret))
def zcC : List ARet := [.tmp 4]
theorem zfl : zaP Tryz.prog zbf (qRo []) = some (zcA.strip, zcC, 9) := by kernel_rfl
def zkq : ACode := .seq (.region [ (oN 3 (.mov (.c (.bool false))))] [3]) (.seq (.region [ (oN 4 (.mov (.t 0))), (oN 5 (.bin .lss (.t 4) (.c (.int .i64 0)))), (oN 6 (.mov (.t 5))), (oG 7 6 false (.mov (.t 0))), (oG 8 6 false (.fldaddr 1 1 (.t 1))), (oG 9 6 false (.load false 1 (.t 8))), (oG 10 6 false (.len (.t 9))), (oG 11 6 false (.bin .geq (.t 7) (.t 10))), (oN 12 (.pick (.t 6) (.c (.bool true)) (.t 11))), (oN 3 (.mov (.t 12)))] [0, 1, 4, 5, 6, 7, 8, 9, 10, 11, 12]) (.ret))
def ze8 : List ARet := [.tmp 3]
theorem zox : zaP Tryz.prog zei (qRo []) = some (zkq.strip, ze8, 13) := by kernel_rfl
def zhn : ACode := .seq (.region [ (oN 2 (.mov (.c (.int .i64 0))))] [2]) (.seq (.seq (.region [ (oN 3 (.mov (.t 0)))] [0]) (.block 0 (.seq (.seq (.region [ (oN 5 (.bin .eql (.t 3) (.c (.int .i64 1)))), (oN 4 (.mov (.t 5)))] [5]) (.cond (.t 4) (.skip) (.seq (.region [ (oN 6 (.bin .eql (.t 3) (.c (.int .i64 4)))), (oN 4 (.mov (.t 6)))] [6]) (.cond (.t 4) (.skip) (.seq (.region [ (oN 7 (.bin .eql (.t 3) (.c (.int .i64 7)))), (oN 4 (.mov (.t 7)))] [7]) (.cond (.t 4) (.skip) (.region [ (oN 8 (.bin .eql (.t 3) (.c (.int .i64 8)))), (oN 4 (.mov (.t 8)))] [8]))))))) (.cond (.t 4) (.seq (.region [ (oN 2 (.mov (.c (.int .i64 1))))] [3, 4]) (.ret)) (.seq (.region [ (oN 10 (.bin .eql (.t 3) (.c (.int .i64 2)))), (oN 9 (.mov (.t 10)))] [4, 10]) (.cond (.t 9) (.seq (.region [ (oN 2 (.mov (.c (.int .i64 2))))] [3, 9]) (.ret)) (.seq (.seq (.region [ (oN 12 (.bin .eql (.t 3) (.c (.int .i64 3)))), (oN 11 (.mov (.t 12)))] [9, 12]) (.cond (.t 11) (.skip) (.seq (.region [ (oN 13 (.bin .eql (.t 3) (.c (.int .i64 5)))), (oN 11 (.mov (.t 13)))] [13]) (.cond (.t 11) (.skip) (.seq (.region [ (oN 14 (.bin .eql (.t 3) (.c (.int .i64 6)))), (oN 11 (.mov (.t 14)))] [14]) (.cond (.t 11) (.skip) (.seq (.region [ (oN 15 (.bin .eql (.t 3) (.c (.int .i64 9)))), (oN 11 (.mov (.t 15)))] [15]) (.cond (.t 11) (.skip) (.region [ (oN 16 (.bin .eql (.t 3) (.c (.int .i64 10)))), (oN 11 (.mov (.t 16)))] [3, 16]))))))))) (.cond (.t 11) (.seq (.region [ (oN 2 (.mov (.c (.int .i64 0))))] [3, 11]) (.ret)) (.skip))))))))) (.seq (.region [ (oN 2 (.mov (.c (.int .i64 (-1)))))] [3, 11]) (.ret)))
def zaL : List ARet := [.tmp 2]
theorem zl3 : zaP Tryz.prog zdQ (qRo []) = some (zhn.strip, zaL, 17) := by kernel_rfl
def zbL : ACode := .seq (.region [ (oN 1 (.rbox (.t 0))), (oN 2 (.mov (.c (.bool false))))] [0, 2]) (.seq (.region [ (oN 3 (.alloc [.int .i64 0, .int .i64 0, .int .i64 0, .int .i64 0, .int .i64 0, .int .u32 0, .nilsl, .nilsl]))] []) (.seq (.region [ (oN 4 (.mov (.c (.int .i64 0))))] []) (.seq (.seq (.region [ (oN 5 (.fldaddr 0 1 (.t 1))), (oN 6 (.load false 1 (.t 5)))] [5]) (.block 0 (.seq (.seq (.region [ (oN 8 (.bin .eql (.t 6) (.c (.int .i64 1)))), (oN 7 (.mov (.t 8)))] [8]) (.cond (.t 7) (.skip) (.region [ (oN 9 (.bin .eql (.t 6) (.c (.int .i64 3)))), (oN 7 (.mov (.t 9)))] [9]))) (.cond (.t 7) (.seq (.region [ (oN 10 (.fldaddr 1 1 (.t 1))), (oN 11 (.load false 1 (.t 10))), (oN 12 (.fldaddr 1 1 (.t 3))), ⟨none, .store 1 (.t 12) (.t 11), none⟩] [6, 7, 10, 11, 12]) (.seq (.region [ (oN 13 (.fldaddr 1 1 (.t 1))), (oN 14 (.load false 1 (.t 13))), (oN 15 (.call zee [(.t 14)])), (oN 16 (.un .not (.t 15)))] [13, 14, 15]) (.cond (.t 16) (.seq (.region [ (oN 2 (.mov (.c (.bool false))))] [1, 3, 4, 16]) (.ret)) (.skip)))) (.seq (.region [ (oN 18 (.bin .eql (.t 6) (.c (.int .i64 2)))), (oN 17 (.mov (.t 18)))] [7, 18]) (.cond (.t 17) (.seq (.region [ (oN 19 (.fldaddr 2 1 (.t 1))), (oN 20 (.load false 1 (.t 19))), (oN 21 (.fldaddr 2 1 (.t 3))), ⟨none, .store 1 (.t 21) (.t 20), none⟩] [6, 17, 19, 20, 21]) (.seq (.region [ (oN 22 (.fldaddr 2 1 (.t 1))), (oN 23 (.load false 1 (.t 22))), (oN 24 (.call zgb [(.t 23)])), (oN 25 (.un .not (.t 24)))] [22, 23, 24]) (.cond (.t 25) (.seq (.region [ (oN 2 (.mov (.c (.bool false))))] [1, 3, 4, 25]) (.ret)) (.skip)))) (.seq (.region [ (oN 27 (.bin .eql (.t 6) (.c (.int .i64 5)))), (oN 26 (.mov (.t 27)))] [17, 27]) (.cond (.t 26) (.region [ (oN 28 (.fldaddr 5 1 (.t 1))), (oN 29 (.load false 1 (.t 28))), (oN 30 (.fldaddr 5 1 (.t 3))), ⟨none, .store 1 (.t 30) (.t 29), none⟩] [6, 26, 28, 29, 30]) (.seq (.region [ (oN 32 (.bin .eql (.t 6) (.c (.int .i64 6)))), (oN 31 (.mov (.t 32)))] [26, 32]) (.cond (.t 31) (.region [ (oN 33 (.fldaddr 3 1 (.t 1))), (oN 34 (.load false 1 (.t 33))), (oN 35 (.fldaddr 3 1 (.t 3))), ⟨none, .store 1 (.t 35) (.t 34), none⟩] [6, 31, 33, 34, 35]) (.seq (.region [ (oN 37 (.bin .eql (.t 6) (.c (.int .i64 7)))), (oN 36 (.mov (.t 37)))] [31, 37]) (.cond (.t 36) (.draw ( .step (oN 38 (.fldaddr 3 1 (.t 1))) ( .step (oN 39 (.load false 1 (.t 38))) ( .step (oN 40 (.fldaddr 4 1 (.t 1))) ( .step (oN 42 (.fldaddr 3 1 (.t 3))) ( .alt (oN 41 (.load false 1 (.t 40))) ( .alt ⟨none, .store 1 (.t 42) (.t 39), none⟩ ( .step (oN 43 (.fldaddr 4 1 (.t 3))) ( .alt ⟨none, .store 1 (.t 43) (.t 41), none⟩ ( .done) ( .stop))) ( .stop)) ( .alt ⟨none, .store 1 (.t 42) (.t 39), none⟩ ( .step (oN 41 (.load false 1 (.t 40))) ( .step (oN 43 (.fldaddr 4 1 (.t 3))) ( .alt ⟨none, .store 1 (.t 43) (.t 41), none⟩ ( .done) ( .stop)))) ( .stop))))))) [6, 36, 38, 39, 40, 41, 42, 43]) (.seq (.region [ (oN 45 (.bin .eql (.t 6) (.c (.int .i64 8)))), (oN 44 (.mov (.t 45)))] [6, 36, 45]) (.cond (.t 44) (.seq (.region [ (oN 46 (.fldaddr 7 1 (.t 1))), (oN 47 (.load false 1 (.t 46))), (oN 48 (.len (.t 47))), (oN 4 (.mov (.t 48)))] [44, 46, 47, 48]) (.seq (.region [ (oN 49 (.mov (.t 4))), (oN 50 (.bin .lss (.t 49) (.c (.int .i64 1)))), (oN 51 (.mov (.t 50))), (oG 52 51 false (.mov (.t 4))), (oG 53 51 false (.bin .gtr (.t 52) (.c (.int .i64 64)))), (oN 54 (.pick (.t 51) (.c (.bool true)) (.t 53)))] [49, 50, 51, 52, 53]) (.cond (.t 54) (.seq (.region [ (oN 2 (.mov (.c (.bool false))))] [1, 3, 4, 54]) (.ret)) (.skip)))) (.skip))))))))))))))) (.seq (.region [ (oN 55 (.fldaddr 1 1 (.t 1))), (oN 56 (.load false 1 (.t 55))), (oN 57 (.fldaddr 1 1 (.t 3))), (oN 58 (.load false 1 (.t 57))), (oN 59 (.bin .eql (.t 56) (.t 58))), (oN 60 (.mov (.t 59))), (oG 61 60 true (.fldaddr 2 1 (.t 1))), (oG 62 60 true (.load false 1 (.t 61))), (oG 63 60 true (.fldaddr 2 1 (.t 3))), (oG 64 60 true (.load false 1 (.t 63))), (oG 65 60 true (.bin .eql (.t 62) (.t 64))), (oN 66 (.pick (.t 60) (.t 65) (.c (.bool false)))), (oN 67 (.mov (.t 66))), (oG 68 67 true (.fldaddr 5 1 (.t 1))), (oG 69 67 true (.load false 1 (.t 68))), (oG 70 67 true (.fldaddr 5 1 (.t 3))), (oG 71 67 true (.load false 1 (.t 70))), (oG 72 67 true (.bin .eql (.t 69) (.t 71))), (oN 73 (.pick (.t 67) (.t 72) (.c (.bool false)))), (oN 74 (.mov (.t 73))), (oG 75 74 true (.fldaddr 3 1 (.t 1))), (oG 76 74 true (.load false 1 (.t 75))), (oG 77 74 true (.fldaddr 3 1 (.t 3))), (oG 78 74 true (.load false 1 (.t 77))), (oG 79 74 true (.bin .eql (.t 76) (.t 78))), (oN 80 (.pick (.t 74) (.t 79) (.c (.bool false)))), (oN 81 (.mov (.t 80))), (oG 82 81 true (.fldaddr 4 1 (.t 1))), (oG 83 81 true (.load false 1 (.t 82))), (oG 84 81 true (.fldaddr 4 1 (.t 3))), (oG 85 81 true (.load false 1 (.t 84))), (oG 86 81 true (.bin .eql (.t 83) (.t 85))), (oN 87 (.pick (.t 81) (.t 86) (.c (.bool false)))), (oN 88 (.mov (.t 87))), (oG 89 88 true (.fldaddr 7 1 (.t 1))), (oG 90 88 true (.load false 1 (.t 89))), (oG 91 88 true (.len (.t 90))), (oG 92 88 true (.mov (.t 4))), (oG 93 88 true (.bin .eql (.t 91) (.t 92))), (oN 94 (.pick (.t 88) (.t 93) (.c (.bool false)))), (oN 2 (.mov (.t 94)))] [1, 3, 4, 16, 25, 44, 54, 55, 56, 57, 58, 59, 60, 61, 62, 63, 64, 65, 66, 67, 68, 69, 70, 71, 72, 73, 74, 75, 76, 77, 78, 79, 80, 81, 82, 83, 84, 85, 86, 87, 88, 89, 90, 91, 92, 93, 94]) (.ret)))))
def zad : List ARet := [.tmp 2]
theorem zb2 : zaP Tryz.prog zbl (qRo [1]) = some (zbL.strip, zad, 95) := by kernel_rfl
def ziE : ACode := .seq (.seq (.region [ (oN 8 (.mov (.t 5))), (oN 9 (.fldaddr 4 1 (.t 2))), (oN 10 (.load false 1 (.t 9))), (oN 11 (.len (.t 10))), (oN 12 (.bin .lss (.t 8) (.t 11)))] [8, 9, 10, 11]) (.cond (.t 12) (.skip) (.exit 0))) (.seq (.block 1 (.seq (.region [ (oN 15 (.fldaddr 4 1 (.t 2))), (oN 16 (.load false 1 (.t 15))), (oN 17 (.mov (.t 5))), (oN 18 (.idx 5 (.t 16) (.t 17))), (oN 19 (.load true 5 (.t 18))), (oN 20 (.mov (.t 1))), (oN 21 (.bin .sub (.t 20) (.c (.int .i64 1)))), (oN 22 (.call zfj [(.t 19), (.t 21)]))] [12, 15, 16, 17, 18, 19, 20, 21]) (.cond (.t 22) (.seq (.region [ (oN 4 (.mov (.c (.bool true))))] [1, 2, 5, 22]) (.ret)) (.skip)))) (.region [ (oN 13 (.mov (.t 5))), (oN 14 (.bin .add (.t 13) (.c (.int .i64 1)))), (oN 5 (.mov (.t 14)))] [4, 13, 14, 22]))
def ziD : ACode := .seq (.region [ (oN 4 (.mov (.c (.bool false))))] [1, 2, 5]) (.ret)
def zlt : ACode := .seq (.region [ (oN 2 (.rbox (.t 0))), (oN 4 (.mov (.c (.bool false))))] [0, 4]) (.seq (.seq (.region [ (oN 6 (.mov (.t 1))), (oN 7 (.bin .lss (.t 6) (.c (.int .i64 1))))] [6]) (.cond (.t 7) (.seq (.region [ (oN 4 (.mov (.c (.bool true))))] [1, 2, 7]) (.ret)) (.skip))) (.seq (.seq (.region [ (oN 5 (.mov (.c (.int .i64 0))))] [4, 7]) (.block 0 (.loop ziE))) (ziD)))
def zf4 : List ARet := [.tmp 4]
theorem zpG : zaP Tryz.prog zfj (qRo [2]) = some (zlt.strip, zf4, 23) := by kernel_rfl
def zgX : ACode := .seq (.seq (.region [ (oN 4 (.mov (.t 3))), (oN 5 (.fldaddr 4 1 (.t 1))), (oN 6 (.load false 1 (.t 5))), (oN 7 (.len (.t 6))), (oN 8 (.bin .lss (.t 4) (.t 7)))] [4, 5, 6, 7]) (.cond (.t 8) (.skip) (.exit 0))) (.seq (.block 1 (.seq (.region [ (oN 11 (.fldaddr 4 1 (.t 1))), (oN 12 (.load false 1 (.t 11))), (oN 13 (.mov (.t 3))), (oN 14 (.idx 5 (.t 12) (.t 13))), (oN 15 (.load true 5 (.t 14))), (oN 16 (.call zdP [(.t 15)])), (oN 17 (.un .not (.t 16)))] [8, 11, 12, 13, 14, 15, 16]) (.cond (.t 17) (.seq (.region [ (oN 2 (.mov (.c (.bool false))))] [1, 3, 17]) (.ret)) (.skip)))) (.region [ (oN 9 (.mov (.t 3))), (oN 10 (.bin .add (.t 9) (.c (.int .i64 1)))), (oN 3 (.mov (.t 10)))] [2, 9, 10, 17]))
def zaB : ACode := .seq (.seq (.region [ (oN 18 (.fldaddr 0 1 (.t 1))), (oN 19 (.load false 1 (.t 18)))] [3, 18]) (.block 2 (.seq (.region [ (oN 21 (.bin .eql (.t 19) (.c (.int .i64 1)))), (oN 20 (.mov (.t 21)))] [21]) (.cond (.t 20) (.seq (.region [ (oN 22 (.fldaddr 2 1 (.t 1))), (oN 23 (.load false 1 (.t 22))), (oN 24 (.bin .eql (.t 23) (.c (.int .i64 0)))), (oN 25 (.mov (.t 24))), (oG 26 25 true (.fldaddr 3 1 (.t 1))), (oG 27 25 true (.load false 1 (.t 26))), (oG 28 25 true (.bin .eql (.t 27) (.c (.int .i64 0)))), (oN 29 (.pick (.t 25) (.t 28) (.c (.bool false)))), (oN 30 (.mov (.t 29))), (oG 31 30 true (.fldaddr 4 1 (.t 1))), (oG 32 30 true (.load false 1 (.t 31))), (oG 33 30 true (.len (.t 32))), (oG 34 30 true (.bin .eql (.t 33) (.c (.int .i64 0)))), (oN 35 (.pick (.t 30) (.t 34) (.c (.bool false)))), (oN 2 (.mov (.t 35)))] [1, 19, 20, 22, 23, 24, 25, 26, 27, 28, 29, 30, 31, 32, 33, 34, 35]) (.ret)) (.seq (.region [ (oN 37 (.bin .eql (.t 19) (.c (.int .i64 2)))), (oN 36 (.mov (.t 37)))] [20, 37]) (.cond (.t 36) (.seq (.region [ (oN 38 (.fldaddr 1 1 (.t 1))), (oN 39 (.load false 1 (.t 38))), (oN 40 (.bin .eql (.t 39) (.c (.int .u32 0)))), (oN 41 (.mov (.t 40))), (oG 42 41 true (.fldaddr 3 1 (.t 1))), (oG 43 41 true (.load false 1 (.t 42))), (oG 44 41 true (.bin .eql (.t 43) (.c (.int .i64 0)))), (oN 45 (.pick (.t 41) (.t 44) (.c (.bool false)))), (oN 46 (.mov (.t 45))), (oG 47 46 true (.fldaddr 4 1 (.t 1))), (oG 48 46 true (.load false 1 (.t 47))), (oG 49 46 true (.len (.t 48))), (oG 50 46 true (.bin .eql (.t 49) (.c (.int .i64 0)))), (oN 51 (.pick (.t 46) (.t 50) (.c (.bool false)))), (oN 52 (.mov (.t 51))), (oG 53 52 true (.fldaddr 2 1 (.t 1))), (oG 54 52 true (.load false 1 (.t 53))), (oG 55 52 true (.call zgj [(.t 54)])), (oN 56 (.pick (.t 52) (.t 55) (.c (.bool false)))), (oN 2 (.mov (.t 56)))] [1, 19, 36, 38, 39, 40, 41, 42, 43, 44, 45, 46, 47, 48, 49, 50, 51, 52, 53, 54, 55, 56]) (.ret)) (.seq (.seq (.region [ (oN 58 (.bin .eql (.t 19) (.c (.int .i64 16)))), (oN 57 (.mov (.t 58)))] [36, 58]) (.cond (.t 57) (.skip) (.region [ (oN 59 (.bin .eql (.t 19) (.c (.int .i64 17)))), (oN 57 (.mov (.t 59)))] [59]))) (.cond (.t 57) (.seq (.region [ (oN 60 (.fldaddr 1 1 (.t 1))), (oN 61 (.load false 1 (.t 60))), (oN 62 (.bin .eql (.t 61) (.c (.int .u32 0)))), (oN 63 (.mov (.t 62))), (oG 64 63 true (.fldaddr 2 1 (.t 1))), (oG 65 63 true (.load false 1 (.t 64))), (oG 66 63 true (.bin .eql (.t 65) (.c (.int .i64 0)))), (oN 67 (.pick (.t 63) (.t 66) (.c (.bool false)))), (oN 68 (.mov (.t 67))), (oG 69 68 true (.fldaddr 3 1 (.t 1))), (oG 70 68 true (.load false 1 (.t 69))), (oG 71 68 true (.bin .eql (.t 70) (.c (.int .i64 0)))), (oN 72 (.pick (.t 68) (.t 71) (.c (.bool false)))), (oN 73 (.mov (.t 72))), (oG 74 73 true (.fldaddr 4 1 (.t 1))), (oG 75 73 true (.load false 1 (.t 74))), (oG 76 73 true (.len (.t 75))), (oG 77 73 true (.bin .eql (.t 76) (.c (.int .i64 1)))), (oN 78 (.pick (.t 73) (.t 77) (.c (.bool false)))), (oN 2 (.mov (.t 78)))] [1, 19, 57, 60, 61, 62, 63, 64, 65, 66, 67, 68, 69, 70, 71, 72, 73, 74, 75, 76, 77, 78]) (.ret)) (.seq (.region [ (oN 80 (.bin .eql (.t 19) (.c (.int .i64 18)))), (oN 79 (.mov (.t 80)))] [57, 80]) (.cond (.t 79) (.seq (.region [ (oN 81 (.fldaddr 1 1 (.t 1))), (oN 82 (.load false 1 (.t 81))), (oN 83 (.bin .eql (.t 82) (.c (.int .u32 0)))), (oN 84 (.mov (.t 83))), (oG 85 84 true (.fldaddr 2 1 (.t 1))), (oG 86 84 true (.load false 1 (.t 85))), (oG 87 84 true (.bin .eql (.t 86) (.c (.int .i64 0)))), (oN 88 (.pick (.t 84) (.t 87) (.c (.bool false)))), (oN 89 (.mov (.t 88))), (oG 90 89 true (.fldaddr 3 1 (.t 1))), (oG 91 89 true (.load false 1 (.t 90))), (oG 92 89 true (.bin .eql (.t 91) (.c (.int .i64 1)))), (oG 93 89 true (.mov (.t 92))), (oG 94 93 false (.fldaddr 3 1 (.t 1))), (oG 95 93 false (.load false 1 (.t 94))), (oG 96 93 false (.bin .eql (.t 95) (.c (.int .i64 2)))), (oG 97 89 true (.pick (.t 93) (.c (.bool true)) (.t 96))), (oG 98 89 true (.mov (.t 97))), (oG 99 98 false (.fldaddr 3 1 (.t 1))), (oG 100 98 false (.load false 1 (.t 99))), (oG 101 98 false (.bin .eql (.t 100) (.c (.int .i64 4)))), (oG 102 89 true (.pick (.t 98) (.c (.bool true)) (.t 101))), (oN 103 (.pick (.t 89) (.t 102) (.c (.bool false)))), (oN 104 (.mov (.t 103))), (oG 105 104 true (.fldaddr 4 1 (.t 1))), (oG 106 104 true (.load false 1 (.t 105))), (oG 107 104 true (.len (.t 106))), (oG 108 104 true (.bin .eql (.t 107) (.c (.int .i64 1)))), (oN 109 (.pick (.t 104) (.t 108) (.c (.bool false)))), (oN 2 (.mov (.t 109)))] [1, 19, 79, 81, 82, 83, 84, 85, 86, 87, 88, 89, 90, 91, 92, 93, 94, 95, 96, 97, 98, 99, 100, 101, 102, 103, 104, 105, 106, 107, 108, 109]) (.ret)) (.seq (.region [ (oN 111 (.bin .eql (.t 19) (.c (.int .i64 19)))), (oN 110 (.mov (.t 111)))] [19, 79, 111]) (.cond (.t 110) (.seq (.region [ (oN 112 (.fldaddr 1 1 (.t 1))), (oN 113 (.load false 1 (.t 112))), (oN 114 (.bin .eql (.t 113) (.c (.int .u32 0)))), (oN 115 (.mov (.t 114))), (oG 116 115 true (.fldaddr 2 1 (.t 1))), (oG 117 115 true (.load false 1 (.t 116))), (oG 118 115 true (.bin .eql (.t 117) (.c (.int .i64 0)))), (oN 119 (.pick (.t 115) (.t 118) (.c (.bool false)))), (oN 120 (.mov (.t 119))), (oG 121 120 true (.fldaddr 3 1 (.t 1))), (oG 122 120 true (.load false 1 (.t 121))), (oG 123 120 true (.bin .eql (.t 122) (.c (.int .i64 1)))), (oG 124 120 true (.mov (.t 123))), (oG 125 124 false (.fldaddr 3 1 (.t 1))), (oG 126 124 false (.load false 1 (.t 125))), (oG 127 124 false (.bin .eql (.t 126) (.c (.int .i64 2)))), (oG 128 120 true (.pick (.t 124) (.c (.bool true)) (.t 127))), (oN 129 (.pick (.t 120) (.t 128) (.c (.bool false)))), (oN 130 (.mov (.t 129))), (oG 131 130 true (.fldaddr 4 1 (.t 1))), (oG 132 130 true (.load false 1 (.t 131))), (oG 133 130 true (.len (.t 132))), (oG 134 130 true (.bin .eql (.t 133) (.c (.int .i64 1)))), (oN 135 (.pick (.t 130) (.t 134) (.c (.bool false)))), (oN 2 (.mov (.t 135)))] [1, 110, 112, 113, 114, 115, 116, 117, 118, 119, 120, 121, 122, 123, 124, 125, 126, 127, 128, 129, 130, 131, 132, 133, 134, 135]) (.ret)) (.skip))))))))))))) (.seq (.region [ (oN 136 (.fldaddr 0 1 (.t 1))), (oN 137 (.load false 1 (.t 136))), (oN 138 (.bin .geq (.t 137) (.c (.int .i64 3)))), (oN 139 (.mov (.t 138))), (oG 140 139 true (.fldaddr 0 1 (.t 1))), (oG 141 139 true (.load false 1 (.t 140))), (oG 142 139 true (.bin .leq (.t 141) (.c (.int .i64 15)))), (oN 143 (.pick (.t 139) (.t 142) (.c (.bool false)))), (oN 144 (.mov (.t 143))), (oG 145 144 true (.fldaddr 1 1 (.t 1))), (oG 146 144 true (.load false 1 (.t 145))), (oG 147 144 true (.bin .eql (.t 146) (.c (.int .u32 0)))), (oN 148 (.pick (.t 144) (.t 147) (.c (.bool false)))), (oN 149 (.mov (.t 148))), (oG 150 149 true (.fldaddr 2 1 (.t 1))), (oG 151 149 true (.load false 1 (.t 150))), (oG 152 149 true (.bin .eql (.t 151) (.c (.int .i64 0)))), (oN 153 (.pick (.t 149) (.t 152) (.c (.bool false)))), (oN 154 (.mov (.t 153))), (oG 155 154 true (.fldaddr 3 1 (.t 1))), (oG 156 154 true (.load false 1 (.t 155))), (oG 157 154 true (.bin .eql (.t 156) (.c (.int .i64 0)))), (oN 158 (.pick (.t 154) (.t 157) (.c (.bool false)))), (oN 159 (.mov (.t 158))), (oG 160 159 true (.fldaddr 4 1 (.t 1))), (oG 161 159 true (.load false 1 (.t 160))), (oG 162 159 true (.len (.t 161))), (oG 163 159 true (.bin .eql (.t 162) (.c (.int .i64 2)))), (oN 164 (.pick (.t 159) (.t 163) (.c (.bool false)))), (oN 2 (.mov (.t 164)))] [1, 110, 136, 137, 138, 139, 140, 141, 142, 143, 144, 145, 146, 147, 148, 149, 150, 151, 152, 153, 154, 155, 156, 157, 158, 159, 160, 161, 162, 163, 164]) (.ret))
def zjB : ACode := .seq (.region [ (oN 1 (.rbox (.t 0))), (oN 2 (.mov (.c (.bool false))))] [0, 2]) (.seq (.seq (.region [ (oN 3 (.mov (.c (.int .i64 0))))] []) (.block 0 (.loop zgX))) (zaB))
def zaf : List ARet := [.tmp 2]
theorem zom : zaP Tryz.prog zdP (qRo [1]) = some (zjB.strip, zaf, 165) := by kernel_rfl
def zlu : ACode := .seq (.region [ (oN 2 (.rbox (.t 0))), (oN 3 (.rbox (.t 1))), (oN 4 (.mov (.c (.bool false))))] [0, 1, 4]) (.seq (.region [ (oN 5 (.load false 1 (.t 3))), (oN 6 (.bin .geq (.t 5) (.c (.int .i64 1)))), (oN 7 (.mov (.t 6))), (oG 8 7 true (.fldaddr 4 1 (.t 2))), (oG 9 7 true (.load false 1 (.t 8))), (oG 10 7 true (.mkfn (.func ze6) [(.t 3)])), (oG 11 7 true (.call zaD [(.t 9), (.t 10)])), (oG 12 7 true (.un .not (.t 11))), (oN 13 (.pick (.t 7) (.t 12) (.c (.bool false)))), (oN 4 (.mov (.t 13)))] [2, 3, 5, 6, 7, 8, 9, 10, 11, 12, 13]) (.ret))
def zie : List ARet := [.tmp 4]
theorem zpw : zaP Tryz.prog zff (qRo [2, 3]) = some (zlu.strip, zie, 14) := by kernel_rfl
def zbr : ACode := .seq (.region [ (oN 1 (.rbox (.t 0))), (oN 2 (.mov (.c (.bool false))))] [0, 2]) (.seq (.region [ (oN 5 (.fldaddr 0 1 (.t 1))), (oN 6 (.load false 1 (.t 5))), (oN 7 (.build [.int .i64 0, .int .u32 0, .int .i64 0, .int .i64 0, .nilsl] [(0, 1, (.t 6))])), (oN 3 (.alloc [.int .i64 0, .int .u32 0, .int .i64 0, .int .i64 0, .nilsl])), ⟨none, .store 5 (.t 3) (.t 7), none⟩] [5, 6, 7]) (.seq (.region [ (oN 4 (.mov (.c (.int .i64 0))))] []) (.seq (.block 0 (.seq (.region [ (oN 9 (.fldaddr 0 1 (.t 1))), (oN 10 (.load false 1 (.t 9))), (oN 11 (.bin .eql (.t 10) (.c (.int .i64 1)))), (oN 8 (.mov (.t 11)))] [9, 10, 11]) (.cond (.t 8) (.region [ (oN 12 (.fldaddr 1 1 (.t 1))), (oN 13 (.load false 1 (.t 12))), (oN 14 (.fldaddr 1 1 (.t 3))), ⟨none, .store 1 (.t 14) (.t 13), none⟩] [8, 12, 13, 14]) (.seq (.region [ (oN 16 (.fldaddr 0 1 (.t 1))), (oN 17 (.load false 1 (.t 16))), (oN 18 (.bin .eql (.t 17) (.c (.int .i64 2)))), (oN 19 (.mov (.t 18))), (oG 20 19 true (.fldaddr 2 1 (.t 1))), (oG 21 19 true (.load false 1 (.t 20))), (oG 22 19 true (.call zee [(.t 21)])), (oN 23 (.pick (.t 19) (.t 22) (.c (.bool false)))), (oN 15 (.mov (.t 23)))] [8, 16, 17, 18, 19, 20, 21, 22, 23]) (.cond (.t 15) (.region [ (oN 24 (.fldaddr 2 1 (.t 1))), (oN 25 (.load false 1 (.t 24))), (oN 26 (.fldaddr 2 1 (.t 3))), ⟨none, .store 1 (.t 26) (.t 25), none⟩] [15, 24, 25, 26]) (.seq (.region [ (oN 28 (.fldaddr 0 1 (.t 1))), (oN 29 (.load false 1 (.t 28))), (oN 30 (.bin .geq (.t 29) (.c (.int .i64 3)))), (oN 31 (.mov (.t 30))), (oG 32 31 true (.fldaddr 0 1 (.t 1))), (oG 33 31 true (.load false 1 (.t 32))), (oG 34 31 true (.bin .leq (.t 33) (.c (.int .i64 15)))), (oN 35 (.pick (.t 31) (.t 34) (.c (.bool false)))), (oN 27 (.mov (.t 35)))] [4, 15, 28, 29, 30, 31, 32, 33, 34, 35]) (.cond (.t 27) (.region [ (oN 4 (.mov (.c (.int .i64 2))))] [27]) (.seq (.seq (.region [ (oN 37 (.fldaddr 0 1 (.t 1))), (oN 38 (.load false 1 (.t 37))), (oN 39 (.bin .eql (.t 38) (.c (.int .i64 16)))), (oN 36 (.mov (.t 39)))] [27, 37, 38, 39]) (.cond (.t 36) (.skip) (.region [ (oN 40 (.fldaddr 0 1 (.t 1))), (oN 41 (.load false 1 (.t 40))), (oN 42 (.bin .eql (.t 41) (.c (.int .i64 17)))), (oN 36 (.mov (.t 42)))] [40, 41, 42]))) (.cond (.t 36) (.region [ (oN 4 (.mov (.c (.int .i64 1))))] [36]) (.seq (.seq (.region [ (oN 44 (.fldaddr 0 1 (.t 1))), (oN 45 (.load false 1 (.t 44))), (oN 46 (.bin .eql (.t 45) (.c (.int .i64 18)))), (oN 47 (.mov (.t 46))), (oG 48 47 true (.fldaddr 3 1 (.t 1))), (oG 49 47 true (.load false 1 (.t 48))), (oG 50 47 true (.call zgb [(.t 49)])), (oN 51 (.pick (.t 47) (.t 50) (.c (.bool false)))), (oN 43 (.mov (.t 51)))] [36, 44, 45, 46, 47, 48, 49, 50, 51]) (.cond (.t 43) (.skip) (.region [ (oN 52 (.fldaddr 0 1 (.t 1))), (oN 53 (.load false 1 (.t 52))), (oN 54 (.bin .eql (.t 53) (.c (.int .i64 19)))), (oN 55 (.mov (.t 54))), (oG 56 55 true (.fldaddr 3 1 (.t 1))), (oG 57 55 true (.load false 1 (.t 56))), (oG 58 55 true (.bin .eql (.t 57) (.c (.int .i64 1)))), (oG 59 55 true (.mov (.t 58))), (oG 60 59 false (.fldaddr 3 1 (.t 1))), (oG 61 59 false (.load false 1 (.t 60))), (oG 62 59 false (.bin .eql (.t 61) (.c (.int .i64 2)))), (oG 63 55 true (.pick (.t 59) (.c (.bool true)) (.t 62))), (oN 64 (.pick (.t 55) (.t 63) (.c (.bool false)))), (oN 43 (.mov (.t 64)))] [52, 53, 54, 55, 56, 57, 58, 59, 60, 61, 62, 63, 64]))) (.cond (.t 43) (.seq (.region [ (oN 4 (.mov (.c (.int .i64 1))))] [43]) (.region [ (oN 65 (.fldaddr 3 1 (.t 1))), (oN 66 (.load false 1 (.t 65))), (oN 67 (.fldaddr 3 1 (.t 3))), ⟨none, .store 1 (.t 67) (.t 66), none⟩] [65, 66, 67])) (.seq (.region [ (oN 2 (.mov (.c (.bool false))))] [1, 3, 43]) (.ret))))))))))))) (.seq (.region [ (oN 68 (.fldaddr 1 1 (.t 1))), (oN 69 (.load false 1 (.t 68))), (oN 70 (.fldaddr 1 1 (.t 3))), (oN 71 (.load false 1 (.t 70))), (oN 72 (.bin .eql (.t 69) (.t 71))), (oN 73 (.mov (.t 72))), (oG 74 73 true (.fldaddr 2 1 (.t 1))), (oG 75 73 true (.load false 1 (.t 74))), (oG 76 73 true (.fldaddr 2 1 (.t 3))), (oG 77 73 true (.load false 1 (.t 76))), (oG 78 73 true (.bin .eql (.t 75) (.t 77))), (oN 79 (.pick (.t 73) (.t 78) (.c (.bool false)))), (oN 80 (.mov (.t 79))), (oG 81 80 true (.fldaddr 3 1 (.t 1))), (oG 82 80 true (.load false 1 (.t 81))), (oG 83 80 true (.fldaddr 3 1 (.t 3))), (oG 84 80 true (.load false 1 (.t 83))), (oG 85 80 true (.bin .eql (.t 82) (.t 84))), (oN 86 (.pick (.t 80) (.t 85) (.c (.bool false)))), (oN 87 (.mov (.t 86))), (oG 88 87 true (.fldaddr 4 1 (.t 1))), (oG 89 87 true (.load false 1 (.t 88))), (oG 90 87 true (.len (.t 89))), (oG 91 87 true (.mov (.t 4))), (oG 92 87 true (.bin .eql (.t 90) (.t 91))), (oN 93 (.pick (.t 87) (.t 92) (.c (.bool false)))), (oN 94 (.mov (.t 93))), (oG 95 94 true (.fldaddr 4 1 (.t 1))), (oG 96 94 true (.load false 1 (.t 95))), (oG 97 94 true (.call zaD [(.t 96), (.c (.fn (.func zaX) []))])), (oG 98 94 true (.un .not (.t 97))), (oN 99 (.pick (.t 94) (.t 98) (.c (.bool false)))), (oN 2 (.mov (.t 99)))] [1, 3, 4, 68, 69, 70, 71, 72, 73, 74, 75, 76, 77, 78, 79, 80, 81, 82, 83, 84, 85, 86, 87, 88, 89, 90, 91, 92, 93, 94, 95, 96, 97, 98, 99]) (.ret)))))
def zak : List ARet := [.tmp 2]
theorem zbO : zaP Tryz.prog zba (qRo [1]) = some (zbr.strip, zak, 100) := by kernel_rfl
def zbH : ACode := .seq (.region [ (oN 9 (.bin .lss (.t 8) (.t 7)))] []) (.seq (.cond (.t 9) (.skip) (.exit 0)) (.seq (.block 1 (.seq (.region [ (oN 10 (.mov (.t 8))), (oN 5 (.mov (.t 10)))] [9, 10]) (.seq (.region [ (oN 11 (.mov (.t 1))), (oN 12 (.mov (.t 0))), (oN 13 (.mov (.t 5))), (oN 14 (.idx 8 (.t 12) (.t 13))), (oN 15 (.load true 8 (.t 14))), (oN 16 (.callv (.t 11) [(.t 15)]))] [11, 12, 13, 14, 15]) (.cond (.t 16) (.seq (.region [ (oN 17 (.mov (.t 5))), (oN 4 (.mov (.t 17)))] [0, 1, 5, 7, 8, 16, 17]) (.ret)) (.skip))))) (.region [ (oN 18 (.bin .add (.t 8) (.c (.int .i64 1)))), (oN 8 (.mov (.t 18)))] [4, 5, 16, 18])))
def zbv : ACode := .seq (.region [ (oN 4 (.mov (.c (.int .i64 (-1)))))] [0, 1, 7, 8]) (.ret)
def zbX : ACode := .seq (.region [ (oN 4 (.mov (.c (.int .i64 0))))] [4]) (.seq (.seq (.region [ (oN 6 (.mov (.t 0))), (oN 7 (.len (.t 6))), (oN 8 (.mov (.c (.int .i64 0))))] [6]) (.block 0 (.loop zbH))) (zbv))
def zbb : List ARet := [.tmp 4]
theorem zdA : zaP Tryz.prog zaT (qRo []) = some (zbX.strip, zbb, 19) := by kernel_rfl
def zbN : ACode := .seq (.region [ (oN 9 (.bin .lss (.t 8) (.t 7)))] []) (.seq (.cond (.t 9) (.skip) (.exit 0)) (.seq (.block 1 (.seq (.region [ (oN 10 (.mov (.t 8))), (oN 5 (.mov (.t 10)))] [9, 10]) (.seq (.region [ (oN 11 (.mov (.t 1))), (oN 12 (.mov (.t 0))), (oN 13 (.mov (.t 5))), (oN 14 (.idx 1 (.t 12) (.t 13))), (oN 15 (.load false 1 (.t 14))), (oN 16 (.callv (.t 11) [(.t 15)]))] [11, 12, 13, 14, 15]) (.cond (.t 16) (.seq (.region [ (oN 17 (.mov (.t 5))), (oN 4 (.mov (.t 17)))] [0, 1, 5, 7, 8, 16, 17]) (.ret)) (.skip))))) (.region [ (oN 18 (.bin .add (.t 8) (.c (.int .i64 1)))), (oN 8 (.mov (.t 18)))] [4, 5, 16, 18])))
def zbQ : ACode := .seq (.region [ (oN 4 (.mov (.c (.int .i64 (-1)))))] [0, 1, 7, 8]) (.ret)
def zb7 : ACode := .seq (.region [ (oN 4 (.mov (.c (.int .i64 0))))] [4]) (.seq (.seq (.region [ (oN 6 (.mov (.t 0))), (oN 7 (.len (.t 6))), (oN 8 (.mov (.c (.int .i64 0))))] [6]) (.block 0 (.loop zbN))) (zbQ))
def za5 : List ARet := [.tmp 4]
theorem zc7 : zaP Tryz.prog zaV (qRo []) = some (zb7.strip, za5, 19) := by kernel_rfl
def zkr : ACode := .seq (.region [ (oN 2 (.mov (.c (.bool false))))] [2]) (.seq (.region [ (oN 3 (.mov (.t 0))), (oN 4 (.bin .geq (.t 3) (.c (.int .i64 0)))), (oN 5 (.mov (.t 4))), (oG 6 5 true (.mov (.t 0))), (oG 7 5 true (.bin .lss (.t 6) (.c (.int .i64 65536)))), (oN 8 (.pick (.t 5) (.t 7) (.c (.bool false)))), (oN 2 (.mov (.t 8)))] [0, 3, 4, 5, 6, 7, 8]) (.ret))
def zhl : List ARet := [.tmp 2]
theorem zoF : zaP Tryz.prog zee (qRo []) = some (zkr.strip, zhl, 9) := by kernel_rfl
def zmp : ACode := .seq (.region [ (oN 2 (.mov (.c (.bool false))))] [2]) (.seq (.region [ (oN 3 (.mov (.t 0))), (oN 4 (.bin .eql (.t 3) (.c (.int .i64 1)))), (oN 5 (.mov (.t 4))), (oG 6 5 false (.mov (.t 0))), (oG 7 5 false (.bin .eql (.t 6) (.c (.int .i64 2)))), (oN 8 (.pick (.t 5) (.c (.bool true)) (.t 7))), (oN 9 (.mov (.t 8))), (oG 10 9 false (.mov (.t 0))), (oG 11 9 false (.bin .eql (.t 10) (.c (.int .i64 4)))), (oN 12 (.pick (.t 9) (.c (.bool true)) (.t 11))), (oN 2 (.mov (.t 12)))] [0, 3, 4, 5, 6, 7, 8, 9, 10, 11, 12]) (.ret))
def zgR : List ARet := [.tmp 2]
theorem zq2 : zaP Tryz.prog zgb (qRo []) = some (zmp.strip, zgR, 13) := by kernel_rfl
def zbz : ACode := .seq (.region [ (oN 4 (.mov (.c (.bool false))))] [4]) (.seq (.region [ (oN 5 (.mov (.t 0))), (oN 6 (.mov (.t 1))), (oN 7 (.call zaU [(.t 5), (.t 6)])), (oN 8 (.bin .geq (.t 7) (.c (.int .i64 0)))), (oN 4 (.mov (.t 8)))] [0, 1, 5, 6, 7, 8]) (.ret))
def zbE : List ARet := [.tmp 4]
theorem zc5 : zaP Tryz.prog zaD (qRo []) = some (zbz.strip, zbE, 9) := by kernel_rfl
def zjh : ACode := .seq (.region [ (oN 2 (.rbox (.t 0))), (oN 3 (.mov (.c (.bool false))))] [0, 3]) (.seq (.region [ (oN 4 (.load true 5 (.t 2))), (oN 5 (.load false 1 (.t 1))), (oN 6 (.bin .sub (.t 5) (.c (.int .i64 1)))), (oN 7 (.call zff [(.t 4), (.t 6)])), (oN 8 (.un .not (.t 7))), (oN 3 (.mov (.t 8)))] [1, 2, 4, 5, 6, 7, 8]) (.ret))
def zi6 : List ARet := [.tmp 3]
theorem znL : zaP Tryz.prog ze6 (qRo [2]) = some (zjh.strip, zi6, 9) := by kernel_rfl
def zkt : ACode := .seq (.region [ (oN 1 (.rbox (.t 0))), (oN 2 (.mov (.c (.bool false))))] [0, 2]) (.seq (.region [ (oN 3 (.load true 5 (.t 1))), (oN 4 (.call zba [(.t 3)])), (oN 5 (.un .not (.t 4))), (oN 2 (.mov (.t 5)))] [1, 3, 4, 5]) (.ret))
def zkl : List ARet := [.tmp 2]
theorem zoB : zaP Tryz.prog zaX (qRo [1]) = some (zkt.strip, zkl, 6) := by kernel_rfl
def zbC : ACode := .seq (.region [ (oN 9 (.bin .lss (.t 8) (.t 7)))] []) (.seq (.cond (.t 9) (.skip) (.exit 0)) (.seq (.block 1 (.seq (.region [ (oN 10 (.mov (.t 8))), (oN 5 (.mov (.t 10)))] [9, 10]) (.seq (.region [ (oN 11 (.mov (.t 1))), (oN 12 (.mov (.t 0))), (oN 13 (.mov (.t 5))), (oN 14 (.idx 5 (.t 12) (.t 13))), (oN 15 (.load true 5 (.t 14))), (oN 16 (.callv (.t 11) [(.t 15)]))] [11, 12, 13, 14, 15]) (.cond (.t 16) (.seq (.region [ (oN 17 (.mov (.t 5))), (oN 4 (.mov (.t 17)))] [0, 1, 5, 7, 8, 16, 17]) (.ret)) (.skip))))) (.region [ (oN 18 (.bin .add (.t 8) (.c (.int .i64 1)))), (oN 8 (.mov (.t 18)))] [4, 5, 16, 18])))
def zbw : ACode := .seq (.region [ (oN 4 (.mov (.c (.int .i64 (-1)))))] [0, 1, 7, 8]) (.ret)
def zbV : ACode := .seq (.region [ (oN 4 (.mov (.c (.int .i64 0))))] [4]) (.seq (.seq (.region [ (oN 6 (.mov (.t 0))), (oN 7 (.len (.t 6))), (oN 8 (.mov (.c (.int .i64 0))))] [6]) (.block 0 (.loop zbC))) (zbw))
def za8 : List ARet := [.tmp 4]
theorem zdy : zaP Tryz.prog zaU (qRo []) = some (zbV.strip, za8, 19) := by kernel_rfl
end Go.Ab
namespace Go.Ab
def zcj (k : Int) : Bool := decide (k = 4 ∨ k = 5)
mutual
def coll (p : NdF → List Int) : Nd → List Int
  | .mk f _ l => p f ++ zjd p l
def zjd (p : NdF → List Int) : List Nd → List Int
  | [] => []
  | x :: l => coll p x ++ zjd p l
end
def labP (f : NdF) : List Int := if f.kind = 10 then [f.label] else []
def blkP (f : NdF) : List Int := if f.kind = 2 ∨ f.kind = 5 then [f.block] else []
mutual
theorem ztw (p : NdF → List Int) : ∀ n : Nd, coll p n = (allN n).flatMap fun x => p x.f
  | .mk f c l => by rw [coll, allN, List.flatMap_cons, zqF p l]; rfl
theorem zqF (p : NdF → List Int) : ∀ l : List Nd, zjd p l = (zeD l).flatMap fun x => p x.f
  | [] => by rw [zjd, zeD]; rfl
  | x :: l => by rw [zjd, zeD, List.flatMap_append, ztw p x, zqF p l]
end
theorem zeo : ∀ {l : List Nd} {y : Nd}, y ∈ l → zbZ y ≤ zbW l
  | [], y, hy => by simp at hy
  | a :: l, y, hy => by
    rw [zbW]
    rcases List.mem_cons.1 hy with rfl | hy
    · omega
    · have := zeo hy; omega
end Go.Ab
namespace Go.Ab
open Go.RowKit Go.Proofs
theorem fldP {off n m : Nat} {c : List AV} {H : AH} {nx : Nat} : zcr off n (encP m c) H nx = ⟨off + n ≤ m, True, .iptr n (fun j => c.getD (off + j) .undef), H, nx⟩ := rfl
theorem zgN {n m : Nat} {c : List AV} {H : AH} {nx : Nat} : zdm true n (encP m c) H nx = ⟨n ≤ m, (AV.agg (tab (fun j => c.getD j .undef) n 0)).wf, .agg (tab (fun j => c.getD j .undef) n 0), H, nx⟩ := rfl
theorem zbS : ∀ {e : Ex}, (encX e).length = 5
  | .mk _ _ _ _ _ => by rw [zhg]; rfl
theorem zbd : ∀ {e : Nd}, (encN e).length = 5
  | .mk _ _ _ => by rw [zci]; rfl
theorem zbh : ∀ {e : Ex}, [(encX e).getD 0 .undef, (encX e).getD 1 .undef, (encX e).getD 2 .undef, (encX e).getD 3 .undef, (encX e).getD 4 .undef] = encX e
  | .mk _ _ _ _ _ => by rw [zhg]; rfl
theorem zaJ : ∀ {e : Nd}, [(encN e).getD 0 .undef, (encN e).getD 1 .undef, (encN e).getD 2 .undef, (encN e).getD 3 .undef, (encN e).getD 4 .undef] = encN e
  | .mk _ _ _ => by rw [zci]; rfl
theorem zaq : ∀ {e : Ex}, zaE (encX e) = true
  | .mk _ _ _ _ _ => by rw [zhg]; rfl
theorem zbi : ∀ {e : Nd}, zaE (encN e) = true
  | .mk _ _ _ => by rw [zci]; rfl
theorem flX {r : List AV} (h : r.all AV.flat = true) : ∀ {e : Ex}, (AV.agg (encX e) :: r).all AV.flat = true
  | .mk _ _ _ _ _ => by rw [zhg, List.all_cons, h]; rfl
theorem flN {r : List AV} (h : r.all AV.flat = true) : ∀ {e : Nd}, (AV.agg (encN e) :: r).all AV.flat = true
  | .mk _ _ _ => by rw [zci, List.all_cons, h]; rfl
mutual
def zgL : Ex → Nat
  | .mk _ _ _ _ l => 1 + ztK l
def ztK : List Ex → Nat
  | [] => 0
  | e :: l => zgL e + ztK l
end
theorem zhI : ∀ {l : List Ex} {y : Ex}, y ∈ l → zgL y ≤ ztK l
  | [], y, hy => by simp at hy
  | a :: l, y, hy => by
    rw [ztK]
    rcases List.mem_cons.1 hy with rfl | hy
    · omega
    · have := zhI hy; omega
mutual
theorem zg3 : ∀ (e : Ex) (m n : Int), -1 ≤ n → -1 ≤ zjH e m n ∧ (zjH e m n ≤ n)
  | .mk _ _ _ _ l, m, n, h => by
    rw [zjH]
    split
    · omega
    · rename_i hc
      have := zlC l (m - 1) (n - 1) (by omega)
      omega
theorem zlC : ∀ (l : List Ex) (m n : Int), -1 ≤ n → -1 ≤ zdX l m n ∧ zdX l m n ≤ n
  | [], m, n, h => by rw [zdX]; omega
  | e :: l, m, n, h => by
    rw [zdX]
    split
    · omega
    · have h1 := zg3 e m n h
      have := zlC l m _ h1.1
      omega
end
theorem zrv {l : List Ex} {i : Nat} {m n : Int} (h : i < l.length) (hn : 0 ≤ n) : zdX (l.drop i) m n = zdX (l.drop (i + 1)) m (zjH l[i] m n) := by
  rw [List.drop_eq_getElem_cons h, zdX, if_neg (by omega)]
theorem zs1 {l : List Ex} {m n : Int} (hn : n < 0) : zdX l m n = n := by
  cases l with
  | nil => rw [zdX]
  | cons a l => rw [zdX, if_pos hn]
theorem zmq : ∀ (k : Nat) (e : Ex) (m n : Int), zgL e ≤ k → -1000 ≤ m → m ≤ 1000 → -1 ≤ n → n ≤ 1000 → zaj Tryz.prog zeY [.agg (encX e), .int .i64 m, .int .i64 n] (· = .int .i64 (zjH e m n)) := by
  intro k
  induction k with
  | zero => intro e m n h; obtain ⟨_, _, _, _, l⟩ := e; rw [zgL] at h; omega
  | succ k ih =>
  intro e m n hk h1 h2 h3 h4
  obtain ⟨op, nn, v, w, l⟩ := e
  refine fn_x zqo rfl ?_
  unfold zmM
  have hB := hBig
  rw [zgL] at hk
  have hR := zg3 (.mk op nn v w l) m n h3
  rw [zjH] at hR ⊢
  generalize hE : encX (.mk op nn v w l) = E
  rw [zhg] at hE
  subst hE
  by_cases c1 : m < 1
  · rw [if_pos (.inl c1)]
    (repeat first | simp (disch := try exact dis1) only [evD, Nat.reduceBEq, Nat.reduceAdd, Nat.reduceLeDiff, dT, zd2] | with_reducible intro _ | ((with_reducible apply And.intro); omega))
    exact ⟨_, .int _ _ _, rfl⟩
  by_cases c2 : n < 1
  · rw [if_pos (.inr (.inl c2))]
    (repeat first | simp (disch := try exact dis1) only [evD, Nat.reduceBEq, Nat.reduceAdd, Nat.reduceLeDiff, dT, dF, zd2] | with_reducible intro _ | ((with_reducible apply And.intro); omega))
    exact ⟨_, .int _ _ _, rfl⟩
  by_cases c3 : 4 < l.length
  · rw [if_pos (.inr (.inr c3))]
    (repeat first | simp (disch := try exact dis1) only [evD, Nat.reduceBEq, Nat.reduceAdd, Nat.reduceLeDiff, dT, dF, zd2] | with_reducible intro _ | ((with_reducible apply And.intro); omega))
    exact ⟨_, .int _ _ _, rfl⟩
  rw [if_neg (by omega)] at hR ⊢
  (repeat first | simp (disch := try exact dis1) only [evD, Nat.reduceBEq, Nat.reduceAdd, Nat.reduceLeDiff, dF] | with_reducible intro _ | ((with_reducible apply And.intro); omega))
  generalize hG : zdX l (m - 1) (n - 1) = R at hR ⊢
  refine zam (fun s : Nat × Int => ([(1, .int .i64 m), (3, encP 5 [.int .i64 op, .int .u32 nn, .int .i64 v, .int .i64 w, encL 5 encX l]), (7, .int .i64 s.2), (8, .int .i64 s.1)], [])) 0 (fun s => s.1 ≤ l.length ∧ -1 ≤ s.2 ∧ s.2 ≤ n ∧ zdX (l.drop s.1) (m - 1) s.2 = R) (fun s => l.length - s.1) (0, n - 1) ⟨Nat.zero_le _, by simp only; omega, by simp only; omega, hG⟩ (Ent.keep rfl fin5) ?_
  rintro ⟨i, x⟩ ⟨hi, hx1, hx2, hgo⟩ wf
  simp only at hi hx1 hx2 hgo
  unfold zi9
  by_cases hl : i < l.length
  · by_cases hx : 0 ≤ x
    · rw [zrv hl hx] at hgo
      have hm := zhI (List.getElem_mem hl)
      have hr := zg3 l[i] (m - 1) x hx1
      (repeat first | simp (disch := try exact dis1) only [evD, Nat.reduceBEq, Nat.reduceAdd, Nat.reduceLeDiff, fldP, dT, dF, zao hl, zbS, zbh] | with_reducible intro _ | ((with_reducible apply And.intro); omega))
      refine zae (zah (ih l[i] (m - 1) x (by omega) (by omega) (by omega) (by omega) (by omega)) (flX rfl)) ?_
      (repeat first | simp (disch := try exact dis1) only [evD, Nat.reduceBEq, Nat.reduceAdd, Nat.reduceLeDiff] | with_reducible intro _ | ((with_reducible apply And.intro); omega))
      exact ⟨(i + 1, zjH l[i] (m - 1) x), ⟨by simp only; omega, by simp only; omega, by simp only; omega, hgo⟩, by simp only; omega, Ent.keep rfl fin5⟩
    · rw [zs1 (by omega)] at hgo
      subst hgo
      (repeat first | simp (disch := try exact dis1) only [evD, Nat.reduceBEq, Nat.reduceAdd, Nat.reduceLeDiff, fldP, dT, dF] | with_reducible intro _ | ((with_reducible apply And.intro); omega))
      unfold zgy
      (repeat first | simp (disch := try exact dis1) only [evD, Nat.reduceBEq, Nat.reduceAdd, Nat.reduceLeDiff, zd2] | with_reducible intro _ | ((with_reducible apply And.intro); omega))
      exact ⟨_, .int _ _ _, rfl⟩
  · rw [List.drop_of_length_le (by omega), zdX] at hgo
    subst hgo
    (repeat first | simp (disch := try exact dis1) only [evD, Nat.reduceBEq, Nat.reduceAdd, Nat.reduceLeDiff, fldP, dT, dF] | with_reducible intro _ | ((with_reducible apply And.intro); omega))
    unfold zgy
    (repeat first | simp (disch := try exact dis1) only [evD, Nat.reduceBEq, Nat.reduceAdd, Nat.reduceLeDiff, zd2] | with_reducible intro _ | ((with_reducible apply And.intro); omega))
    exact ⟨_, .int _ _ _, rfl⟩
theorem zmo {l : List Ex} {i : Nat} (h : i < l.length) : zeT (l.drop i) = if zjH l[i] 70 200 < 0 then false else zeT (l.drop (i + 1)) := by
  rw [List.drop_eq_getElem_cons h, zeT]
mutual
theorem zk0 : ∀ (e : Nd) (n : Int), -1 ≤ n → -2 ≤ zdc e n ∧ zdc e n ≤ max n (-1)
  | .mk _ _ l, n, h => by
    rw [zdc]
    split
    · omega
    · have := zki l (n - 1) (by omega)
      omega
theorem zki : ∀ (l : List Nd) (n : Int), -2 ≤ n → -2 ≤ zbn l n ∧ zbn l n ≤ max n (-1)
  | [], n, h => by rw [zbn]; omega
  | e :: l, n, h => by
    rw [zbn]
    split
    · omega
    · have h1 := zk0 e n (by omega)
      have := zki l _ h1.1
      omega
end
theorem zqa {l : List Nd} {i : Nat} {n : Int} (h : i < l.length) (hn : 0 ≤ n) : zbn (l.drop i) n = zbn (l.drop (i + 1)) (zdc l[i] n) := by
  rw [List.drop_eq_getElem_cons h, zbn, if_neg (by omega)]
theorem zrk {l : List Nd} {n : Int} (hn : n < 0) : zbn l n = n := by
  cases l with
  | nil => rw [zbn]
  | cons a l => rw [zbn, if_pos hn]
theorem zpV : ∀ (k : Nat) (e : Nd) (n : Int), zbZ e ≤ k → -1 ≤ n → n ≤ 1000 → zaj Tryz.prog zfc [.agg (encN e), .int .i64 n] (· = .int .i64 (zdc e n)) := by
  intro k
  induction k with
  | zero => intro e n h; obtain ⟨_, _, l⟩ := e; rw [zbZ] at h; omega
  | succ k ih =>
  intro e n hk h3 h4
  obtain ⟨⟨kd, bl, lb⟩, c, l⟩ := e
  refine fn_x zqj rfl ?_
  unfold zlp
  have hB := hBig
  rw [zbZ] at hk
  rw [zdc]
  generalize hE : encN (.mk ⟨kd, bl, lb⟩ c l) = E
  rw [zci] at hE
  simp only at hE
  subst hE
  by_cases c1 : 3 < c.length
  · rw [if_pos (.inl c1)]
    (repeat first | simp (disch := try exact dis1) only [evD, Nat.reduceBEq, Nat.reduceAdd, Nat.reduceLeDiff, dT, zew] | with_reducible intro _ | ((with_reducible apply And.intro); omega))
    exact ⟨_, .int _ _ _, rfl⟩
  (repeat first | simp (disch := try exact dis1) only [evD, Nat.reduceBEq, Nat.reduceAdd, Nat.reduceLeDiff, dF] | with_reducible intro _ | ((with_reducible apply And.intro); omega))
  generalize hR : (if 3 < c.length ∨ zeT c = false then -1 else zbn l (n - 1)) = R
  refine zam (fun i : Nat => ([(1, .int .i64 (n - 1)), (2, encP 5 [.int .i64 kd, .int .i64 bl, .int .i64 lb, encL 5 encX c, encL 5 encN l]), (5, .int .i64 i)], [])) 0 (fun i => i ≤ c.length ∧ zeT (c.drop i) = zeT c) (fun i => c.length - i) 0 ⟨Nat.zero_le _, rfl⟩ (Ent.keep rfl fin5) ?_
  rintro i ⟨hi, hgo⟩ wf
  unfold ziz
  by_cases hl : i < c.length
  · rw [zmo hl] at hgo
    (repeat first | simp (disch := try exact dis1) only [evD, Nat.reduceBEq, Nat.reduceAdd, Nat.reduceLeDiff, fldP, dT, dF, zao hl, zbS, zbh] | with_reducible intro _ | ((with_reducible apply And.intro); omega))
    refine zae (zah (zmq _ c[i] 70 200 (Nat.le_refl _) (by omega) (by omega) (by omega) (by omega)) (flX rfl)) ?_
    (repeat first | simp (disch := try exact dis1) only [evD, Nat.reduceBEq, Nat.reduceAdd, Nat.reduceLeDiff] | with_reducible intro _ | ((with_reducible apply And.intro); omega))
    (refine zap (fun h => ?_) (fun h => ?_)) <;> (try simp only [dcd] at h)
    · rw [if_pos h] at hgo
      rw [if_pos (.inr hgo.symm)] at hR
      rw [← hR]
      (repeat first | simp (disch := try exact dis1) only [evD, Nat.reduceBEq, Nat.reduceAdd, Nat.reduceLeDiff, zew] | with_reducible intro _ | ((with_reducible apply And.intro); omega))
      exact ⟨_, .int _ _ _, rfl⟩
    · rw [if_neg (by omega)] at hgo
      (repeat first | simp (disch := try exact dis1) only [evD, Nat.reduceBEq, Nat.reduceAdd, Nat.reduceLeDiff] | with_reducible intro _ | ((with_reducible apply And.intro); omega))
      exact ⟨i + 1, ⟨by omega, hgo⟩, by omega, Ent.keep rfl fin5⟩
  · rw [List.drop_of_length_le (by omega), zeT] at hgo
    rw [if_neg (by rw [← hgo]; simp [c1])] at hR
    (repeat first | simp (disch := try exact dis1) only [evD, Nat.reduceBEq, Nat.reduceAdd, Nat.reduceLeDiff, fldP, dT, dF] | with_reducible intro _ | ((with_reducible apply And.intro); omega))
    unfold zix
    (repeat first | simp (disch := try exact dis1) only [evD, Nat.reduceBEq, Nat.reduceAdd, Nat.reduceLeDiff] | with_reducible intro _ | ((with_reducible apply And.intro); omega))
    have hwr : R = zbn l (n - 1) := hR.symm
    refine zam (fun s : Nat × Int => ([(1, .int .i64 s.2), (2, encP 5 [.int .i64 kd, .int .i64 bl, .int .i64 lb, encL 5 encX c, encL 5 encN l]), (6, .int .i64 s.1)], [])) 0 (fun s => s.1 ≤ l.length ∧ -2 ≤ s.2 ∧ s.2 ≤ 1000 ∧ zbn (l.drop s.1) s.2 = R) (fun s => l.length - s.1) (0, n - 1) ⟨Nat.zero_le _, by simp only; omega, by simp only; omega, hR⟩ (Ent.keep rfl fin5) ?_
    rintro ⟨j, x⟩ ⟨hj, hx1, hx2, hgo2⟩ wf2
    simp only at hj hx1 hx2 hgo2
    unfold ziG
    by_cases hjl : j < l.length
    · by_cases hx : 0 ≤ x
      · rw [zqa hjl hx] at hgo2
        have hm := zeo (List.getElem_mem hjl)
        have hr := zk0 l[j] x (by omega)
        (repeat first | simp (disch := try exact dis1) only [evD, Nat.reduceBEq, Nat.reduceAdd, Nat.reduceLeDiff, fldP, dT, dF, zao hjl, zbd, zaJ] | with_reducible intro _ | ((with_reducible apply And.intro); omega))
        refine zae (zah (ih l[j] x (by omega) (by omega) (by omega)) (flN rfl)) ?_
        (repeat first | simp (disch := try exact dis1) only [evD, Nat.reduceBEq, Nat.reduceAdd, Nat.reduceLeDiff] | with_reducible intro _ | ((with_reducible apply And.intro); omega))
        exact ⟨(j + 1, zdc l[j] x), ⟨by simp only; omega, by simp only; omega, by simp only; omega, hgo2⟩, by simp only; omega, Ent.keep rfl fin5⟩
      · rw [zrk (by omega)] at hgo2
        subst hgo2
        (repeat first | simp (disch := try exact dis1) only [evD, Nat.reduceBEq, Nat.reduceAdd, Nat.reduceLeDiff, fldP, dT, dF] | with_reducible intro _ | ((with_reducible apply And.intro); omega))
        unfold zfo
        (repeat first | simp (disch := try exact dis1) only [evD, Nat.reduceBEq, Nat.reduceAdd, Nat.reduceLeDiff, zew] | with_reducible intro _ | ((with_reducible apply And.intro); omega))
        exact ⟨_, .int _ _ _, rfl⟩
    · rw [List.drop_of_length_le (by omega), zbn] at hgo2
      subst hgo2
      (repeat first | simp (disch := try exact dis1) only [evD, Nat.reduceBEq, Nat.reduceAdd, Nat.reduceLeDiff, fldP, dT, dF] | with_reducible intro _ | ((with_reducible apply And.intro); omega))
      unfold zfo
      (repeat first | simp (disch := try exact dis1) only [evD, Nat.reduceBEq, Nat.reduceAdd, Nat.reduceLeDiff, zew] | with_reducible intro _ | ((with_reducible apply And.intro); omega))
      exact ⟨_, .int _ _ _, rfl⟩
def zt4 (e : Nd) : Bool := decide (zdc e 300 ≥ 0)
theorem zrn (e : Nd) : zaj Tryz.prog zij [.agg (encN e)] (· = .bool (zt4 e)) := by
  refine fn_x zqT rfl ?_
  unfold zmS
  have hB := hBig
  have h1 := zbd (e := e)
  (repeat first | simp (disch := try exact dis1) only [evD, Nat.reduceBEq, Nat.reduceAdd, Nat.reduceLeDiff, zbd, zbi, zaJ] | with_reducible intro _ | ((with_reducible apply And.intro); omega))
  refine zae (zah (zpV _ e 300 (Nat.le_refl _) (by omega) (by omega)) (flN rfl)) ?_
  (repeat first | simp (disch := try exact dis1) only [evD, Nat.reduceBEq, Nat.reduceAdd, Nat.reduceLeDiff, zmF] | with_reducible intro _ | ((with_reducible apply And.intro); omega))
  exact ⟨_, .bool _ _, rfl⟩
end Go.Ab
