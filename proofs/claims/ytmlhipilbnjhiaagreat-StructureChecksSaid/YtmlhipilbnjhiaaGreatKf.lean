/-
  Part 6 of the proof: how the calls of this program run, over values instead of memory, and what each function computes.
-/
import Derived.Test.YtmlhipilbnjhiaaGreatRows
import Derived.WalkKit
import Derived.OpenShut
import Derived.ShutString
import Derived.ChangeOld
import Derived.Below
import Derived.Test.YtmlhipilbnjhiaaGreatProg
import Derived.KernelRfl
import Derived.Test.YtmlhipilbnjhiaaGreatKe
set_option maxRecDepth 100000
set_option linter.unusedVariables false
set_option linter.unusedSimpArgs false
set_option linter.unnecessarySimpa false
set_option linter.unusedSectionVars false

namespace Go.Ab
open Go.RowKit
inductive Ex where
  | mk (op n var width : Int) (l : List Ex)
structure NdF where
  kind : Int
  block : Int
  label : Int
inductive Nd where
  | mk (f : NdF) (cond : List Ex) (l : List Nd)
def Ex.l : Ex → List Ex
  | .mk _ _ _ _ l => l
def Nd.f : Nd → NdF
  | .mk f _ _ => f
mutual
def encX : Ex → List AV
  | .mk op n v w l => [.int .i64 op, .int .u32 n, .int .i64 v, .int .i64 w, .sl 5 l.length (fun i j => ((zwy l).getD i []).getD j .undef)]
def zwy : List Ex → List (List AV)
  | [] => []
  | e :: l => encX e :: zwy l
end
theorem zpT : ∀ l : List Ex, zwy l = l.map encX
  | [] => by rw [zwy]; rfl
  | e :: l => by rw [zwy, zpT l]; rfl
theorem zgs (op n v w : Int) (l : List Ex) : encX (.mk op n v w l) = [.int .i64 op, .int .u32 n, .int .i64 v, .int .i64 w, encL 5 encX l] := by
  rw [encX, zpT]
  rfl
mutual
def encN : Nd → List AV
  | .mk f c l => [.int .i64 f.kind, .int .i64 f.block, .int .i64 f.label, encL 5 encX c, .sl 5 l.length (fun i j => ((zw7 l).getD i []).getD j .undef)]
def zw7 : List Nd → List (List AV)
  | [] => []
  | e :: l => encN e :: zw7 l
end
theorem zqc : ∀ l : List Nd, zw7 l = l.map encN
  | [] => by rw [zw7]; rfl
  | e :: l => by rw [zw7, zqc l]; rfl
theorem zbs (f : NdF) (c : List Ex) (l : List Nd) : encN (.mk f c l) = [.int .i64 f.kind, .int .i64 f.block, .int .i64 f.label, encL 5 encX c, encL 5 encN l] := by
  rw [encN, zqc]
  rfl
mutual
def zik : Ex → Int → Int → Int
  | .mk _ _ _ _ l, most, left => if most < 1 ∨ left < 1 ∨ 4 < l.length then -1 else zc6 l (most - 1) (left - 1)
def zc6 : List Ex → Int → Int → Int
  | [], _, n => n
  | e :: l, most, n => if n < 0 then n else zc6 l most (zik e most n)
end
def zd4 : List Ex → Bool
  | [] => true
  | e :: l => if zik e 70 200 < 0 then false else zd4 l
mutual
def zcs : Nd → Int → Int
  | .mk _ c l, left => if 3 < c.length ∨ zd4 c = false then -1 else zaw l (left - 1)
def zaw : List Nd → Int → Int
  | [], n => n
  | e :: l, n => if n < 0 then n else zaw l (zcs e n)
end
mutual
def allN : Nd → List Nd
  | .mk f c l => .mk f c l :: zdM l
def zdM : List Nd → List Nd
  | [] => []
  | e :: l => allN e ++ zdM l
end
mutual
def za7 : Nd → Nat
  | .mk _ _ l => 1 + za4 l
def za4 : List Nd → Nat
  | [] => 0
  | e :: l => za7 e + za4 l
end
mutual
theorem znl : ∀ (n : Nd) (left : Int), 0 ≤ zcs n left → (za7 n : Int) + zcs n left ≤ left
  | .mk f c l, left, h => by
    rw [zcs] at h ⊢
    split at h
    · omega
    · rename_i hc
      rw [if_neg hc]
      have := zlz l (left - 1) h
      rw [za7]
      omega
theorem zlz : ∀ (l : List Nd) (left : Int), 0 ≤ zaw l left → (za4 l : Int) + zaw l left ≤ left
  | [], left, h => by
    rw [zaw, za4]
    omega
  | e :: l, left, h => by
    rw [zaw] at h ⊢
    split at h
    · omega
    · rename_i hn
      rw [if_neg hn]
      have h2 := zlz l _ h
      have h3 : 0 ≤ zcs e left := by
        apply Classical.byContradiction
        intro hc
        have hlt : zcs e left < 0 := by omega
        have : zaw l (zcs e left) = zcs e left := by
          cases l with
          | nil => rw [zaw]
          | cons a l => rw [zaw, if_pos hlt]
        omega
      have h1 := znl e left h3
      rw [za4]
      omega
end
mutual
theorem zms : ∀ n : Nd, (allN n).length = za7 n
  | .mk f c l => by rw [allN, za7, List.length_cons, zpZ l]; omega
theorem zpZ : ∀ l : List Nd, (zdM l).length = za4 l
  | [] => by rw [zdM, za4]; rfl
  | e :: l => by rw [zdM, za4, List.length_append, zms e, zpZ l]
end
end Go.Ab
namespace Go.Ab
open Go.RowKit Go.Proofs Go.Proofs.YtmlhipilbnjhiaaGreat
section
variable {HH : Type} {enc : TypeId × Value → HH} {w : World} {base : Nat} {spare : Nat → Bool} {held : Bool} {L : Nat → Prop} (hL : ∀ b, ¬ L b)
include hL
theorem zkN {P : Program} {α : Type} {cells : α → List AV} {t e : TypeId} {sz : Nat} {fuel : Nat} (ht : P.underlying t = some (.slice e)) (hs : P.cellsOf e = sz)
    (hel : ∀ fuel', fuel' < fuel → ∀ cs y, DataW.trod enc P w base spare held fuel' e cs = some y → cs.length = sz → ∃ x : α, ElOk w L cs (cells x)) {cs : List Value} {y : DataW HH × List MemPlace}
    (h : DataW.trod enc P w base spare held fuel t cs = some y) : ∃ (l : List α) (v : Value), cs = [v] ∧ v.oneCell' = true ∧ ∀ ι, VR w L ι v (encL sz cells l) := by
  rcases DataW.trod_slice ht h with ⟨rfl, rfl⟩ | ⟨a, len, cap, elems, rest, n, rfl, rfl, rfl, hb, hl, hc, he, hi, _, _⟩
  · exact ⟨[], _, rfl, rfl, fun ι => .sl0 _ _ _⟩
  · rw [hs] at hi
    have key : ∀ i : Fin len, ∃ p : α × List Value, p.2.length = sz ∧ (∀ j, j < sz → w.cell? ((a.add (i.1 * sz)).add j) = some (p.2.getD j undef)) ∧ ElOk w L p.2 (cells p.1) := by
      intro i
      have h1 := hi i.1 i.2
      rw [List.getElem?_eq_getElem (by omega), Option.bind_eq_some_iff] at h1
      obtain ⟨cs', h2, h3⟩ := h1
      obtain ⟨h4, h5⟩ := zqz h2
      obtain ⟨x, hx⟩ := hel _ (Nat.lt_succ_self _) _ _ h3 h4
      exact ⟨(x, cs'), h4, h5, hx⟩
    obtain ⟨F, hF⟩ := Classical.axiomOfChoice key
    refine ⟨List.ofFn fun i => (F i).1, _, rfl, rfl, fun ι => ?_⟩
    have hlen : (List.ofFn fun i => (F i).1).length = len := List.length_ofFn
    unfold encL
    rw [hlen]
    refine .sl ι a sz len cap _ (fun i j => if hi : i < len then (F ⟨i, hi⟩).2.getD j undef else undef) hl (by unfold maxLen at hc; unfold big; omega) (fun i j hi hj => ?_) (fun _ => hL _) (fun i j hi hj => ?_)
    · obtain ⟨h1, h2, h3⟩ := hF ⟨i, hi⟩
      rw [dif_pos hi]
      exact ⟨h2 j hj, (h3 j (by omega)).2⟩
    · obtain ⟨h1, h2, h3⟩ := hF ⟨i, hi⟩
      rw [dif_pos hi]
      have e : ((List.ofFn fun i => (F i).1).map cells).getD i [] = cells (F ⟨i, hi⟩).1 := by
        rw [zdG (a := (F ⟨i, hi⟩).1)]
        rw [List.getElem?_eq_getElem (by rw [hlen]; exact hi), List.getElem_ofFn]
      rw [e]
      exact (h3 j (by omega)).1
theorem zuN : ∀ (k fuel : Nat), fuel ≤ k → ∀ (cs : List Value) (y : DataW HH × List MemPlace), DataW.trod enc Tryz.prog w base spare held fuel 60 cs = some y → ∃ e : Ex, ElOk w L cs (encX e) := by
  intro k
  induction k with
  | zero =>
    intro fuel hk cs y h
    obtain ⟨xs, n, h0, _⟩ := DataW.trod_struct Tryz.underlying60 h
    omega
  | succ k ih =>
  intro fuel hk cs y h
  obtain ⟨xs, n, rfl, rfl, hlen, hxs, hf⟩ := DataW.trod_struct Tryz.underlying60 h
  have hc : Tryz.prog.cellsOf 60 = 5 := by kernel_rfl
  have hc3 : Tryz.prog.cellsOf 3 = 1 := by kernel_rfl
  have hc22 : Tryz.prog.cellsOf 22 = 1 := by kernel_rfl
  have hc28 : Tryz.prog.cellsOf 28 = 1 := by kernel_rfl
  rw [hc] at hlen
  have hget : ∀ i, i < 5 → xs[i]? = some (xs.getD i (.nil, [])) := fun i hi => by
    rw [List.getD_eq_getElem?_getD, List.getElem?_eq_getElem (by rw [hxs]; exact hi)]
    rfl
  match cs, hlen with
  | [c0, c1, c2, c3, c4], _ =>
    have f0 : DataW.trod enc Tryz.prog w base spare held n 3 (([c0, c1, c2, c3, c4].drop 0).take (Tryz.prog.cellsOf 3)) = some (xs.getD 0 (.nil, [])) := (hf 0 _ rfl).trans (hget 0 (by decide))
    rw [hc3] at f0
    replace f0 : DataW.trod enc Tryz.prog w base spare held n 3 [c0] = some (xs.getD 0 (.nil, [])) := f0
    have f1 : DataW.trod enc Tryz.prog w base spare held n 22 (([c0, c1, c2, c3, c4].drop 1).take (Tryz.prog.cellsOf 22)) = some (xs.getD 1 (.nil, [])) := (hf 1 _ rfl).trans (hget 1 (by decide))
    rw [hc22] at f1
    replace f1 : DataW.trod enc Tryz.prog w base spare held n 22 [c1] = some (xs.getD 1 (.nil, [])) := f1
    have f2 : DataW.trod enc Tryz.prog w base spare held n 3 (([c0, c1, c2, c3, c4].drop 2).take (Tryz.prog.cellsOf 3)) = some (xs.getD 2 (.nil, [])) := (hf 2 _ rfl).trans (hget 2 (by decide))
    rw [hc3] at f2
    replace f2 : DataW.trod enc Tryz.prog w base spare held n 3 [c2] = some (xs.getD 2 (.nil, [])) := f2
    have f3 : DataW.trod enc Tryz.prog w base spare held n 3 (([c0, c1, c2, c3, c4].drop 3).take (Tryz.prog.cellsOf 3)) = some (xs.getD 3 (.nil, [])) := (hf 3 _ rfl).trans (hget 3 (by decide))
    rw [hc3] at f3
    replace f3 : DataW.trod enc Tryz.prog w base spare held n 3 [c3] = some (xs.getD 3 (.nil, [])) := f3
    have f4 : DataW.trod enc Tryz.prog w base spare held n 28 (([c0, c1, c2, c3, c4].drop 4).take (Tryz.prog.cellsOf 28)) = some (xs.getD 4 (.nil, [])) := (hf 4 _ rfl).trans (hget 4 (by decide))
    rw [hc28] at f4
    replace f4 : DataW.trod enc Tryz.prog w base spare held n 28 [c4] = some (xs.getD 4 (.nil, [])) := f4
    obtain ⟨n0, h0, w0⟩ := zeU Tryz.underlying3 f0
    obtain ⟨n1, h1, w1⟩ := zeU Tryz.underlying22 f1
    obtain ⟨n2, h2, w2⟩ := zeU Tryz.underlying3 f2
    obtain ⟨n3, h3, w3⟩ := zeU Tryz.underlying3 f3
    obtain ⟨l4, v4, h4, o4, w4⟩ := zkN (L := L) (α := Ex) (cells := encX) hL Tryz.underlying28 hc (fun fuel' hf' cs y h _ => ih fuel' (by omega) cs y h) f4
    cases h0; cases h1; cases h2; cases h3; cases h4
    refine ⟨.mk n0 n1 n2 n3 l4, fun j hj => ?_⟩
    rw [zgs]
    match j with
    | 0 => exact ⟨.int _ _ _ w0, rfl⟩
    | 1 => exact ⟨.int _ _ _ w1, rfl⟩
    | 2 => exact ⟨.int _ _ _ w2, rfl⟩
    | 3 => exact ⟨.int _ _ _ w3, rfl⟩
    | 4 => exact ⟨w4 _, o4⟩
    | j + 5 => exact absurd hj (by simp)
theorem zzO : ∀ (k fuel : Nat), fuel ≤ k → ∀ (cs : List Value) (y : DataW HH × List MemPlace), DataW.trod enc Tryz.prog w base spare held fuel 31 cs = some y → ∃ e : Nd, cs.length = 5 ∧ ElOk w L cs (encN e) ∧ ∀ j, j < 5 → ∀ ι, VR w L ι (cs.getD j undef) ((encN e).getD j .undef) := by
  intro k
  induction k with
  | zero =>
    intro fuel hk cs y h
    obtain ⟨xs, n, h0, _⟩ := DataW.trod_struct Tryz.underlying31 h
    omega
  | succ k ih =>
  intro fuel hk cs y h
  have hcx : Tryz.prog.cellsOf 60 = 5 := by kernel_rfl
  obtain ⟨xs, n, rfl, rfl, hlen, hxs, hf⟩ := DataW.trod_struct Tryz.underlying31 h
  have hc : Tryz.prog.cellsOf 31 = 5 := by kernel_rfl
  have hc3 : Tryz.prog.cellsOf 3 = 1 := by kernel_rfl
  have hc28 : Tryz.prog.cellsOf 28 = 1 := by kernel_rfl
  have hc29 : Tryz.prog.cellsOf 29 = 1 := by kernel_rfl
  rw [hc] at hlen
  have hget : ∀ i, i < 5 → xs[i]? = some (xs.getD i (.nil, [])) := fun i hi => by
    rw [List.getD_eq_getElem?_getD, List.getElem?_eq_getElem (by rw [hxs]; exact hi)]
    rfl
  match cs, hlen with
  | [c0, c1, c2, c3, c4], _ =>
    have f0 : DataW.trod enc Tryz.prog w base spare held n 3 (([c0, c1, c2, c3, c4].drop 0).take (Tryz.prog.cellsOf 3)) = some (xs.getD 0 (.nil, [])) := (hf 0 _ rfl).trans (hget 0 (by decide))
    rw [hc3] at f0
    replace f0 : DataW.trod enc Tryz.prog w base spare held n 3 [c0] = some (xs.getD 0 (.nil, [])) := f0
    have f1 : DataW.trod enc Tryz.prog w base spare held n 3 (([c0, c1, c2, c3, c4].drop 1).take (Tryz.prog.cellsOf 3)) = some (xs.getD 1 (.nil, [])) := (hf 1 _ rfl).trans (hget 1 (by decide))
    rw [hc3] at f1
    replace f1 : DataW.trod enc Tryz.prog w base spare held n 3 [c1] = some (xs.getD 1 (.nil, [])) := f1
    have f2 : DataW.trod enc Tryz.prog w base spare held n 3 (([c0, c1, c2, c3, c4].drop 2).take (Tryz.prog.cellsOf 3)) = some (xs.getD 2 (.nil, [])) := (hf 2 _ rfl).trans (hget 2 (by decide))
    rw [hc3] at f2
    replace f2 : DataW.trod enc Tryz.prog w base spare held n 3 [c2] = some (xs.getD 2 (.nil, [])) := f2
    have f3 : DataW.trod enc Tryz.prog w base spare held n 28 (([c0, c1, c2, c3, c4].drop 3).take (Tryz.prog.cellsOf 28)) = some (xs.getD 3 (.nil, [])) := (hf 3 _ rfl).trans (hget 3 (by decide))
    rw [hc28] at f3
    replace f3 : DataW.trod enc Tryz.prog w base spare held n 28 [c3] = some (xs.getD 3 (.nil, [])) := f3
    have f4 : DataW.trod enc Tryz.prog w base spare held n 29 (([c0, c1, c2, c3, c4].drop 4).take (Tryz.prog.cellsOf 29)) = some (xs.getD 4 (.nil, [])) := (hf 4 _ rfl).trans (hget 4 (by decide))
    rw [hc29] at f4
    replace f4 : DataW.trod enc Tryz.prog w base spare held n 29 [c4] = some (xs.getD 4 (.nil, [])) := f4
    obtain ⟨n0, h0, w0⟩ := zeU Tryz.underlying3 f0
    obtain ⟨n1, h1, w1⟩ := zeU Tryz.underlying3 f1
    obtain ⟨n2, h2, w2⟩ := zeU Tryz.underlying3 f2
    obtain ⟨l3, v3, h3, o3, w3⟩ := zkN (L := L) (α := Ex) (cells := encX) hL Tryz.underlying28 hcx (fun fuel' hf' cs y h _ => zuN hL fuel' fuel' (Nat.le_refl _) cs y h) f3
    obtain ⟨l4, v4, h4, o4, w4⟩ := zkN (L := L) (α := Nd) (cells := encN) hL Tryz.underlying29 hc (fun fuel' hf' cs y h _ => let ⟨e, _, h, _⟩ := ih fuel' (by omega) cs y h; ⟨e, h⟩) f4
    cases h0; cases h1; cases h2; cases h3; cases h4
    refine ⟨.mk ⟨n0, n1, n2⟩ l3 l4, rfl, fun j hj => ?_, fun j hj ι => ?_⟩
    · rw [zbs]
      match j with
      | 0 => exact ⟨.int _ _ _ w0, rfl⟩
      | 1 => exact ⟨.int _ _ _ w1, rfl⟩
      | 2 => exact ⟨.int _ _ _ w2, rfl⟩
      | 3 => exact ⟨w3 _, o3⟩
      | 4 => exact ⟨w4 _, o4⟩
      | j + 5 => exact absurd hj (by simp)
    · rw [zbs]
      match j with
      | 0 => exact .int _ _ _ w0
      | 1 => exact .int _ _ _ w1
      | 2 => exact .int _ _ _ w2
      | 3 => exact w3 _
      | 4 => exact w4 _
      | j + 5 => exact absurd hj (by omega)
theorem open_node {v : Value} {d : DataW HH} {ps : List MemPlace} (hv : Value.okWide Tryz.prog w .any base 31 v) {b2 : Nat} (h : DataW.Trod enc Tryz.prog w b2 spare held 31 v d ps) : ∃ e : Nd, True ∧ ∀ ι, VR w L ι v (.agg (encN e)) := by
  obtain ⟨fuel, hf⟩ := h
  unfold Value.okWide at hv
  rw [Tryz.underlying31] at hv
  simp only at hv
  obtain ⟨cs, rfl, _, _⟩ := hv
  have hf' : DataW.trod enc Tryz.prog w b2 spare held fuel 31 cs.toList = some (d, ps) := hf
  obtain ⟨o, h1, h2, h3⟩ := zzO hL fuel fuel (Nat.le_refl _) _ _ hf'
  have hlen : (encN o).length = 5 := by obtain ⟨_, _, _⟩ := o; rw [zbs]; rfl
  refine ⟨o, trivial, fun ι => .agg ι cs _ (by rw [hlen]; simpa using h1) (fun i v hi => ?_) (fun i v a hi ha => ?_)⟩
  · have hi' : i < cs.toList.length := by have := (Array.getElem?_eq_some_iff.1 hi).1; simpa using this
    have e : cs.toList.getD i undef = v := by
      rw [List.getD_eq_getElem?_getD, Array.getElem?_toList, hi]; rfl
    have := (h2 i hi').2
    rwa [e] at this
  · have hi' : i < cs.toList.length := by have := (Array.getElem?_eq_some_iff.1 hi).1; simpa using this
    have e : cs.toList.getD i undef = v := by
      rw [List.getD_eq_getElem?_getD, Array.getElem?_toList, hi]; rfl
    have e2 : (encN o).getD i .undef = a := by
      rw [List.getD_eq_getElem?_getD, ha]; rfl
    have := h3 i (by omega) ι
    rwa [e, e2] at this
end
theorem zye {H : AH} {v : AV} {b : Bool} (h : Frz H v (.bool b)) : v = .bool b := by
  unfold Frz at h
  generalize he : AV.bool b = x at h
  cases h <;> first | (cases he; done) | (cases he; rfl)
theorem row_true {P : Program} {f : FuncId} {args : List AV} {vs : Array Value} {w : World} (h : zk P f args (· = .bool true)) (hv : ∀ L : Nat → Prop, (∀ b, ¬ L b) → VRs w L noI vs.toList args) :
    Calls P f vs w fun e w' => e = .returned (.bool true) ∧ Below w.heap.size w w' := by
  have hno : ∀ b, ¬ Lt (fun _ => False) noI [] b := fun b hb => hb.elim (fun h => h) (zkX b)
  refine (h w (fun _ => False) noI vs (.empty (fun b hb => hb.elim)) (hv _ hno)).mono fun e w' ⟨v, ι', H', nx', a, h1, h2, _, h4, a2, h5, h6⟩ => ?_
  subst h1 h6
  have := zye h5
  subst this
  cases h4
  exact ⟨rfl, h2.ext.os, h2.ext.tape, h2.ext.output, h2.ext.size, fun k hk => h2.ext.block k hk (zkX k)⟩
end Go.Ab
namespace Go.Ab
def zl7 : Nat := 2
def zjG : Nat := 3
def ziC : Nat := 4
def zcq : Nat := 5
def ziG : Nat := 6
def zgr : Nat := 7
def zjj : Nat := 8
def zjc : Nat := 9
def zkB : Nat := 10
def zb1 : Nat := 11
def zcA : Nat := 12
def zcZ : Nat := 13
def zkt : Nat := 14
def znk : Nat := 15
def zck : Nat := 16
def zbc : Nat := 17
def zcK : Nat := 18
def zq6 : Nat := 19
def zus : Nat := 20
def zg9 : Nat := 21
def zhn : Nat := 22
def zkW : Nat := 23
def zsj : Nat := 24
def ztO : Nat := 25
def zb3 : Nat := 26
def zeq : Nat := 27
def zek : Nat := 28
def zpS : Nat := 29
def znZ : Nat := 30
def zg7 : Nat := 31
def zgZ : Nat := 32
def zt7 : Nat := 33
def zkS : Nat := 34
def znn : Nat := 35
def zoB : Nat := 36
def zmd : Nat := 37
def zd6 : Nat := 38
def zt4 : Nat := 39
def zu2 : Nat := 40
def zr8 : Nat := 41
def zbl : Nat := 42
def zh0 : Nat := 43
def zgO : Nat := 44
def zci : Nat := 45
def zlh : Nat := 46
def zee : Nat := 47
def zcf : Nat := 48
def zuh : Nat := 49
def zy : Nat := 50
def zbV : Nat := 51
def zC : Nat := 52
def zb6 : Nat := 53
def zbn : Nat := 54
def zbN : Nat := 55
def zaS : Nat := 56
def zch : Nat := 57
def zS : Nat := 58
def zB : Nat := 59
def zad : Nat := 60
def zjT : Nat := 61
def zmb : Nat := 62
def zac : Nat := 63
def zjm : Nat := 64
def zmo : Nat := 65
def zue : Nat := 66
def zsa : Nat := 67
def zdF : Nat := 68
def ztD : Nat := 69
def zem : Nat := 70
def zei : Nat := 71
def zgj : Nat := 72
def zfh : Nat := 73
def zrf : Nat := 74
def zrG : Nat := 75
def zv5 : Nat := 76
def ztX : Nat := 77
def zfy : Nat := 78
def ze7 : Nat := 79
def zqO : Nat := 80
def zoL : Nat := 81
def zhb : Nat := 82
def zcY : Nat := 83
def zc4 : Nat := 84
def zaC : Nat := 85
def zdr : Nat := 86
def zid : Nat := 87
def zgL : Nat := 88
def zgt : Nat := 89
def ze5 : Nat := 90
def zlf : Nat := 91
def zmK : Nat := 92
def zgq : Nat := 93
def ziU : Nat := 94
def zfe : Nat := 95
def zg3 : Nat := 96
def zcn : Nat := 97
def zal : Nat := 98
def zfI : Nat := 99
def zU : Nat := 100
def zcR : Nat := 101
def zbv : Nat := 102
def zaW : Nat := 103
def zbo : Nat := 104
def zfj : Nat := 105
def zm9 : Nat := 106
def zdK : Nat := 107
def zqT : Nat := 108
def zuu : Nat := 109
def zpp : Nat := 110
def zoy : Nat := 111
def zqP : Nat := 112
def zv7 : Nat := 113
def zqs : Nat := 114
def zrb : Nat := 115
def zP : Nat := 116
def zeu : Nat := 117
def zbI : Nat := 118
def zO : Nat := 119
def zao : Nat := 120
def zdq : Nat := 121
def zc2 : Nat := 122
def zav : Nat := 123
def zmn : Nat := 124
def zdk : Nat := 125
def zbG : Nat := 126
def zkT : Nat := 127
def zox : Nat := 128
def zdz : Nat := 129
def znT : Nat := 130
def zpD : Nat := 131
def zpi : Nat := 132
def zcN : Nat := 133
def zpH : Nat := 134
def zgE : Nat := 135
def zel : Nat := 136
def zgW : Nat := 137
def zep : Nat := 138
def zcT : Nat := 139
def zej : Nat := 140
def zaj : Nat := 141
def zds : Nat := 142
def ze2 : Nat := 143
def zdL : Nat := 144
def zea : Nat := 145
def zdN : Nat := 146
def zcd : Nat := 147
def znV : Nat := 148
def zdd : Nat := 149
def zeH : Nat := 150
def zkZ : Nat := 151
def zkU : Nat := 152
def zd2 : Nat := 153
def zoE : Nat := 154
def zn1 : Nat := 155
def zW : Nat := 156
def zX : Nat := 157
def zdt : Nat := 158
def zfM : Nat := 159
def zkE : Nat := 160
def zkk : Nat := 161
def zcv : Nat := 162
def zbh : Nat := 163
def za0 : Nat := 164
def ziI : Nat := 165
def zgN : Nat := 166
def zet : Nat := 167
def zbS : Nat := 168
def zaa : Nat := 169
def zF : Nat := 170
def zeh : Nat := 171
def zY : Nat := 172
def zfd : Nat := 173
def zg6 : Nat := 174
def zhX : Nat := 175
def zdf : Nat := 176
def zfW : Nat := 177
def zmJ : Nat := 178
def zvd : Nat := 179
def zau : Nat := 180
def zbf : Nat := 181
def zjl : Nat := 182
def zx : Nat := 183
def zV : Nat := 184
def zfS : Nat := 185
def zfQ : Nat := 186
end Go.Ab
namespace Go.Ab
open Go.RowKit Go.Proofs
def zlt : ACode := .seq (.region [ (oN 1 (.rbox (.t 0))), (oN 2 (.mov (.c (.bool false))))] [0, 2]) (.seq (.region [ (oN 3 (.load true 5 (.t 1))), (oN 4 (.call zem [(.t 3), (.c (.int .i64 300))])), (oN 5 (.bin .geq (.t 4) (.c (.int .i64 0)))), (oN 2 (.mov (.t 5)))] [1, 3, 4, 5]) (.ret))
def zlB : List ARet := [.tmp 2]
theorem zp7 : zT Tryz.prog zg9 (qRo [1]) = some (zlt.strip, zlB, 6) := by kernel_rfl
def zdR : ACode := .seq (.region [ (oN 10 (.bin .lss (.t 9) (.t 8)))] []) (.seq (.cond (.t 10) (.skip) (.exit 0)) (.seq (.block 1 (.seq (.region [ (oN 11 (.idx 5 (.t 7) (.t 9))), (oN 12 (.load true 5 (.t 11))), (oN 5 (.alloc [.int .i64 0, .int .i64 0, .int .i64 0, .nilsl, .nilsl])), ⟨none, .store 5 (.t 5) (.t 12), none⟩] [10, 11, 12]) (.seq (.region [ (oN 13 (.fldaddr 0 1 (.t 5))), (oN 14 (.load false 1 (.t 13))), (oN 15 (.bin .eql (.t 14) (.c (.int .i64 10))))] [13, 14]) (.cond (.t 15) (.region [ (oN 16 (.mov (.t 3))), (oN 17 (.fldaddr 2 1 (.t 5))), (oN 18 (.load false 1 (.t 17))), (oN 19 (.buildSl 1 1 [.int .i64 0] [(0, (.t 18))])), (oN 20 (.append 1 8 (.t 16) (.t 19))), (oN 3 (.mov (.t 20)))] [5, 15, 16, 17, 18, 19, 20]) (.skip))))) (.region [ (oN 21 (.bin .add (.t 9) (.c (.int .i64 1)))), (oN 9 (.mov (.t 21)))] [5, 15, 21])))
def zdZ : ACode := .seq (.region [ (oN 22 (.mov (.t 3))), (oN 2 (.mov (.t 22)))] [3, 7, 8, 9, 22]) (.ret)
def zfG : ACode := .seq (.region [ (oN 1 (.rbox (.t 0))), (oN 2 (.mknil 1))] [0, 2]) (.seq (.region [ (oN 3 (.mknil 1))] []) (.seq (.seq (.region [ (oN 6 (.load true 5 (.t 1))), (oN 7 (.call zci [(.t 6)])), (oN 8 (.len (.t 7))), (oN 9 (.mov (.c (.int .i64 0))))] [1, 6]) (.block 0 (.loop zdR))) (zdZ)))
def zfA : List ARet := [.tmp 2]
theorem zjO : zT Tryz.prog zb3 (qRo [1]) = some (zfG.strip, zfA, 23) := by kernel_rfl
def zeC : ACode := .seq (.seq (.region [ (oN 13 (.mov (.t 4))), (oN 14 (.fldaddr 4 1 (.t 1))), (oN 15 (.load false 1 (.t 14))), (oN 16 (.len (.t 15))), (oN 17 (.bin .lss (.t 13) (.t 16)))] [13, 14, 15, 16]) (.cond (.t 17) (.skip) (.exit 0))) (.seq (.block 1 (.region [ (oN 20 (.mov (.t 3))), (oN 21 (.fldaddr 4 1 (.t 1))), (oN 22 (.load false 1 (.t 21))), (oN 23 (.mov (.t 4))), (oN 24 (.idx 5 (.t 22) (.t 23))), (oN 25 (.load true 5 (.t 24))), (oN 26 (.call zeq [(.t 25)])), (oN 27 (.append 1 8 (.t 20) (.t 26))), (oN 3 (.mov (.t 27)))] [17, 20, 21, 22, 23, 24, 25, 26, 27])) (.region [ (oN 18 (.mov (.t 4))), (oN 19 (.bin .add (.t 18) (.c (.int .i64 1)))), (oN 4 (.mov (.t 19)))] [18, 19]))
def zew : ACode := .seq (.region [ (oN 28 (.mov (.t 3))), (oN 2 (.mov (.t 28)))] [1, 3, 4, 28]) (.ret)
def zkJ : ACode := .seq (.region [ (oN 1 (.rbox (.t 0))), (oN 2 (.mknil 1))] [0, 2]) (.seq (.region [ (oN 3 (.mknil 1))] []) (.seq (.seq (.region [ (oN 5 (.fldaddr 0 1 (.t 1))), (oN 6 (.load false 1 (.t 5))), (oN 7 (.bin .eql (.t 6) (.c (.int .i64 10))))] [5, 6]) (.cond (.t 7) (.region [ (oN 8 (.mov (.t 3))), (oN 9 (.fldaddr 2 1 (.t 1))), (oN 10 (.load false 1 (.t 9))), (oN 11 (.buildSl 1 1 [.int .i64 0] [(0, (.t 10))])), (oN 12 (.append 1 8 (.t 8) (.t 11))), (oN 3 (.mov (.t 12)))] [7, 8, 9, 10, 11, 12]) (.skip))) (.seq (.seq (.region [ (oN 4 (.mov (.c (.int .i64 0))))] [7]) (.block 0 (.loop zeC))) (zew))))
def zhl : List ARet := [.tmp 2]
theorem zo9 : zT Tryz.prog zeq (qRo [1]) = some (zkJ.strip, zhl, 29) := by kernel_rfl
def zeI : ACode := .seq (.seq (.region [ (oN 18 (.mov (.t 4))), (oN 19 (.fldaddr 4 1 (.t 1))), (oN 20 (.load false 1 (.t 19))), (oN 21 (.len (.t 20))), (oN 22 (.bin .lss (.t 18) (.t 21)))] [18, 19, 20, 21]) (.cond (.t 22) (.skip) (.exit 0))) (.seq (.block 1 (.region [ (oN 25 (.mov (.t 3))), (oN 26 (.fldaddr 4 1 (.t 1))), (oN 27 (.load false 1 (.t 26))), (oN 28 (.mov (.t 4))), (oN 29 (.idx 5 (.t 27) (.t 28))), (oN 30 (.load true 5 (.t 29))), (oN 31 (.call zek [(.t 30)])), (oN 32 (.append 1 8 (.t 25) (.t 31))), (oN 3 (.mov (.t 32)))] [22, 25, 26, 27, 28, 29, 30, 31, 32])) (.region [ (oN 23 (.mov (.t 4))), (oN 24 (.bin .add (.t 23) (.c (.int .i64 1)))), (oN 4 (.mov (.t 24)))] [23, 24]))
def zeA : ACode := .seq (.region [ (oN 33 (.mov (.t 3))), (oN 2 (.mov (.t 33)))] [1, 3, 4, 33]) (.ret)
def zku : ACode := .seq (.region [ (oN 1 (.rbox (.t 0))), (oN 2 (.mknil 1))] [0, 2]) (.seq (.region [ (oN 3 (.mknil 1))] []) (.seq (.seq (.region [ (oN 5 (.fldaddr 0 1 (.t 1))), (oN 6 (.load false 1 (.t 5))), (oN 7 (.bin .eql (.t 6) (.c (.int .i64 2)))), (oN 8 (.mov (.t 7))), (oG 9 8 false (.fldaddr 0 1 (.t 1))), (oG 10 8 false (.load false 1 (.t 9))), (oG 11 8 false (.bin .eql (.t 10) (.c (.int .i64 5)))), (oN 12 (.pick (.t 8) (.c (.bool true)) (.t 11)))] [5, 6, 7, 8, 9, 10, 11]) (.cond (.t 12) (.region [ (oN 13 (.mov (.t 3))), (oN 14 (.fldaddr 1 1 (.t 1))), (oN 15 (.load false 1 (.t 14))), (oN 16 (.buildSl 1 1 [.int .i64 0] [(0, (.t 15))])), (oN 17 (.append 1 8 (.t 13) (.t 16))), (oN 3 (.mov (.t 17)))] [12, 13, 14, 15, 16, 17]) (.skip))) (.seq (.seq (.region [ (oN 4 (.mov (.c (.int .i64 0))))] [12]) (.block 0 (.loop zeI))) (zeA))))
def zhv : List ARet := [.tmp 2]
theorem zoH : zT Tryz.prog zek (qRo [1]) = some (zku.strip, zhv, 34) := by kernel_rfl
def ziF : ACode := .seq (.seq (.region [ (oN 23 (.mov (.t 8))), (oN 24 (.fldaddr 4 1 (.t 3))), (oN 25 (.load false 1 (.t 24))), (oN 26 (.len (.t 25))), (oN 27 (.bin .lss (.t 23) (.t 26))), (oN 28 (.mov (.t 27))), (oG 29 28 true (.mov (.t 7))), (oG 30 28 true (.bin .geq (.t 29) (.c (.int .i64 0)))), (oN 31 (.pick (.t 28) (.t 30) (.c (.bool false))))] [23, 24, 25, 26, 27, 28, 29, 30]) (.cond (.t 31) (.skip) (.exit 0))) (.seq (.block 1 (.region [ (oN 34 (.fldaddr 4 1 (.t 3))), (oN 35 (.load false 1 (.t 34))), (oN 36 (.mov (.t 8))), (oN 37 (.idx 5 (.t 35) (.t 36))), (oN 38 (.load true 5 (.t 37))), (oN 39 (.mov (.t 1))), (oN 40 (.bin .sub (.t 39) (.c (.int .i64 1)))), (oN 41 (.mov (.t 7))), (oN 42 (.call zd6 [(.t 38), (.t 40), (.t 41)])), (oN 7 (.mov (.t 42)))] [31, 34, 35, 36, 37, 38, 39, 40, 41, 42])) (.region [ (oN 32 (.mov (.t 8))), (oN 33 (.bin .add (.t 32) (.c (.int .i64 1)))), (oN 8 (.mov (.t 33)))] [32, 33]))
def zft : ACode := .seq (.region [ (oN 43 (.mov (.t 7))), (oN 6 (.mov (.t 43)))] [1, 3, 7, 8, 43]) (.ret)
def zlP : ACode := .seq (.region [ (oN 3 (.rbox (.t 0))), (oN 6 (.mov (.c (.int .i64 0))))] [0, 6]) (.seq (.seq (.region [ (oN 9 (.mov (.t 1))), (oN 10 (.bin .lss (.t 9) (.c (.int .i64 1)))), (oN 11 (.mov (.t 10))), (oG 12 11 false (.mov (.t 2))), (oG 13 11 false (.bin .lss (.t 12) (.c (.int .i64 1)))), (oN 14 (.pick (.t 11) (.c (.bool true)) (.t 13))), (oN 15 (.mov (.t 14))), (oG 16 15 false (.fldaddr 4 1 (.t 3))), (oG 17 15 false (.load false 1 (.t 16))), (oG 18 15 false (.len (.t 17))), (oG 19 15 false (.bin .gtr (.t 18) (.c (.int .i64 4)))), (oN 20 (.pick (.t 15) (.c (.bool true)) (.t 19)))] [9, 10, 11, 12, 13, 14, 15, 16, 17, 18, 19]) (.cond (.t 20) (.seq (.region [ (oN 6 (.mov (.c (.int .i64 (-1)))))] [1, 2, 3, 20]) (.ret)) (.skip))) (.seq (.region [ (oN 21 (.mov (.t 2))), (oN 22 (.bin .sub (.t 21) (.c (.int .i64 1)))), (oN 7 (.mov (.t 22)))] [2, 6, 20, 21, 22]) (.seq (.seq (.region [ (oN 8 (.mov (.c (.int .i64 0))))] []) (.block 0 (.loop ziF))) (zft))))
def zdb : List ARet := [.tmp 6]
theorem zqG : zT Tryz.prog zd6 (qRo [3]) = some (zlP.strip, zdb, 44) := by kernel_rfl
def zfk : ACode := .seq (.seq (.region [ (oN 35 (.mov (.t 6))), (oN 36 (.bin .geq (.t 35) (.c (.int .i64 0))))] [35]) (.cond (.t 36) (.skip) (.exit 2))) (.seq (.block 3 (.region [ (oN 39 (.mov (.t 4))), (oN 40 (.fldaddr 4 1 (.t 5))), (oN 41 (.load false 1 (.t 40))), (oN 42 (.mov (.t 6))), (oN 43 (.idx 5 (.t 41) (.t 42))), (oN 44 (.load true 5 (.t 43))), (oN 45 (.buildSl 5 1 [.int .i64 0, .int .i64 0, .int .i64 0, .nilsl, .nilsl] [(0, (.t 44))])), (oN 46 (.append 5 72 (.t 39) (.t 45))), (oN 4 (.mov (.t 46)))] [36, 39, 40, 41, 42, 43, 44, 45, 46])) (.region [ (oN 37 (.mov (.t 6))), (oN 38 (.bin .sub (.t 37) (.c (.int .i64 1)))), (oN 6 (.mov (.t 38)))] [37, 38]))
def zfE : ACode := .seq (.seq (.region [ (oN 9 (.mov (.t 4))), (oN 10 (.len (.t 9))), (oN 11 (.bin .gtr (.t 10) (.c (.int .i64 0))))] [9, 10]) (.cond (.t 11) (.skip) (.exit 0))) (.block 1 (.seq (.region [ (oN 12 (.mov (.t 4))), (oN 13 (.mov (.t 4))), (oN 14 (.len (.t 13))), (oN 15 (.bin .sub (.t 14) (.c (.int .i64 1)))), (oN 16 (.idx 5 (.t 12) (.t 15))), (oN 17 (.load true 5 (.t 16))), (oN 5 (.alloc [.int .i64 0, .int .i64 0, .int .i64 0, .nilsl, .nilsl])), ⟨none, .store 5 (.t 5) (.t 17), none⟩] [11, 12, 13, 14, 15, 16, 17]) (.seq (.region [ (oN 18 (.mov (.t 4))), (oN 19 (.mov (.t 4))), (oN 20 (.len (.t 19))), (oN 21 (.bin .sub (.t 20) (.c (.int .i64 1)))), (oN 22 (.slice 5 (.t 18) none (some (.t 21)))), (oN 4 (.mov (.t 22)))] [18, 19, 20, 21, 22]) (.seq (.region [ (oN 23 (.mov (.t 3))), (oN 24 (.load true 5 (.t 5))), (oN 25 (.buildSl 5 1 [.int .i64 0, .int .i64 0, .int .i64 0, .nilsl, .nilsl] [(0, (.t 24))])), (oN 26 (.append 5 72 (.t 23) (.t 25))), (oN 3 (.mov (.t 26)))] [23, 24, 25, 26]) (.seq (.seq (.region [ (oN 27 (.fldaddr 4 1 (.t 5))), (oN 28 (.load false 1 (.t 27))), (oN 29 (.len (.t 28))), (oN 30 (.bin .eql (.t 29) (.c (.int .i64 0))))] [27, 28, 29]) (.cond (.t 30) (.exit 1) (.skip))) (.seq (.region [ (oN 31 (.fldaddr 4 1 (.t 5))), (oN 32 (.load false 1 (.t 31))), (oN 33 (.len (.t 32))), (oN 34 (.bin .sub (.t 33) (.c (.int .i64 1)))), (oN 6 (.mov (.t 34)))] [30, 31, 32, 33, 34]) (.block 2 (.loop zfk))))))))
def zfD : ACode := .seq (.region [ (oN 47 (.mov (.t 3))), (oN 2 (.mov (.t 47)))] [3, 4, 5, 6, 47]) (.ret)
def zhN : ACode := .seq (.region [ (oN 1 (.rbox (.t 0))), (oN 2 (.mknil 5))] [0, 2]) (.scope (.seq (.region [ (oN 3 (.mknil 5))] []) (.seq (.region [ (oN 7 (.load true 5 (.t 1))), (oN 8 (.buildSl 5 1 [.int .i64 0, .int .i64 0, .int .i64 0, .nilsl, .nilsl] [(0, (.t 7))])), (oN 4 (.mov (.t 8)))] [1, 7, 8]) (.seq (.label 0) (.seq (.block 0 (.loop zfE)) (zfD))))))
def zhK : List ARet := [.tmp 2]
theorem zmk : zT Tryz.prog zci (qRo [1]) = some (zhN.strip, zhK, 48) := by kernel_rfl
def zhG : ACode := .seq (.seq (.region [ (oN 13 (.mov (.t 5))), (oN 14 (.fldaddr 3 1 (.t 2))), (oN 15 (.load false 1 (.t 14))), (oN 16 (.len (.t 15))), (oN 17 (.bin .lss (.t 13) (.t 16)))] [13, 14, 15, 16]) (.cond (.t 17) (.skip) (.exit 0))) (.seq (.block 1 (.seq (.region [ (oN 20 (.fldaddr 3 1 (.t 2))), (oN 21 (.load false 1 (.t 20))), (oN 22 (.mov (.t 5))), (oN 23 (.idx 5 (.t 21) (.t 22))), (oN 24 (.load true 5 (.t 23))), (oN 25 (.call zd6 [(.t 24), (.c (.int .i64 70)), (.c (.int .i64 200))])), (oN 26 (.bin .lss (.t 25) (.c (.int .i64 0))))] [17, 20, 21, 22, 23, 24, 25]) (.cond (.t 26) (.seq (.region [ (oN 4 (.mov (.c (.int .i64 (-1)))))] [1, 2, 5, 26]) (.ret)) (.skip)))) (.region [ (oN 18 (.mov (.t 5))), (oN 19 (.bin .add (.t 18) (.c (.int .i64 1)))), (oN 5 (.mov (.t 19)))] [4, 18, 19, 26]))
def zhM : ACode := .seq (.seq (.region [ (oN 27 (.mov (.t 6))), (oN 28 (.fldaddr 4 1 (.t 2))), (oN 29 (.load false 1 (.t 28))), (oN 30 (.len (.t 29))), (oN 31 (.bin .lss (.t 27) (.t 30))), (oN 32 (.mov (.t 31))), (oG 33 32 true (.mov (.t 1))), (oG 34 32 true (.bin .geq (.t 33) (.c (.int .i64 0)))), (oN 35 (.pick (.t 32) (.t 34) (.c (.bool false))))] [27, 28, 29, 30, 31, 32, 33, 34]) (.cond (.t 35) (.skip) (.exit 2))) (.seq (.block 3 (.region [ (oN 38 (.fldaddr 4 1 (.t 2))), (oN 39 (.load false 1 (.t 38))), (oN 40 (.mov (.t 6))), (oN 41 (.idx 5 (.t 39) (.t 40))), (oN 42 (.load true 5 (.t 41))), (oN 43 (.mov (.t 1))), (oN 44 (.call zem [(.t 42), (.t 43)])), (oN 1 (.mov (.t 44)))] [35, 38, 39, 40, 41, 42, 43, 44])) (.region [ (oN 36 (.mov (.t 6))), (oN 37 (.bin .add (.t 36) (.c (.int .i64 1)))), (oN 6 (.mov (.t 37)))] [36, 37]))
def zez : ACode := .seq (.region [ (oN 45 (.mov (.t 1))), (oN 4 (.mov (.t 45)))] [1, 2, 6, 45]) (.ret)
def zhP : ACode := .seq (.seq (.region [ (oN 6 (.mov (.c (.int .i64 0))))] [5]) (.block 2 (.loop zhM))) (zez)
def zkL : ACode := .seq (.region [ (oN 2 (.rbox (.t 0))), (oN 4 (.mov (.c (.int .i64 0))))] [0, 4]) (.seq (.region [ (oN 7 (.mov (.t 1))), (oN 8 (.bin .sub (.t 7) (.c (.int .i64 1)))), (oN 1 (.mov (.t 8)))] [7, 8]) (.seq (.seq (.region [ (oN 9 (.fldaddr 3 1 (.t 2))), (oN 10 (.load false 1 (.t 9))), (oN 11 (.len (.t 10))), (oN 12 (.bin .gtr (.t 11) (.c (.int .i64 3))))] [9, 10, 11]) (.cond (.t 12) (.seq (.region [ (oN 4 (.mov (.c (.int .i64 (-1)))))] [1, 2, 12]) (.ret)) (.skip))) (.seq (.seq (.region [ (oN 5 (.mov (.c (.int .i64 0))))] [4, 12]) (.block 0 (.loop zhG))) (zhP))))
def zdw : List ARet := [.tmp 4]
theorem zpr : zT Tryz.prog zem (qRo [2]) = some (zkL.strip, zdw, 46) := by kernel_rfl
def zeQ : ACode := .seq (.seq (.region [ (oN 13 (.mov (.t 4))), (oN 14 (.fldaddr 1 1 (.t 1))), (oN 15 (.load false 1 (.t 14))), (oN 16 (.len (.t 15))), (oN 17 (.bin .lss (.t 13) (.t 16)))] [13, 14, 15, 16]) (.cond (.t 17) (.skip) (.exit 0))) (.seq (.block 1 (.region [ (oN 20 (.mov (.t 3))), (oN 21 (.fldaddr 1 1 (.t 1))), (oN 22 (.load false 1 (.t 21))), (oN 23 (.mov (.t 4))), (oN 24 (.idx 2 (.t 22) (.t 23))), (oN 25 (.fldaddr 1 1 (.t 24))), (oN 26 (.load false 1 (.t 25))), (oN 27 (.len (.t 26))), (oN 28 (.bin .add (.t 20) (.t 27))), (oN 3 (.mov (.t 28)))] [17, 20, 21, 22, 23, 24, 25, 26, 27, 28])) (.region [ (oN 18 (.mov (.t 4))), (oN 19 (.bin .add (.t 18) (.c (.int .i64 1)))), (oN 4 (.mov (.t 19)))] [18, 19]))
def zeR : ACode := .seq (.seq (.region [ (oN 35 (.mov (.t 5))), (oN 36 (.fldaddr 1 1 (.t 1))), (oN 37 (.load false 1 (.t 36))), (oN 38 (.len (.t 37))), (oN 39 (.bin .lss (.t 35) (.t 38)))] [35, 36, 37, 38]) (.cond (.t 39) (.skip) (.exit 2))) (.seq (.block 3 (.seq (.draw ( .step (oN 42 (.fldaddr 1 1 (.t 1))) ( .step (oN 43 (.load false 1 (.t 42))) ( .step (oN 44 (.mov (.t 5))) ( .step (oN 45 (.idx 2 (.t 43) (.t 44))) ( .step (oN 46 (.load true 2 (.t 45))) ( .step (oN 47 (.fldaddr 1 1 (.t 1))) ( .step (oN 48 (.load false 1 (.t 47))) ( .step (oN 49 (.len (.t 48))) ( .step (oN 50 (.callq zee [(.t 46), (.t 49)])) ( .step (oN 51 (.un .not (.t 50))) ( .done))))))))))) [39, 42, 43, 44, 45, 46, 47, 48, 49, 50]) (.cond (.t 51) (.seq (.region [ (oN 2 (.mov (.c (.int .i64 18))))] [1, 5, 51]) (.ret)) (.skip)))) (.region [ (oN 40 (.mov (.t 5))), (oN 41 (.bin .add (.t 40) (.c (.int .i64 1)))), (oN 5 (.mov (.t 41)))] [2, 40, 41, 51]))
def zeP : ACode := .seq (.seq (.region [ (oN 59 (.mov (.t 7))), (oN 60 (.fldaddr 1 1 (.t 1))), (oN 61 (.load false 1 (.t 60))), (oN 62 (.mov (.t 6))), (oN 63 (.idx 2 (.t 61) (.t 62))), (oN 64 (.fldaddr 1 1 (.t 63))), (oN 65 (.load false 1 (.t 64))), (oN 66 (.len (.t 65))), (oN 67 (.bin .lss (.t 59) (.t 66)))] [59, 60, 61, 62, 63, 64, 65, 66]) (.cond (.t 67) (.skip) (.exit 6))) (.seq (.block 7 (.seq (.region [ (oN 70 (.fldaddr 1 1 (.t 1))), (oN 71 (.load false 1 (.t 70))), (oN 72 (.mov (.t 6))), (oN 73 (.idx 2 (.t 71) (.t 72))), (oN 74 (.fldaddr 1 1 (.t 73))), (oN 75 (.load false 1 (.t 74))), (oN 76 (.mov (.t 7))), (oN 77 (.idx 8 (.t 75) (.t 76))), (oN 78 (.load true 8 (.t 77))), (oN 79 (.call zcf [(.t 78)])), (oN 8 (.mov (.t 79)))] [67, 70, 71, 72, 73, 74, 75, 76, 77, 78, 79]) (.seq (.region [ (oN 80 (.mov (.t 8))), (oN 81 (.bin .neq (.t 80) (.c (.int .i64 0))))] [80]) (.cond (.t 81) (.seq (.region [ (oN 82 (.mov (.t 8))), (oN 2 (.mov (.t 82)))] [1, 6, 7, 8, 81, 82]) (.ret)) (.skip))))) (.region [ (oN 68 (.mov (.t 7))), (oN 69 (.bin .add (.t 68) (.c (.int .i64 1)))), (oN 7 (.mov (.t 69)))] [2, 8, 68, 69, 81]))
def zeN : ACode := .region [ (oN 57 (.mov (.t 6))), (oN 58 (.bin .add (.t 57) (.c (.int .i64 1)))), (oN 6 (.mov (.t 58)))] [7, 57, 58]
def zeY : ACode := .seq (.seq (.region [ (oN 52 (.mov (.t 6))), (oN 53 (.fldaddr 1 1 (.t 1))), (oN 54 (.load false 1 (.t 53))), (oN 55 (.len (.t 54))), (oN 56 (.bin .lss (.t 52) (.t 55)))] [52, 53, 54, 55]) (.cond (.t 56) (.skip) (.exit 4))) (.seq (.block 5 (.seq (.region [ (oN 7 (.mov (.c (.int .i64 0))))] [56]) (.block 6 (.loop zeP)))) (zeN))
def zeV : ACode := .seq (.region [ (oN 2 (.mov (.c (.int .i64 0))))] [1, 6]) (.ret)
def ze0 : ACode := .seq (.seq (.region [ (oN 6 (.mov (.c (.int .i64 0))))] [5]) (.block 4 (.loop zeY))) (zeV)
def zeW : ACode := .seq (.seq (.region [ (oN 29 (.mov (.t 3))), (oN 30 (.bin .gtr (.t 29) (.c (.int .i64 1024))))] [3, 4, 29]) (.cond (.t 30) (.seq (.region [ (oN 2 (.mov (.c (.int .i64 6))))] [1, 30]) (.ret)) (.skip))) (.seq (.seq (.region [ (oN 31 (.fldaddr 1 1 (.t 1))), (oN 32 (.load false 1 (.t 31))), (oN 33 (.len (.t 32))), (oN 34 (.bin .eql (.t 33) (.c (.int .i64 0))))] [2, 30, 31, 32, 33]) (.cond (.t 34) (.seq (.region [ (oN 2 (.mov (.c (.int .i64 18))))] [1, 34]) (.ret)) (.skip))) (.seq (.seq (.region [ (oN 5 (.mov (.c (.int .i64 0))))] [2, 34]) (.block 2 (.loop zeR))) (ze0)))
def zgK : ACode := .seq (.region [ (oN 1 (.rbox (.t 0))), (oN 2 (.mov (.c (.int .i64 0))))] [0, 2]) (.seq (.seq (.region [ (oN 9 (.fldaddr 1 1 (.t 1))), (oN 10 (.load false 1 (.t 9))), (oN 11 (.len (.t 10))), (oN 12 (.bin .gtr (.t 11) (.c (.int .i64 256))))] [9, 10, 11]) (.cond (.t 12) (.seq (.region [ (oN 2 (.mov (.c (.int .i64 6))))] [1, 12]) (.ret)) (.skip))) (.seq (.region [ (oN 3 (.mov (.c (.int .i64 0))))] [2, 12]) (.seq (.seq (.region [ (oN 4 (.mov (.c (.int .i64 0))))] []) (.block 0 (.loop zeQ))) (zeW))))
def zbF : List ARet := [.tmp 2]
theorem zk0 : zT Tryz.prog zcZ (qRo [1]) = some (zgK.strip, zbF, 83) := by kernel_rfl
def zfO : ACode := .seq (.region [ (oN 15 (.bin .lss (.t 14) (.t 13)))] []) (.seq (.cond (.t 15) (.skip) (.exit 0)) (.seq (.block 1 (.seq (.region [ (oN 16 (.idx 2 (.t 12) (.t 14))), (oN 17 (.load true 2 (.t 16))), (oN 5 (.alloc [.int .u32 0, .nilsl])), ⟨none, .store 2 (.t 5) (.t 17), none⟩] [15, 16, 17]) (.region [ (oN 18 (.mov (.t 3))), (oN 19 (.fldaddr 1 1 (.t 5))), (oN 20 (.load false 1 (.t 19))), (oN 21 (.len (.t 20))), (oN 22 (.bin .add (.t 18) (.t 21))), (oN 3 (.mov (.t 22)))] [5, 18, 19, 20, 21, 22]))) (.region [ (oN 23 (.bin .add (.t 14) (.c (.int .i64 1)))), (oN 14 (.mov (.t 23)))] [23])))
def zfN : ACode := .seq (.region [ (oN 46 (.bin .lss (.t 45) (.t 44)))] []) (.seq (.cond (.t 46) (.skip) (.exit 4)) (.seq (.block 5 (.seq (.region [ (oN 47 (.idx 8 (.t 43) (.t 45))), (oN 48 (.load true 8 (.t 47))), (oN 9 (.alloc [.int .i64 0, .int .i64 0, .int .i64 0, .int .i64 0, .int .i64 0, .int .u32 0, .nilsl, .nilsl])), ⟨none, .store 8 (.t 9) (.t 48), none⟩] [46, 47, 48]) (.seq (.region [ (oN 49 (.load true 8 (.t 9))), (oN 50 (.call zcY [(.t 49)])), (oN 10 (.mov (.t 50)))] [9, 49, 50]) (.seq (.region [ (oN 51 (.mov (.t 10))), (oN 52 (.bin .neq (.t 51) (.c (.int .i64 0))))] [51]) (.cond (.t 52) (.seq (.region [ (oN 53 (.mov (.t 10))), (oN 2 (.mov (.t 53)))] [10, 36, 37, 38, 43, 44, 45, 52, 53]) (.ret)) (.skip)))))) (.region [ (oN 54 (.bin .add (.t 45) (.c (.int .i64 1)))), (oN 45 (.mov (.t 54)))] [2, 10, 52, 54])))
def zfP : ACode := .region [ (oN 55 (.bin .add (.t 38) (.c (.int .i64 1)))), (oN 38 (.mov (.t 55)))] [43, 44, 45, 55]
def zfz : ACode := .seq (.region [ (oN 39 (.bin .lss (.t 38) (.t 37)))] []) (.seq (.cond (.t 39) (.skip) (.exit 2)) (.seq (.block 3 (.seq (.region [ (oN 40 (.idx 2 (.t 36) (.t 38))), (oN 41 (.load true 2 (.t 40))), (oN 7 (.alloc [.int .u32 0, .nilsl])), ⟨none, .store 2 (.t 7) (.t 41), none⟩] [39, 40, 41]) (.seq (.region [ (oN 42 (.fldaddr 1 1 (.t 7))), (oN 43 (.load false 1 (.t 42))), (oN 44 (.len (.t 43))), (oN 45 (.mov (.c (.int .i64 0))))] [7, 42]) (.block 4 (.loop zfN))))) (zfP)))
def zfu : ACode := .seq (.region [ (oN 2 (.mov (.c (.int .i64 0))))] [36, 37, 38]) (.ret)
def zfK : ACode := .seq (.seq (.region [ (oN 24 (.fldaddr 1 1 (.t 1))), (oN 25 (.load false 1 (.t 24))), (oN 26 (.len (.t 25))), (oN 27 (.bin .gtr (.t 26) (.c (.int .i64 256)))), (oN 28 (.mov (.t 27))), (oG 29 28 false (.mov (.t 3))), (oG 30 28 false (.bin .gtr (.t 29) (.c (.int .i64 1024)))), (oN 31 (.pick (.t 28) (.c (.bool true)) (.t 30)))] [3, 12, 13, 14, 24, 25, 26, 27, 28, 29, 30]) (.cond (.t 31) (.seq (.region [ (oN 2 (.mov (.c (.int .i64 6))))] [1, 31]) (.ret)) (.skip))) (.seq (.seq (.region [ (oN 32 (.load true 2 (.t 1))), (oN 33 (.call zhb [(.t 32)])), (oN 34 (.un .not (.t 33)))] [2, 31, 32, 33]) (.cond (.t 34) (.seq (.region [ (oN 2 (.mov (.c (.int .i64 18))))] [1, 34]) (.ret)) (.skip))) (.seq (.seq (.region [ (oN 35 (.fldaddr 1 1 (.t 1))), (oN 36 (.load false 1 (.t 35))), (oN 37 (.len (.t 36))), (oN 38 (.mov (.c (.int .i64 0))))] [1, 2, 34, 35]) (.block 2 (.loop zfz))) (zfu)))
def zhV : ACode := .seq (.region [ (oN 1 (.rbox (.t 0))), (oN 2 (.mov (.c (.int .i64 0))))] [0, 2]) (.seq (.region [ (oN 3 (.mov (.c (.int .i64 0))))] []) (.seq (.seq (.region [ (oN 11 (.fldaddr 1 1 (.t 1))), (oN 12 (.load false 1 (.t 11))), (oN 13 (.len (.t 12))), (oN 14 (.mov (.c (.int .i64 0))))] [11]) (.block 0 (.loop zfO))) (zfK)))
def zc3 : List ARet := [.tmp 2]
theorem zml : zT Tryz.prog zbl (qRo [1]) = some (zhV.strip, zc3, 56) := by kernel_rfl
def zf3 : ACode := .seq (.seq (.region [ (oN 12 (.mov (.t 5))), (oN 13 (.fldaddr 1 1 (.t 2))), (oN 14 (.load false 1 (.t 13))), (oN 15 (.len (.t 14))), (oN 16 (.bin .lss (.t 12) (.t 15)))] [12, 13, 14, 15]) (.cond (.t 16) (.skip) (.exit 0))) (.seq (.block 1 (.seq (.draw ( .step (oN 19 (.fldaddr 1 1 (.t 2))) ( .step (oN 20 (.load false 1 (.t 19))) ( .step (oN 21 (.mov (.t 5))) ( .step (oN 22 (.idx 8 (.t 20) (.t 21))) ( .step (oN 23 (.load true 8 (.t 22))) ( .step (oN 24 (.callq ziU [(.t 23)])) ( .step (oN 25 (.mov (.t 5))) ( .step (oN 26 (.fldaddr 1 1 (.t 2))) ( .step (oN 27 (.load false 1 (.t 26))) ( .step (oN 28 (.len (.t 27))) ( .step (oN 29 (.bin .sub (.t 28) (.c (.int .i64 1)))) ( .step (oN 30 (.bin .eql (.t 25) (.t 29))) ( .step (oN 31 (.eqb true (.t 24) (.t 30))) ( .done)))))))))))))) [16, 19, 20, 21, 22, 23, 24, 25, 26, 27, 28, 29, 30]) (.cond (.t 31) (.seq (.region [ (oN 4 (.mov (.c (.bool false))))] [1, 2, 5, 31]) (.ret)) (.skip)))) (.region [ (oN 17 (.mov (.t 5))), (oN 18 (.bin .add (.t 17) (.c (.int .i64 1)))), (oN 5 (.mov (.t 18)))] [4, 17, 18, 31]))
def zf1 : ACode := .seq (.seq (.region [ (oN 41 (.mov (.t 7))), (oN 42 (.mov (.t 6))), (oN 43 (.len (.t 42))), (oN 44 (.bin .lss (.t 41) (.t 43)))] [41, 42, 43]) (.cond (.t 44) (.skip) (.exit 2))) (.seq (.block 3 (.seq (.region [ (oN 47 (.mov (.t 6))), (oN 48 (.mov (.t 7))), (oN 49 (.idx 1 (.t 47) (.t 48))), (oN 50 (.load false 1 (.t 49))), (oN 51 (.bin .lss (.t 50) (.c (.int .i64 0)))), (oN 52 (.mov (.t 51))), (oG 53 52 false (.mov (.t 6))), (oG 54 52 false (.mov (.t 7))), (oG 55 52 false (.idx 1 (.t 53) (.t 54))), (oG 56 52 false (.load false 1 (.t 55))), (oG 57 52 false (.mov (.t 1))), (oG 58 52 false (.bin .geq (.t 56) (.t 57))), (oN 59 (.pick (.t 52) (.c (.bool true)) (.t 58)))] [44, 47, 48, 49, 50, 51, 52, 53, 54, 55, 56, 57, 58]) (.cond (.t 59) (.seq (.region [ (oN 4 (.mov (.c (.bool false))))] [1, 6, 7, 59]) (.ret)) (.skip)))) (.region [ (oN 45 (.mov (.t 7))), (oN 46 (.bin .add (.t 45) (.c (.int .i64 1)))), (oN 7 (.mov (.t 46)))] [4, 45, 46, 59]))
def zf2 : ACode := .seq (.region [ (oN 4 (.mov (.c (.bool true))))] [1, 6, 7]) (.ret)
def zf6 : ACode := .seq (.region [ (oN 32 (.fldaddr 1 1 (.t 2))), (oN 33 (.load false 1 (.t 32))), (oN 34 (.fldaddr 1 1 (.t 2))), (oN 35 (.load false 1 (.t 34))), (oN 36 (.len (.t 35))), (oN 37 (.bin .sub (.t 36) (.c (.int .i64 1)))), (oN 38 (.idx 8 (.t 33) (.t 37))), (oN 39 (.load true 8 (.t 38))), (oN 40 (.call zfe [(.t 39)])), (oN 6 (.mov (.t 40)))] [2, 5, 32, 33, 34, 35, 36, 37, 38, 39, 40]) (.seq (.seq (.region [ (oN 7 (.mov (.c (.int .i64 0))))] []) (.block 2 (.loop zf1))) (zf2))
def ziy : ACode := .seq (.region [ (oN 2 (.rbox (.t 0))), (oN 4 (.mov (.c (.bool false))))] [0, 4]) (.seq (.seq (.region [ (oN 8 (.fldaddr 1 1 (.t 2))), (oN 9 (.load false 1 (.t 8))), (oN 10 (.len (.t 9))), (oN 11 (.bin .eql (.t 10) (.c (.int .i64 0))))] [8, 9, 10]) (.cond (.t 11) (.seq (.region [ (oN 4 (.mov (.c (.bool false))))] [1, 2, 11]) (.ret)) (.skip))) (.seq (.seq (.region [ (oN 5 (.mov (.c (.int .i64 0))))] [4, 11]) (.block 0 (.loop zf3))) (zf6)))
def zbk : List ARet := [.tmp 4]
theorem zmH : zT Tryz.prog zee (qRo [2]) = some (ziy.strip, zbk, 60) := by kernel_rfl
def zfB : ACode := .seq (.seq (.region [ (oN 22 (.mov (.t 3))), (oN 23 (.fldaddr 6 1 (.t 1))), (oN 24 (.load false 1 (.t 23))), (oN 25 (.len (.t 24))), (oN 26 (.bin .lss (.t 22) (.t 25)))] [22, 23, 24, 25]) (.cond (.t 26) (.skip) (.exit 0))) (.seq (.block 1 (.seq (.region [ (oN 29 (.fldaddr 6 1 (.t 1))), (oN 30 (.load false 1 (.t 29))), (oN 31 (.mov (.t 3))), (oN 32 (.idx 5 (.t 30) (.t 31))), (oN 33 (.load true 5 (.t 32))), (oN 34 (.call zcn [(.t 33)])), (oN 4 (.mov (.t 34)))] [26, 29, 30, 31, 32, 33, 34]) (.seq (.region [ (oN 35 (.mov (.t 4))), (oN 36 (.bin .neq (.t 35) (.c (.int .i64 0))))] [35]) (.cond (.t 36) (.seq (.region [ (oN 37 (.mov (.t 4))), (oN 2 (.mov (.t 37)))] [1, 3, 4, 36, 37]) (.ret)) (.skip))))) (.region [ (oN 27 (.mov (.t 3))), (oN 28 (.bin .add (.t 27) (.c (.int .i64 1)))), (oN 3 (.mov (.t 28)))] [2, 4, 27, 28, 36]))
def zfs : ACode := .seq (.seq (.region [ (oN 38 (.load true 8 (.t 1))), (oN 39 (.call zal [(.t 38)])), (oN 40 (.un .not (.t 39))), (oN 41 (.mov (.t 40))), (oG 42 41 false (.fldaddr 1 1 (.t 1))), (oG 43 41 false (.load false 1 (.t 42))), (oG 44 41 false (.call zfI [(.t 43)])), (oG 45 41 false (.un .not (.t 44))), (oN 46 (.pick (.t 41) (.c (.bool true)) (.t 45))), (oN 47 (.mov (.t 46))), (oG 48 47 false (.fldaddr 0 1 (.t 1))), (oG 49 47 false (.load false 1 (.t 48))), (oG 50 47 false (.bin .eql (.t 49) (.c (.int .i64 2)))), (oG 51 47 false (.mov (.t 50))), (oG 52 51 true (.fldaddr 2 1 (.t 1))), (oG 53 51 true (.load false 1 (.t 52))), (oG 54 51 true (.bin .neq (.t 53) (.c (.int .i64 1)))), (oG 55 47 false (.pick (.t 51) (.t 54) (.c (.bool false)))), (oG 56 47 false (.mov (.t 55))), (oG 57 56 true (.fldaddr 2 1 (.t 1))), (oG 58 56 true (.load false 1 (.t 57))), (oG 59 56 true (.bin .neq (.t 58) (.c (.int .i64 2)))), (oG 60 47 false (.pick (.t 56) (.t 59) (.c (.bool false)))), (oG 61 47 false (.mov (.t 60))), (oG 62 61 true (.fldaddr 2 1 (.t 1))), (oG 63 61 true (.load false 1 (.t 62))), (oG 64 61 true (.bin .neq (.t 63) (.c (.int .i64 4)))), (oG 65 47 false (.pick (.t 61) (.t 64) (.c (.bool false)))), (oN 66 (.pick (.t 47) (.c (.bool true)) (.t 65)))] [3, 38, 39, 40, 41, 42, 43, 44, 45, 46, 47, 48, 49, 50, 51, 52, 53, 54, 55, 56, 57, 58, 59, 60, 61, 62, 63, 64, 65]) (.cond (.t 66) (.seq (.region [ (oN 2 (.mov (.c (.int .i64 2))))] [1, 66]) (.ret)) (.skip))) (.seq (.seq (.region [ (oN 67 (.fldaddr 0 1 (.t 1))), (oN 68 (.load false 1 (.t 67))), (oN 69 (.bin .eql (.t 68) (.c (.int .i64 8)))), (oN 70 (.mov (.t 69))), (oG 71 70 true (.fldaddr 7 1 (.t 1))), (oG 72 70 true (.load false 1 (.t 71))), (oG 73 70 true (.len (.t 72))), (oG 74 70 true (.bin .lss (.t 73) (.c (.int .i64 1)))), (oG 75 70 true (.mov (.t 74))), (oG 76 75 false (.fldaddr 7 1 (.t 1))), (oG 77 75 false (.load false 1 (.t 76))), (oG 78 75 false (.len (.t 77))), (oG 79 75 false (.bin .gtr (.t 78) (.c (.int .i64 64)))), (oG 80 70 true (.pick (.t 75) (.c (.bool true)) (.t 79))), (oN 81 (.pick (.t 70) (.t 80) (.c (.bool false))))] [1, 2, 66, 67, 68, 69, 70, 71, 72, 73, 74, 75, 76, 77, 78, 79, 80]) (.cond (.t 81) (.seq (.region [ (oN 2 (.mov (.c (.int .i64 2))))] [81]) (.ret)) (.skip))) (.seq (.region [ (oN 2 (.mov (.c (.int .i64 0))))] [81]) (.ret)))
def zhA : ACode := .seq (.region [ (oN 1 (.rbox (.t 0))), (oN 2 (.mov (.c (.int .i64 0))))] [0, 2]) (.seq (.seq (.draw ( .step (oN 5 (.fldaddr 0 1 (.t 1))) ( .step (oN 6 (.load false 1 (.t 5))) ( .step (oN 7 (.bin .lss (.t 6) (.c (.int .i64 1)))) ( .step (oN 8 (.mov (.t 7))) ( .step (oG 9 8 false (.fldaddr 0 1 (.t 1))) ( .step (oG 10 8 false (.load false 1 (.t 9))) ( .step (oG 11 8 false (.bin .gtr (.t 10) (.c (.int .i64 10)))) ( .step (oN 12 (.pick (.t 8) (.c (.bool true)) (.t 11))) ( .step (oN 13 (.mov (.t 12))) ( .step (oG 14 13 false (.fldaddr 6 1 (.t 1))) ( .step (oG 15 13 false (.load false 1 (.t 14))) ( .step (oG 16 13 false (.len (.t 15))) ( .step (oG 17 13 false (.fldaddr 0 1 (.t 1))) ( .step (oG 18 13 false (.load false 1 (.t 17))) ( .step (oG 19 13 false (.callq zg3 [(.t 18)])) ( .step (oG 20 13 false (.bin .neq (.t 16) (.t 19))) ( .step (oN 21 (.pick (.t 13) (.c (.bool true)) (.t 20))) ( .done)))))))))))))))))) [5, 6, 7, 8, 9, 10, 11, 12, 13, 14, 15, 16, 17, 18, 19, 20]) (.cond (.t 21) (.seq (.region [ (oN 2 (.mov (.c (.int .i64 2))))] [1, 21]) (.ret)) (.skip))) (.seq (.seq (.region [ (oN 3 (.mov (.c (.int .i64 0))))] [2, 21]) (.block 0 (.loop zfB))) (zfs)))
def zu : List ARet := [.tmp 2]
theorem zl5 : zT Tryz.prog zcf (qRo [1]) = some (zhA.strip, zu, 82) := by kernel_rfl
def ziL : ACode := .seq (.region [ (oN 14 (.bin .lss (.t 13) (.t 12)))] []) (.seq (.cond (.t 14) (.skip) (.exit 0)) (.seq (.block 1 (.seq (.region [ (oN 15 (.idx 2 (.t 11) (.t 13))), (oN 16 (.load true 2 (.t 15))), (oN 4 (.alloc [.int .u32 0, .nilsl])), ⟨none, .store 2 (.t 4) (.t 16), none⟩] [14, 15, 16]) (.seq (.region [ (oN 17 (.fldaddr 1 1 (.t 4))), (oN 18 (.load false 1 (.t 17))), (oN 19 (.len (.t 18))), (oN 5 (.mov (.t 19)))] [17, 18, 19]) (.seq (.seq (.region [ (oN 20 (.mov (.t 5))), (oN 21 (.bin .eql (.t 20) (.c (.int .i64 0)))), (oN 22 (.mov (.t 21))), (oG 23 22 false (.fldaddr 1 1 (.t 4))), (oG 24 22 false (.load false 1 (.t 23))), (oG 25 22 false (.mov (.t 5))), (oG 26 22 false (.bin .sub (.t 25) (.c (.int .i64 1)))), (oG 27 22 false (.idx 8 (.t 24) (.t 26))), (oG 28 22 false (.load true 8 (.t 27))), (oG 29 22 false (.call zbI [(.t 28)])), (oG 30 22 false (.un .not (.t 29))), (oN 31 (.pick (.t 22) (.c (.bool true)) (.t 30))), (oN 32 (.mov (.t 31))), (oG 33 32 false (.fldaddr 1 1 (.t 4))), (oG 34 32 false (.load false 1 (.t 33))), (oG 35 32 false (.mov (.t 5))), (oG 36 32 false (.bin .sub (.t 35) (.c (.int .i64 1)))), (oG 37 32 false (.slice 8 (.t 34) none (some (.t 36)))), (oG 38 32 false (.call zO [(.t 37), (.c (.fn (.func zbI) []))])), (oN 39 (.pick (.t 32) (.c (.bool true)) (.t 38)))] [5, 20, 21, 22, 23, 24, 25, 26, 27, 28, 29, 30, 31, 32, 33, 34, 35, 36, 37, 38]) (.cond (.t 39) (.seq (.region [ (oN 2 (.mov (.c (.bool false))))] [1, 4, 11, 12, 13, 39]) (.ret)) (.skip))) (.seq (.region [ (oN 40 (.load true 2 (.t 4))), (oN 41 (.call zdr [(.t 40)])), (oN 42 (.mkfn (.func zdq) [(.t 1)])), (oN 43 (.call zao [(.t 41), (.t 42)]))] [2, 4, 39, 40, 41, 42]) (.cond (.t 43) (.seq (.region [ (oN 2 (.mov (.c (.bool false))))] [1, 11, 12, 13, 43]) (.ret)) (.skip))))))) (.region [ (oN 44 (.bin .add (.t 13) (.c (.int .i64 1)))), (oN 13 (.mov (.t 44)))] [2, 43, 44])))
def zh4 : ACode := .seq (.region [ (oN 2 (.mov (.c (.bool true))))] [1, 11, 12, 13]) (.ret)
def zlo : ACode := .seq (.region [ (oN 1 (.rbox (.t 0))), (oN 2 (.mov (.c (.bool false))))] [0, 2]) (.seq (.seq (.region [ (oN 6 (.fldaddr 1 1 (.t 1))), (oN 7 (.load false 1 (.t 6))), (oN 8 (.len (.t 7))), (oN 9 (.bin .eql (.t 8) (.c (.int .i64 0))))] [6, 7, 8]) (.cond (.t 9) (.seq (.region [ (oN 2 (.mov (.c (.bool false))))] [1, 9]) (.ret)) (.skip))) (.seq (.seq (.region [ (oN 10 (.fldaddr 1 1 (.t 1))), (oN 11 (.load false 1 (.t 10))), (oN 12 (.len (.t 11))), (oN 13 (.mov (.c (.int .i64 0))))] [2, 9, 10]) (.block 0 (.loop ziL))) (zh4)))
def zco : List ARet := [.tmp 2]
theorem zqf : zT Tryz.prog zhb (qRo [1]) = some (zlo.strip, zco, 45) := by kernel_rfl
def zgk : ACode := .seq (.region [ (oN 23 (.bin .lss (.t 22) (.t 21)))] []) (.seq (.cond (.t 23) (.skip) (.exit 0)) (.seq (.block 1 (.seq (.region [ (oN 24 (.idx 5 (.t 20) (.t 22))), (oN 25 (.load true 5 (.t 24))), (oN 5 (.alloc [.int .i64 0, .int .u32 0, .int .i64 0, .int .i64 0, .nilsl])), ⟨none, .store 5 (.t 5) (.t 25), none⟩] [23, 24, 25]) (.seq (.region [ (oN 26 (.load true 5 (.t 5))), (oN 27 (.call zcR [(.t 26)])), (oN 6 (.mov (.t 27)))] [5, 26, 27]) (.seq (.region [ (oN 28 (.mov (.t 6))), (oN 29 (.bin .neq (.t 28) (.c (.int .i64 0))))] [28]) (.cond (.t 29) (.seq (.region [ (oN 30 (.mov (.t 6))), (oN 2 (.mov (.t 30)))] [1, 6, 20, 21, 22, 29, 30]) (.ret)) (.skip)))))) (.region [ (oN 31 (.bin .add (.t 22) (.c (.int .i64 1)))), (oN 22 (.mov (.t 31)))] [2, 6, 29, 31])))
def zf8 : ACode := .seq (.seq (.region [ (oN 32 (.load true 8 (.t 1))), (oN 33 (.call zav [(.t 32)])), (oN 34 (.un .not (.t 33)))] [1, 20, 21, 22, 32, 33]) (.cond (.t 34) (.seq (.region [ (oN 2 (.mov (.c (.int .i64 2))))] [34]) (.ret)) (.skip))) (.seq (.region [ (oN 2 (.mov (.c (.int .i64 0))))] [34]) (.ret))
def ziv : ACode := .seq (.region [ (oN 1 (.rbox (.t 0))), (oN 2 (.mov (.c (.int .i64 0))))] [0, 2]) (.seq (.seq (.region [ (oN 7 (.fldaddr 0 1 (.t 1))), (oN 8 (.load false 1 (.t 7))), (oN 9 (.call zc2 [(.t 8)])), (oN 3 (.mov (.t 9)))] [7, 8, 9]) (.seq (.region [ (oN 10 (.mov (.t 3))), (oN 11 (.bin .lss (.t 10) (.c (.int .i64 0)))), (oN 12 (.mov (.t 11))), (oG 13 12 false (.mov (.t 3))), (oG 14 12 false (.fldaddr 6 1 (.t 1))), (oG 15 12 false (.load false 1 (.t 14))), (oG 16 12 false (.len (.t 15))), (oG 17 12 false (.bin .neq (.t 13) (.t 16))), (oN 18 (.pick (.t 12) (.c (.bool true)) (.t 17)))] [3, 10, 11, 12, 13, 14, 15, 16, 17]) (.cond (.t 18) (.seq (.region [ (oN 2 (.mov (.c (.int .i64 2))))] [1, 18]) (.ret)) (.skip)))) (.seq (.seq (.region [ (oN 19 (.fldaddr 6 1 (.t 1))), (oN 20 (.load false 1 (.t 19))), (oN 21 (.len (.t 20))), (oN 22 (.mov (.c (.int .i64 0))))] [2, 18, 19]) (.block 0 (.loop zgk))) (zf8)))
def zax : List ARet := [.tmp 2]
theorem zmY : zT Tryz.prog zcY (qRo [1]) = some (ziv.strip, zax, 35) := by kernel_rfl
def zhD : ACode := .seq (.region [ (oN 1 (.rbox (.t 0))), (oN 2 (.mknil 1))] [0, 2]) (.seq (.seq (.region [ (oN 4 (.fldaddr 1 1 (.t 1))), (oN 5 (.load false 1 (.t 4))), (oN 6 (.len (.t 5))), (oN 7 (.bin .eql (.t 6) (.c (.int .i64 0))))] [4, 5, 6]) (.cond (.t 7) (.seq (.region [ (oN 2 (.mknil 1))] [1, 7]) (.ret)) (.skip))) (.seq (.region [ (oN 8 (.fldaddr 1 1 (.t 1))), (oN 9 (.load false 1 (.t 8))), (oN 10 (.fldaddr 1 1 (.t 1))), (oN 11 (.load false 1 (.t 10))), (oN 12 (.len (.t 11))), (oN 13 (.bin .sub (.t 12) (.c (.int .i64 1)))), (oN 14 (.idx 8 (.t 9) (.t 13))), (oN 15 (.load true 8 (.t 14))), (oN 3 (.alloc [.int .i64 0, .int .i64 0, .int .i64 0, .int .i64 0, .int .i64 0, .int .u32 0, .nilsl, .nilsl])), ⟨none, .store 8 (.t 3) (.t 15), none⟩] [1, 2, 7, 8, 9, 10, 11, 12, 13, 14, 15]) (.seq (.seq (.region [ (oN 16 (.fldaddr 0 1 (.t 3))), (oN 17 (.load false 1 (.t 16)))] [16]) (.block 0 (.seq (.region [ (oN 19 (.bin .eql (.t 17) (.c (.int .i64 6)))), (oN 18 (.mov (.t 19)))] [19]) (.cond (.t 18) (.seq (.region [ (oN 20 (.fldaddr 3 1 (.t 3))), (oN 21 (.load false 1 (.t 20))), (oN 22 (.buildSl 1 1 [.int .i64 0] [(0, (.t 21))])), (oN 2 (.mov (.t 22)))] [3, 17, 18, 20, 21, 22]) (.ret)) (.seq (.region [ (oN 24 (.bin .eql (.t 17) (.c (.int .i64 7)))), (oN 23 (.mov (.t 24)))] [18, 24]) (.cond (.t 23) (.seq (.region [ (oN 25 (.fldaddr 3 1 (.t 3))), (oN 26 (.load false 1 (.t 25))), (oN 27 (.fldaddr 4 1 (.t 3))), (oN 28 (.load false 1 (.t 27))), (oN 29 (.buildSl 1 2 [.int .i64 0] [(0, (.t 26)), (1, (.t 28))])), (oN 2 (.mov (.t 29)))] [3, 17, 23, 25, 26, 27, 28, 29]) (.ret)) (.seq (.region [ (oN 31 (.bin .eql (.t 17) (.c (.int .i64 8)))), (oN 30 (.mov (.t 31)))] [17, 23, 31]) (.cond (.t 30) (.seq (.region [ (oN 32 (.fldaddr 7 1 (.t 3))), (oN 33 (.load false 1 (.t 32))), (oN 34 (.call zB [(.t 33)])), (oN 2 (.mov (.t 34)))] [3, 30, 32, 33, 34]) (.ret)) (.skip))))))))) (.seq (.region [ (oN 2 (.mknil 1))] [3, 30]) (.ret)))))
def zbt : List ARet := [.tmp 2]
theorem zl8 : zT Tryz.prog zdr (qRo [1]) = some (zhD.strip, zbt, 35) := by kernel_rfl
def zm6 : ACode := .seq (.region [ (oN 1 (.rbox (.t 0))), (oN 2 (.mov (.c (.bool false))))] [0, 2]) (.seq (.region [ (oN 3 (.fldaddr 0 1 (.t 1))), (oN 4 (.load false 1 (.t 3))), (oN 5 (.bin .geq (.t 4) (.c (.int .i64 6)))), (oN 6 (.mov (.t 5))), (oG 7 6 true (.fldaddr 0 1 (.t 1))), (oG 8 6 true (.load false 1 (.t 7))), (oG 9 6 true (.bin .leq (.t 8) (.c (.int .i64 10)))), (oN 10 (.pick (.t 6) (.t 9) (.c (.bool false)))), (oN 2 (.mov (.t 10)))] [1, 3, 4, 5, 6, 7, 8, 9, 10]) (.ret))
def zjU : List ARet := [.tmp 2]
theorem zrl : zT Tryz.prog ziU (qRo [1]) = some (zm6.strip, zjU, 11) := by kernel_rfl
def zjw : ACode := .seq (.region [ (oN 1 (.rbox (.t 0))), (oN 2 (.mknil 1))] [0, 2]) (.seq (.seq (.region [ (oN 3 (.fldaddr 0 1 (.t 1))), (oN 4 (.load false 1 (.t 3)))] [3]) (.block 0 (.seq (.region [ (oN 6 (.bin .eql (.t 4) (.c (.int .i64 6)))), (oN 5 (.mov (.t 6)))] [6]) (.cond (.t 5) (.seq (.region [ (oN 7 (.fldaddr 3 1 (.t 1))), (oN 8 (.load false 1 (.t 7))), (oN 9 (.buildSl 1 1 [.int .i64 0] [(0, (.t 8))])), (oN 2 (.mov (.t 9)))] [1, 4, 5, 7, 8, 9]) (.ret)) (.seq (.region [ (oN 11 (.bin .eql (.t 4) (.c (.int .i64 7)))), (oN 10 (.mov (.t 11)))] [5, 11]) (.cond (.t 10) (.seq (.region [ (oN 12 (.fldaddr 3 1 (.t 1))), (oN 13 (.load false 1 (.t 12))), (oN 14 (.fldaddr 4 1 (.t 1))), (oN 15 (.load false 1 (.t 14))), (oN 16 (.buildSl 1 2 [.int .i64 0] [(0, (.t 13)), (1, (.t 15))])), (oN 2 (.mov (.t 16)))] [1, 4, 10, 12, 13, 14, 15, 16]) (.ret)) (.seq (.region [ (oN 18 (.bin .eql (.t 4) (.c (.int .i64 8)))), (oN 17 (.mov (.t 18)))] [4, 10, 18]) (.cond (.t 17) (.seq (.region [ (oN 19 (.fldaddr 7 1 (.t 1))), (oN 20 (.load false 1 (.t 19))), (oN 2 (.mov (.t 20)))] [1, 17, 19, 20]) (.ret)) (.skip))))))))) (.seq (.region [ (oN 2 (.mknil 1))] [1, 17]) (.ret)))
def zcS : List ARet := [.tmp 2]
theorem znL : zT Tryz.prog zfe (qRo [1]) = some (zjw.strip, zcS, 21) := by kernel_rfl
def zlA : ACode := .seq (.region [ (oN 2 (.mov (.c (.int .i64 0))))] [2]) (.seq (.seq (.region [ (oN 3 (.mov (.t 0)))] [0]) (.block 0 (.seq (.region [ (oN 5 (.bin .eql (.t 3) (.c (.int .i64 2)))), (oN 4 (.mov (.t 5)))] [5]) (.cond (.t 4) (.seq (.region [ (oN 2 (.mov (.c (.int .i64 2))))] [3, 4]) (.ret)) (.seq (.seq (.region [ (oN 7 (.bin .eql (.t 3) (.c (.int .i64 1)))), (oN 6 (.mov (.t 7)))] [4, 7]) (.cond (.t 6) (.skip) (.seq (.region [ (oN 8 (.bin .eql (.t 3) (.c (.int .i64 4)))), (oN 6 (.mov (.t 8)))] [8]) (.cond (.t 6) (.skip) (.seq (.region [ (oN 9 (.bin .eql (.t 3) (.c (.int .i64 7)))), (oN 6 (.mov (.t 9)))] [9]) (.cond (.t 6) (.skip) (.region [ (oN 10 (.bin .eql (.t 3) (.c (.int .i64 8)))), (oN 6 (.mov (.t 10)))] [3, 10]))))))) (.cond (.t 6) (.seq (.region [ (oN 2 (.mov (.c (.int .i64 1))))] [3, 6]) (.ret)) (.skip))))))) (.seq (.region [ (oN 2 (.mov (.c (.int .i64 0))))] [3, 6]) (.ret)))
def zcm : List ARet := [.tmp 2]
theorem zqt : zT Tryz.prog zg3 (qRo []) = some (zlA.strip, zcm, 11) := by kernel_rfl
def zhJ : ACode := .seq (.region [ (oN 1 (.rbox (.t 0))), (oN 2 (.mov (.c (.int .i64 0))))] [0, 2]) (.seq (.seq (.region [ (oN 3 (.load true 5 (.t 1))), (oN 4 (.call zep [(.t 3), (.c (.int .i64 64))]))] [3]) (.cond (.t 4) (.seq (.region [ (oN 2 (.mov (.c (.int .i64 20))))] [1, 4]) (.ret)) (.skip))) (.seq (.seq (.region [ (oN 5 (.load true 5 (.t 1))), (oN 6 (.call zcT [(.t 5)])), (oN 7 (.un .not (.t 6)))] [1, 2, 4, 5, 6]) (.cond (.t 7) (.seq (.region [ (oN 2 (.mov (.c (.int .i64 2))))] [7]) (.ret)) (.skip))) (.seq (.region [ (oN 2 (.mov (.c (.int .i64 0))))] [7]) (.ret))))
def zc0 : List ARet := [.tmp 2]
theorem zl3 : zT Tryz.prog zcn (qRo [1]) = some (zhJ.strip, zc0, 8) := by kernel_rfl
def zaz : ACode := .seq (.region [ (oN 1 (.rbox (.t 0))), (oN 2 (.mov (.c (.bool false))))] [0, 2]) (.seq (.region [ (oN 5 (.fldaddr 0 1 (.t 1))), (oN 6 (.load false 1 (.t 5))), (oN 7 (.bin .eql (.t 6) (.c (.int .i64 1)))), (oN 8 (.mov (.t 7))), (oG 9 8 false (.fldaddr 0 1 (.t 1))), (oG 10 8 false (.load false 1 (.t 9))), (oG 11 8 false (.bin .eql (.t 10) (.c (.int .i64 3)))), (oN 12 (.pick (.t 8) (.c (.bool true)) (.t 11))), (oN 3 (.mov (.t 12)))] [5, 6, 7, 8, 9, 10, 11, 12]) (.seq (.region [ (oN 13 (.fldaddr 0 1 (.t 1))), (oN 14 (.load false 1 (.t 13))), (oN 15 (.bin .eql (.t 14) (.c (.int .i64 6)))), (oN 16 (.mov (.t 15))), (oG 17 16 false (.fldaddr 0 1 (.t 1))), (oG 18 16 false (.load false 1 (.t 17))), (oG 19 16 false (.bin .eql (.t 18) (.c (.int .i64 7)))), (oN 20 (.pick (.t 16) (.c (.bool true)) (.t 19))), (oN 4 (.mov (.t 20)))] [13, 14, 15, 16, 17, 18, 19, 20]) (.seq (.region [ (oN 21 (.mov (.t 3))), (oN 22 (.mov (.t 21))), (oG 23 22 false (.fldaddr 1 1 (.t 1))), (oG 24 22 false (.load false 1 (.t 23))), (oG 25 22 false (.bin .eql (.t 24) (.c (.int .i64 0)))), (oN 26 (.pick (.t 22) (.c (.bool true)) (.t 25))), (oN 27 (.mov (.t 26))), (oG 28 27 true (.fldaddr 0 1 (.t 1))), (oG 29 27 true (.load false 1 (.t 28))), (oG 30 27 true (.bin .eql (.t 29) (.c (.int .i64 2)))), (oG 31 27 true (.mov (.t 30))), (oG 32 31 false (.fldaddr 2 1 (.t 1))), (oG 33 31 false (.load false 1 (.t 32))), (oG 34 31 false (.bin .eql (.t 33) (.c (.int .i64 0)))), (oG 35 27 true (.pick (.t 31) (.c (.bool true)) (.t 34))), (oN 36 (.pick (.t 27) (.t 35) (.c (.bool false)))), (oN 37 (.mov (.t 36))), (oG 38 37 true (.mov (.t 4))), (oG 39 37 true (.mov (.t 38))), (oG 40 39 false (.fldaddr 3 1 (.t 1))), (oG 41 39 false (.load false 1 (.t 40))), (oG 42 39 false (.bin .eql (.t 41) (.c (.int .i64 0)))), (oG 43 37 true (.pick (.t 39) (.c (.bool true)) (.t 42))), (oN 44 (.pick (.t 37) (.t 43) (.c (.bool false)))), (oN 45 (.mov (.t 44))), (oG 46 45 true (.fldaddr 0 1 (.t 1))), (oG 47 45 true (.load false 1 (.t 46))), (oG 48 45 true (.bin .eql (.t 47) (.c (.int .i64 7)))), (oG 49 45 true (.mov (.t 48))), (oG 50 49 false (.fldaddr 4 1 (.t 1))), (oG 51 49 false (.load false 1 (.t 50))), (oG 52 49 false (.bin .eql (.t 51) (.c (.int .i64 0)))), (oG 53 45 true (.pick (.t 49) (.c (.bool true)) (.t 52))), (oN 54 (.pick (.t 45) (.t 53) (.c (.bool false)))), (oN 55 (.mov (.t 54))), (oG 56 55 true (.fldaddr 0 1 (.t 1))), (oG 57 55 true (.load false 1 (.t 56))), (oG 58 55 true (.bin .eql (.t 57) (.c (.int .i64 5)))), (oG 59 55 true (.mov (.t 58))), (oG 60 59 false (.fldaddr 5 1 (.t 1))), (oG 61 59 false (.load false 1 (.t 60))), (oG 62 59 false (.bin .eql (.t 61) (.c (.int .u32 0)))), (oG 63 55 true (.pick (.t 59) (.c (.bool true)) (.t 62))), (oN 64 (.pick (.t 55) (.t 63) (.c (.bool false)))), (oN 65 (.mov (.t 64))), (oG 66 65 true (.fldaddr 0 1 (.t 1))), (oG 67 65 true (.load false 1 (.t 66))), (oG 68 65 true (.bin .eql (.t 67) (.c (.int .i64 8)))), (oG 69 65 true (.mov (.t 68))), (oG 70 69 false (.fldaddr 7 1 (.t 1))), (oG 71 69 false (.load false 1 (.t 70))), (oG 72 69 false (.len (.t 71))), (oG 73 69 false (.bin .eql (.t 72) (.c (.int .i64 0)))), (oG 74 65 true (.pick (.t 69) (.c (.bool true)) (.t 73))), (oN 75 (.pick (.t 65) (.t 74) (.c (.bool false)))), (oN 2 (.mov (.t 75)))] [1, 3, 4, 21, 22, 23, 24, 25, 26, 27, 28, 29, 30, 31, 32, 33, 34, 35, 36, 37, 38, 39, 40, 41, 42, 43, 44, 45, 46, 47, 48, 49, 50, 51, 52, 53, 54, 55, 56, 57, 58, 59, 60, 61, 62, 63, 64, 65, 66, 67, 68, 69, 70, 71, 72, 73, 74, 75]) (.ret))))
def zg : List ARet := [.tmp 2]
theorem zaT : zT Tryz.prog zal (qRo [1]) = some (zaz.strip, zg, 76) := by kernel_rfl
def zlS : ACode := .seq (.region [ (oN 2 (.mov (.c (.bool false))))] [2]) (.seq (.region [ (oN 3 (.mov (.t 0))), (oN 4 (.bin .geq (.t 3) (.c (.int .i64 0)))), (oN 5 (.mov (.t 4))), (oG 6 5 true (.mov (.t 0))), (oG 7 5 true (.bin .lss (.t 6) (.c (.int .i64 65536)))), (oN 8 (.pick (.t 5) (.t 7) (.c (.bool false)))), (oN 2 (.mov (.t 8)))] [0, 3, 4, 5, 6, 7, 8]) (.ret))
def zir : List ARet := [.tmp 2]
theorem zqX : zT Tryz.prog zfI (qRo []) = some (zlS.strip, zir, 9) := by kernel_rfl
def ziR : ACode := .seq (.region [ (oN 1 (.rbox (.t 0))), (oN 2 (.mov (.c (.int .i64 0))))] [0, 2]) (.seq (.block 0 (.seq (.region [ (oN 4 (.load true 5 (.t 1))), (oN 5 (.call zej [(.t 4), (.c (.int .i64 64))])), (oN 6 (.un .not (.t 5))), (oN 3 (.mov (.t 6)))] [4, 5, 6]) (.cond (.t 3) (.seq (.region [ (oN 2 (.mov (.c (.int .i64 20))))] [1, 3]) (.ret)) (.seq (.region [ (oN 8 (.load true 5 (.t 1))), (oN 9 (.call zaj [(.t 8)])), (oN 10 (.un .not (.t 9))), (oN 7 (.mov (.t 10)))] [1, 3, 8, 9, 10]) (.cond (.t 7) (.seq (.region [ (oN 2 (.mov (.c (.int .i64 2))))] [7]) (.ret)) (.skip)))))) (.seq (.region [ (oN 2 (.mov (.c (.int .i64 0))))] [7]) (.ret)))
def zdn : List ARet := [.tmp 2]
theorem zmU : zT Tryz.prog zcR (qRo [1]) = some (ziR.strip, zdn, 11) := by kernel_rfl
def zhI : ACode := .seq (.region [ (oN 1 (.rbox (.t 0))), (oN 2 (.mov (.c (.bool false))))] [0, 2]) (.seq (.region [ (oN 3 (.fldaddr 0 1 (.t 1))), (oN 4 (.load false 1 (.t 3))), (oN 5 (.bin .geq (.t 4) (.c (.int .i64 6)))), (oN 6 (.mov (.t 5))), (oG 7 6 true (.fldaddr 0 1 (.t 1))), (oG 8 6 true (.load false 1 (.t 7))), (oG 9 6 true (.bin .leq (.t 8) (.c (.int .i64 10)))), (oN 10 (.pick (.t 6) (.t 9) (.c (.bool false)))), (oN 2 (.mov (.t 10)))] [1, 3, 4, 5, 6, 7, 8, 9, 10]) (.ret))
def zeF : List ARet := [.tmp 2]
theorem zmh : zT Tryz.prog zbI (qRo [1]) = some (zhI.strip, zeF, 11) := by kernel_rfl
def zaK : ACode := .seq (.region [ (oN 4 (.mov (.c (.bool false))))] [4]) (.seq (.region [ (oN 5 (.mov (.t 0))), (oN 6 (.mov (.t 1))), (oN 7 (.call zW [(.t 5), (.t 6)])), (oN 8 (.bin .geq (.t 7) (.c (.int .i64 0)))), (oN 4 (.mov (.t 8)))] [0, 1, 5, 6, 7, 8]) (.ret))
def zaN : List ARet := [.tmp 4]
theorem zcb : zT Tryz.prog zO (qRo []) = some (zaK.strip, zaN, 9) := by kernel_rfl
def zbJ : ACode := .seq (.region [ (oN 4 (.mov (.c (.bool false))))] [4]) (.seq (.region [ (oN 5 (.mov (.t 0))), (oN 6 (.mov (.t 1))), (oN 7 (.call zX [(.t 5), (.t 6)])), (oN 8 (.bin .geq (.t 7) (.c (.int .i64 0)))), (oN 4 (.mov (.t 8)))] [0, 1, 5, 6, 7, 8]) (.ret))
def zbL : List ARet := [.tmp 4]
theorem zes : zT Tryz.prog zao (qRo []) = some (zbJ.strip, zbL, 9) := by kernel_rfl
def zju : ACode := .seq (.region [ (oN 3 (.mov (.c (.bool false))))] [3]) (.seq (.region [ (oN 4 (.mov (.t 0))), (oN 5 (.bin .lss (.t 4) (.c (.int .i64 0)))), (oN 6 (.mov (.t 5))), (oG 7 6 false (.mov (.t 0))), (oG 8 6 false (.fldaddr 1 1 (.t 1))), (oG 9 6 false (.load false 1 (.t 8))), (oG 10 6 false (.len (.t 9))), (oG 11 6 false (.bin .geq (.t 7) (.t 10))), (oN 12 (.pick (.t 6) (.c (.bool true)) (.t 11))), (oN 3 (.mov (.t 12)))] [0, 1, 4, 5, 6, 7, 8, 9, 10, 11, 12]) (.ret))
def zef : List ARet := [.tmp 3]
theorem znG : zT Tryz.prog zdq (qRo []) = some (zju.strip, zef, 13) := by kernel_rfl
def zgT : ACode := .seq (.region [ (oN 2 (.mov (.c (.int .i64 0))))] [2]) (.seq (.seq (.region [ (oN 3 (.mov (.t 0)))] [0]) (.block 0 (.seq (.seq (.region [ (oN 5 (.bin .eql (.t 3) (.c (.int .i64 1)))), (oN 4 (.mov (.t 5)))] [5]) (.cond (.t 4) (.skip) (.seq (.region [ (oN 6 (.bin .eql (.t 3) (.c (.int .i64 4)))), (oN 4 (.mov (.t 6)))] [6]) (.cond (.t 4) (.skip) (.seq (.region [ (oN 7 (.bin .eql (.t 3) (.c (.int .i64 7)))), (oN 4 (.mov (.t 7)))] [7]) (.cond (.t 4) (.skip) (.region [ (oN 8 (.bin .eql (.t 3) (.c (.int .i64 8)))), (oN 4 (.mov (.t 8)))] [8]))))))) (.cond (.t 4) (.seq (.region [ (oN 2 (.mov (.c (.int .i64 1))))] [3, 4]) (.ret)) (.seq (.region [ (oN 10 (.bin .eql (.t 3) (.c (.int .i64 2)))), (oN 9 (.mov (.t 10)))] [4, 10]) (.cond (.t 9) (.seq (.region [ (oN 2 (.mov (.c (.int .i64 2))))] [3, 9]) (.ret)) (.seq (.seq (.region [ (oN 12 (.bin .eql (.t 3) (.c (.int .i64 3)))), (oN 11 (.mov (.t 12)))] [9, 12]) (.cond (.t 11) (.skip) (.seq (.region [ (oN 13 (.bin .eql (.t 3) (.c (.int .i64 5)))), (oN 11 (.mov (.t 13)))] [13]) (.cond (.t 11) (.skip) (.seq (.region [ (oN 14 (.bin .eql (.t 3) (.c (.int .i64 6)))), (oN 11 (.mov (.t 14)))] [14]) (.cond (.t 11) (.skip) (.seq (.region [ (oN 15 (.bin .eql (.t 3) (.c (.int .i64 9)))), (oN 11 (.mov (.t 15)))] [15]) (.cond (.t 11) (.skip) (.region [ (oN 16 (.bin .eql (.t 3) (.c (.int .i64 10)))), (oN 11 (.mov (.t 16)))] [3, 16]))))))))) (.cond (.t 11) (.seq (.region [ (oN 2 (.mov (.c (.int .i64 0))))] [3, 11]) (.ret)) (.skip))))))))) (.seq (.region [ (oN 2 (.mov (.c (.int .i64 (-1)))))] [3, 11]) (.ret)))
def zN : List ARet := [.tmp 2]
theorem zlb : zT Tryz.prog zc2 (qRo []) = some (zgT.strip, zN, 17) := by kernel_rfl
def zaX : ACode := .seq (.region [ (oN 1 (.rbox (.t 0))), (oN 2 (.mov (.c (.bool false))))] [0, 2]) (.seq (.region [ (oN 3 (.alloc [.int .i64 0, .int .i64 0, .int .i64 0, .int .i64 0, .int .i64 0, .int .u32 0, .nilsl, .nilsl]))] []) (.seq (.region [ (oN 4 (.mov (.c (.int .i64 0))))] []) (.seq (.seq (.region [ (oN 5 (.fldaddr 0 1 (.t 1))), (oN 6 (.load false 1 (.t 5)))] [5]) (.block 0 (.seq (.seq (.region [ (oN 8 (.bin .eql (.t 6) (.c (.int .i64 1)))), (oN 7 (.mov (.t 8)))] [8]) (.cond (.t 7) (.skip) (.region [ (oN 9 (.bin .eql (.t 6) (.c (.int .i64 3)))), (oN 7 (.mov (.t 9)))] [9]))) (.cond (.t 7) (.seq (.region [ (oN 10 (.fldaddr 1 1 (.t 1))), (oN 11 (.load false 1 (.t 10))), (oN 12 (.fldaddr 1 1 (.t 3))), ⟨none, .store 1 (.t 12) (.t 11), none⟩] [6, 7, 10, 11, 12]) (.seq (.region [ (oN 13 (.fldaddr 1 1 (.t 1))), (oN 14 (.load false 1 (.t 13))), (oN 15 (.call zdt [(.t 14)])), (oN 16 (.un .not (.t 15)))] [13, 14, 15]) (.cond (.t 16) (.seq (.region [ (oN 2 (.mov (.c (.bool false))))] [1, 3, 4, 16]) (.ret)) (.skip)))) (.seq (.region [ (oN 18 (.bin .eql (.t 6) (.c (.int .i64 2)))), (oN 17 (.mov (.t 18)))] [7, 18]) (.cond (.t 17) (.seq (.region [ (oN 19 (.fldaddr 2 1 (.t 1))), (oN 20 (.load false 1 (.t 19))), (oN 21 (.fldaddr 2 1 (.t 3))), ⟨none, .store 1 (.t 21) (.t 20), none⟩] [6, 17, 19, 20, 21]) (.seq (.region [ (oN 22 (.fldaddr 2 1 (.t 1))), (oN 23 (.load false 1 (.t 22))), (oN 24 (.call zfM [(.t 23)])), (oN 25 (.un .not (.t 24)))] [22, 23, 24]) (.cond (.t 25) (.seq (.region [ (oN 2 (.mov (.c (.bool false))))] [1, 3, 4, 25]) (.ret)) (.skip)))) (.seq (.region [ (oN 27 (.bin .eql (.t 6) (.c (.int .i64 5)))), (oN 26 (.mov (.t 27)))] [17, 27]) (.cond (.t 26) (.region [ (oN 28 (.fldaddr 5 1 (.t 1))), (oN 29 (.load false 1 (.t 28))), (oN 30 (.fldaddr 5 1 (.t 3))), ⟨none, .store 1 (.t 30) (.t 29), none⟩] [6, 26, 28, 29, 30]) (.seq (.region [ (oN 32 (.bin .eql (.t 6) (.c (.int .i64 6)))), (oN 31 (.mov (.t 32)))] [26, 32]) (.cond (.t 31) (.region [ (oN 33 (.fldaddr 3 1 (.t 1))), (oN 34 (.load false 1 (.t 33))), (oN 35 (.fldaddr 3 1 (.t 3))), ⟨none, .store 1 (.t 35) (.t 34), none⟩] [6, 31, 33, 34, 35]) (.seq (.region [ (oN 37 (.bin .eql (.t 6) (.c (.int .i64 7)))), (oN 36 (.mov (.t 37)))] [31, 37]) (.cond (.t 36) (.draw ( .step (oN 38 (.fldaddr 3 1 (.t 1))) ( .step (oN 39 (.load false 1 (.t 38))) ( .step (oN 40 (.fldaddr 4 1 (.t 1))) ( .step (oN 42 (.fldaddr 3 1 (.t 3))) ( .alt (oN 41 (.load false 1 (.t 40))) ( .alt ⟨none, .store 1 (.t 42) (.t 39), none⟩ ( .step (oN 43 (.fldaddr 4 1 (.t 3))) ( .alt ⟨none, .store 1 (.t 43) (.t 41), none⟩ ( .done) ( .stop))) ( .stop)) ( .alt ⟨none, .store 1 (.t 42) (.t 39), none⟩ ( .step (oN 41 (.load false 1 (.t 40))) ( .step (oN 43 (.fldaddr 4 1 (.t 3))) ( .alt ⟨none, .store 1 (.t 43) (.t 41), none⟩ ( .done) ( .stop)))) ( .stop))))))) [6, 36, 38, 39, 40, 41, 42, 43]) (.seq (.region [ (oN 45 (.bin .eql (.t 6) (.c (.int .i64 8)))), (oN 44 (.mov (.t 45)))] [6, 36, 45]) (.cond (.t 44) (.seq (.region [ (oN 46 (.fldaddr 7 1 (.t 1))), (oN 47 (.load false 1 (.t 46))), (oN 48 (.len (.t 47))), (oN 4 (.mov (.t 48)))] [44, 46, 47, 48]) (.seq (.region [ (oN 49 (.mov (.t 4))), (oN 50 (.bin .lss (.t 49) (.c (.int .i64 1)))), (oN 51 (.mov (.t 50))), (oG 52 51 false (.mov (.t 4))), (oG 53 51 false (.bin .gtr (.t 52) (.c (.int .i64 64)))), (oN 54 (.pick (.t 51) (.c (.bool true)) (.t 53)))] [49, 50, 51, 52, 53]) (.cond (.t 54) (.seq (.region [ (oN 2 (.mov (.c (.bool false))))] [1, 3, 4, 54]) (.ret)) (.skip)))) (.skip))))))))))))))) (.seq (.region [ (oN 55 (.fldaddr 1 1 (.t 1))), (oN 56 (.load false 1 (.t 55))), (oN 57 (.fldaddr 1 1 (.t 3))), (oN 58 (.load false 1 (.t 57))), (oN 59 (.bin .eql (.t 56) (.t 58))), (oN 60 (.mov (.t 59))), (oG 61 60 true (.fldaddr 2 1 (.t 1))), (oG 62 60 true (.load false 1 (.t 61))), (oG 63 60 true (.fldaddr 2 1 (.t 3))), (oG 64 60 true (.load false 1 (.t 63))), (oG 65 60 true (.bin .eql (.t 62) (.t 64))), (oN 66 (.pick (.t 60) (.t 65) (.c (.bool false)))), (oN 67 (.mov (.t 66))), (oG 68 67 true (.fldaddr 5 1 (.t 1))), (oG 69 67 true (.load false 1 (.t 68))), (oG 70 67 true (.fldaddr 5 1 (.t 3))), (oG 71 67 true (.load false 1 (.t 70))), (oG 72 67 true (.bin .eql (.t 69) (.t 71))), (oN 73 (.pick (.t 67) (.t 72) (.c (.bool false)))), (oN 74 (.mov (.t 73))), (oG 75 74 true (.fldaddr 3 1 (.t 1))), (oG 76 74 true (.load false 1 (.t 75))), (oG 77 74 true (.fldaddr 3 1 (.t 3))), (oG 78 74 true (.load false 1 (.t 77))), (oG 79 74 true (.bin .eql (.t 76) (.t 78))), (oN 80 (.pick (.t 74) (.t 79) (.c (.bool false)))), (oN 81 (.mov (.t 80))), (oG 82 81 true (.fldaddr 4 1 (.t 1))), (oG 83 81 true (.load false 1 (.t 82))), (oG 84 81 true (.fldaddr 4 1 (.t 3))), (oG 85 81 true (.load false 1 (.t 84))), (oG 86 81 true (.bin .eql (.t 83) (.t 85))), (oN 87 (.pick (.t 81) (.t 86) (.c (.bool false)))), (oN 88 (.mov (.t 87))), (oG 89 88 true (.fldaddr 7 1 (.t 1))), (oG 90 88 true (.load false 1 (.t 89))), (oG 91 88 true (.len (.t 90))), (oG 92 88 true (.mov (.t 4))), (oG 93 88 true (.bin .eql (.t 91) (.t 92))), (oN 94 (.pick (.t 88) (.t 93) (.c (.bool false)))), (oN 2 (.mov (.t 94)))] [1, 3, 4, 16, 25, 44, 54, 55, 56, 57, 58, 59, 60, 61, 62, 63, 64, 65, 66, 67, 68, 69, 70, 71, 72, 73, 74, 75, 76, 77, 78, 79, 80, 81, 82, 83, 84, 85, 86, 87, 88, 89, 90, 91, 92, 93, 94]) (.ret)))))
def zd : List ARet := [.tmp 2]
theorem zbb : zT Tryz.prog zav (qRo [1]) = some (zaX.strip, zd, 95) := by kernel_rfl
def zhQ : ACode := .seq (.seq (.region [ (oN 8 (.mov (.t 5))), (oN 9 (.fldaddr 4 1 (.t 2))), (oN 10 (.load false 1 (.t 9))), (oN 11 (.len (.t 10))), (oN 12 (.bin .lss (.t 8) (.t 11)))] [8, 9, 10, 11]) (.cond (.t 12) (.skip) (.exit 0))) (.seq (.block 1 (.seq (.region [ (oN 15 (.fldaddr 4 1 (.t 2))), (oN 16 (.load false 1 (.t 15))), (oN 17 (.mov (.t 5))), (oN 18 (.idx 5 (.t 16) (.t 17))), (oN 19 (.load true 5 (.t 18))), (oN 20 (.mov (.t 1))), (oN 21 (.bin .sub (.t 20) (.c (.int .i64 1)))), (oN 22 (.call zep [(.t 19), (.t 21)]))] [12, 15, 16, 17, 18, 19, 20, 21]) (.cond (.t 22) (.seq (.region [ (oN 4 (.mov (.c (.bool true))))] [1, 2, 5, 22]) (.ret)) (.skip)))) (.region [ (oN 13 (.mov (.t 5))), (oN 14 (.bin .add (.t 13) (.c (.int .i64 1)))), (oN 5 (.mov (.t 14)))] [4, 13, 14, 22]))
def zhS : ACode := .seq (.region [ (oN 4 (.mov (.c (.bool false))))] [1, 2, 5]) (.ret)
def zj8 : ACode := .seq (.region [ (oN 2 (.rbox (.t 0))), (oN 4 (.mov (.c (.bool false))))] [0, 4]) (.seq (.seq (.region [ (oN 6 (.mov (.t 1))), (oN 7 (.bin .lss (.t 6) (.c (.int .i64 1))))] [6]) (.cond (.t 7) (.seq (.region [ (oN 4 (.mov (.c (.bool true))))] [1, 2, 7]) (.ret)) (.skip))) (.seq (.seq (.region [ (oN 5 (.mov (.c (.int .i64 0))))] [4, 7]) (.block 0 (.loop zhQ))) (zhS)))
def zfc : List ARet := [.tmp 4]
theorem zoS : zT Tryz.prog zep (qRo [2]) = some (zj8.strip, zfc, 23) := by kernel_rfl
def zf9 : ACode := .seq (.seq (.region [ (oN 4 (.mov (.t 3))), (oN 5 (.fldaddr 4 1 (.t 1))), (oN 6 (.load false 1 (.t 5))), (oN 7 (.len (.t 6))), (oN 8 (.bin .lss (.t 4) (.t 7)))] [4, 5, 6, 7]) (.cond (.t 8) (.skip) (.exit 0))) (.seq (.block 1 (.seq (.region [ (oN 11 (.fldaddr 4 1 (.t 1))), (oN 12 (.load false 1 (.t 11))), (oN 13 (.mov (.t 3))), (oN 14 (.idx 5 (.t 12) (.t 13))), (oN 15 (.load true 5 (.t 14))), (oN 16 (.call zcT [(.t 15)])), (oN 17 (.un .not (.t 16)))] [8, 11, 12, 13, 14, 15, 16]) (.cond (.t 17) (.seq (.region [ (oN 2 (.mov (.c (.bool false))))] [1, 3, 17]) (.ret)) (.skip)))) (.region [ (oN 9 (.mov (.t 3))), (oN 10 (.bin .add (.t 9) (.c (.int .i64 1)))), (oN 3 (.mov (.t 10)))] [2, 9, 10, 17]))
def zD : ACode := .seq (.seq (.region [ (oN 18 (.fldaddr 0 1 (.t 1))), (oN 19 (.load false 1 (.t 18)))] [3, 18]) (.block 2 (.seq (.region [ (oN 21 (.bin .eql (.t 19) (.c (.int .i64 1)))), (oN 20 (.mov (.t 21)))] [21]) (.cond (.t 20) (.seq (.region [ (oN 22 (.fldaddr 2 1 (.t 1))), (oN 23 (.load false 1 (.t 22))), (oN 24 (.bin .eql (.t 23) (.c (.int .i64 0)))), (oN 25 (.mov (.t 24))), (oG 26 25 true (.fldaddr 3 1 (.t 1))), (oG 27 25 true (.load false 1 (.t 26))), (oG 28 25 true (.bin .eql (.t 27) (.c (.int .i64 0)))), (oN 29 (.pick (.t 25) (.t 28) (.c (.bool false)))), (oN 30 (.mov (.t 29))), (oG 31 30 true (.fldaddr 4 1 (.t 1))), (oG 32 30 true (.load false 1 (.t 31))), (oG 33 30 true (.len (.t 32))), (oG 34 30 true (.bin .eql (.t 33) (.c (.int .i64 0)))), (oN 35 (.pick (.t 30) (.t 34) (.c (.bool false)))), (oN 2 (.mov (.t 35)))] [1, 19, 20, 22, 23, 24, 25, 26, 27, 28, 29, 30, 31, 32, 33, 34, 35]) (.ret)) (.seq (.region [ (oN 37 (.bin .eql (.t 19) (.c (.int .i64 2)))), (oN 36 (.mov (.t 37)))] [20, 37]) (.cond (.t 36) (.seq (.region [ (oN 38 (.fldaddr 1 1 (.t 1))), (oN 39 (.load false 1 (.t 38))), (oN 40 (.bin .eql (.t 39) (.c (.int .u32 0)))), (oN 41 (.mov (.t 40))), (oG 42 41 true (.fldaddr 3 1 (.t 1))), (oG 43 41 true (.load false 1 (.t 42))), (oG 44 41 true (.bin .eql (.t 43) (.c (.int .i64 0)))), (oN 45 (.pick (.t 41) (.t 44) (.c (.bool false)))), (oN 46 (.mov (.t 45))), (oG 47 46 true (.fldaddr 4 1 (.t 1))), (oG 48 46 true (.load false 1 (.t 47))), (oG 49 46 true (.len (.t 48))), (oG 50 46 true (.bin .eql (.t 49) (.c (.int .i64 0)))), (oN 51 (.pick (.t 46) (.t 50) (.c (.bool false)))), (oN 52 (.mov (.t 51))), (oG 53 52 true (.fldaddr 2 1 (.t 1))), (oG 54 52 true (.load false 1 (.t 53))), (oG 55 52 true (.call zfI [(.t 54)])), (oN 56 (.pick (.t 52) (.t 55) (.c (.bool false)))), (oN 2 (.mov (.t 56)))] [1, 19, 36, 38, 39, 40, 41, 42, 43, 44, 45, 46, 47, 48, 49, 50, 51, 52, 53, 54, 55, 56]) (.ret)) (.seq (.seq (.region [ (oN 58 (.bin .eql (.t 19) (.c (.int .i64 16)))), (oN 57 (.mov (.t 58)))] [36, 58]) (.cond (.t 57) (.skip) (.region [ (oN 59 (.bin .eql (.t 19) (.c (.int .i64 17)))), (oN 57 (.mov (.t 59)))] [59]))) (.cond (.t 57) (.seq (.region [ (oN 60 (.fldaddr 1 1 (.t 1))), (oN 61 (.load false 1 (.t 60))), (oN 62 (.bin .eql (.t 61) (.c (.int .u32 0)))), (oN 63 (.mov (.t 62))), (oG 64 63 true (.fldaddr 2 1 (.t 1))), (oG 65 63 true (.load false 1 (.t 64))), (oG 66 63 true (.bin .eql (.t 65) (.c (.int .i64 0)))), (oN 67 (.pick (.t 63) (.t 66) (.c (.bool false)))), (oN 68 (.mov (.t 67))), (oG 69 68 true (.fldaddr 3 1 (.t 1))), (oG 70 68 true (.load false 1 (.t 69))), (oG 71 68 true (.bin .eql (.t 70) (.c (.int .i64 0)))), (oN 72 (.pick (.t 68) (.t 71) (.c (.bool false)))), (oN 73 (.mov (.t 72))), (oG 74 73 true (.fldaddr 4 1 (.t 1))), (oG 75 73 true (.load false 1 (.t 74))), (oG 76 73 true (.len (.t 75))), (oG 77 73 true (.bin .eql (.t 76) (.c (.int .i64 1)))), (oN 78 (.pick (.t 73) (.t 77) (.c (.bool false)))), (oN 2 (.mov (.t 78)))] [1, 19, 57, 60, 61, 62, 63, 64, 65, 66, 67, 68, 69, 70, 71, 72, 73, 74, 75, 76, 77, 78]) (.ret)) (.seq (.region [ (oN 80 (.bin .eql (.t 19) (.c (.int .i64 18)))), (oN 79 (.mov (.t 80)))] [57, 80]) (.cond (.t 79) (.seq (.region [ (oN 81 (.fldaddr 1 1 (.t 1))), (oN 82 (.load false 1 (.t 81))), (oN 83 (.bin .eql (.t 82) (.c (.int .u32 0)))), (oN 84 (.mov (.t 83))), (oG 85 84 true (.fldaddr 2 1 (.t 1))), (oG 86 84 true (.load false 1 (.t 85))), (oG 87 84 true (.bin .eql (.t 86) (.c (.int .i64 0)))), (oN 88 (.pick (.t 84) (.t 87) (.c (.bool false)))), (oN 89 (.mov (.t 88))), (oG 90 89 true (.fldaddr 3 1 (.t 1))), (oG 91 89 true (.load false 1 (.t 90))), (oG 92 89 true (.bin .eql (.t 91) (.c (.int .i64 1)))), (oG 93 89 true (.mov (.t 92))), (oG 94 93 false (.fldaddr 3 1 (.t 1))), (oG 95 93 false (.load false 1 (.t 94))), (oG 96 93 false (.bin .eql (.t 95) (.c (.int .i64 2)))), (oG 97 89 true (.pick (.t 93) (.c (.bool true)) (.t 96))), (oG 98 89 true (.mov (.t 97))), (oG 99 98 false (.fldaddr 3 1 (.t 1))), (oG 100 98 false (.load false 1 (.t 99))), (oG 101 98 false (.bin .eql (.t 100) (.c (.int .i64 4)))), (oG 102 89 true (.pick (.t 98) (.c (.bool true)) (.t 101))), (oN 103 (.pick (.t 89) (.t 102) (.c (.bool false)))), (oN 104 (.mov (.t 103))), (oG 105 104 true (.fldaddr 4 1 (.t 1))), (oG 106 104 true (.load false 1 (.t 105))), (oG 107 104 true (.len (.t 106))), (oG 108 104 true (.bin .eql (.t 107) (.c (.int .i64 1)))), (oN 109 (.pick (.t 104) (.t 108) (.c (.bool false)))), (oN 2 (.mov (.t 109)))] [1, 19, 79, 81, 82, 83, 84, 85, 86, 87, 88, 89, 90, 91, 92, 93, 94, 95, 96, 97, 98, 99, 100, 101, 102, 103, 104, 105, 106, 107, 108, 109]) (.ret)) (.seq (.region [ (oN 111 (.bin .eql (.t 19) (.c (.int .i64 19)))), (oN 110 (.mov (.t 111)))] [19, 79, 111]) (.cond (.t 110) (.seq (.region [ (oN 112 (.fldaddr 1 1 (.t 1))), (oN 113 (.load false 1 (.t 112))), (oN 114 (.bin .eql (.t 113) (.c (.int .u32 0)))), (oN 115 (.mov (.t 114))), (oG 116 115 true (.fldaddr 2 1 (.t 1))), (oG 117 115 true (.load false 1 (.t 116))), (oG 118 115 true (.bin .eql (.t 117) (.c (.int .i64 0)))), (oN 119 (.pick (.t 115) (.t 118) (.c (.bool false)))), (oN 120 (.mov (.t 119))), (oG 121 120 true (.fldaddr 3 1 (.t 1))), (oG 122 120 true (.load false 1 (.t 121))), (oG 123 120 true (.bin .eql (.t 122) (.c (.int .i64 1)))), (oG 124 120 true (.mov (.t 123))), (oG 125 124 false (.fldaddr 3 1 (.t 1))), (oG 126 124 false (.load false 1 (.t 125))), (oG 127 124 false (.bin .eql (.t 126) (.c (.int .i64 2)))), (oG 128 120 true (.pick (.t 124) (.c (.bool true)) (.t 127))), (oN 129 (.pick (.t 120) (.t 128) (.c (.bool false)))), (oN 130 (.mov (.t 129))), (oG 131 130 true (.fldaddr 4 1 (.t 1))), (oG 132 130 true (.load false 1 (.t 131))), (oG 133 130 true (.len (.t 132))), (oG 134 130 true (.bin .eql (.t 133) (.c (.int .i64 1)))), (oN 135 (.pick (.t 130) (.t 134) (.c (.bool false)))), (oN 2 (.mov (.t 135)))] [1, 110, 112, 113, 114, 115, 116, 117, 118, 119, 120, 121, 122, 123, 124, 125, 126, 127, 128, 129, 130, 131, 132, 133, 134, 135]) (.ret)) (.skip))))))))))))) (.seq (.region [ (oN 136 (.fldaddr 0 1 (.t 1))), (oN 137 (.load false 1 (.t 136))), (oN 138 (.bin .geq (.t 137) (.c (.int .i64 3)))), (oN 139 (.mov (.t 138))), (oG 140 139 true (.fldaddr 0 1 (.t 1))), (oG 141 139 true (.load false 1 (.t 140))), (oG 142 139 true (.bin .leq (.t 141) (.c (.int .i64 15)))), (oN 143 (.pick (.t 139) (.t 142) (.c (.bool false)))), (oN 144 (.mov (.t 143))), (oG 145 144 true (.fldaddr 1 1 (.t 1))), (oG 146 144 true (.load false 1 (.t 145))), (oG 147 144 true (.bin .eql (.t 146) (.c (.int .u32 0)))), (oN 148 (.pick (.t 144) (.t 147) (.c (.bool false)))), (oN 149 (.mov (.t 148))), (oG 150 149 true (.fldaddr 2 1 (.t 1))), (oG 151 149 true (.load false 1 (.t 150))), (oG 152 149 true (.bin .eql (.t 151) (.c (.int .i64 0)))), (oN 153 (.pick (.t 149) (.t 152) (.c (.bool false)))), (oN 154 (.mov (.t 153))), (oG 155 154 true (.fldaddr 3 1 (.t 1))), (oG 156 154 true (.load false 1 (.t 155))), (oG 157 154 true (.bin .eql (.t 156) (.c (.int .i64 0)))), (oN 158 (.pick (.t 154) (.t 157) (.c (.bool false)))), (oN 159 (.mov (.t 158))), (oG 160 159 true (.fldaddr 4 1 (.t 1))), (oG 161 159 true (.load false 1 (.t 160))), (oG 162 159 true (.len (.t 161))), (oG 163 159 true (.bin .eql (.t 162) (.c (.int .i64 2)))), (oN 164 (.pick (.t 159) (.t 163) (.c (.bool false)))), (oN 2 (.mov (.t 164)))] [1, 110, 136, 137, 138, 139, 140, 141, 142, 143, 144, 145, 146, 147, 148, 149, 150, 151, 152, 153, 154, 155, 156, 157, 158, 159, 160, 161, 162, 163, 164]) (.ret))
def ziz : ACode := .seq (.region [ (oN 1 (.rbox (.t 0))), (oN 2 (.mov (.c (.bool false))))] [0, 2]) (.seq (.seq (.region [ (oN 3 (.mov (.c (.int .i64 0))))] []) (.block 0 (.loop zf9))) (zD))
def zf : List ARet := [.tmp 2]
theorem znr : zT Tryz.prog zcT (qRo [1]) = some (ziz.strip, zf, 165) := by kernel_rfl
def zj9 : ACode := .seq (.region [ (oN 2 (.rbox (.t 0))), (oN 3 (.rbox (.t 1))), (oN 4 (.mov (.c (.bool false))))] [0, 1, 4]) (.seq (.region [ (oN 5 (.load false 1 (.t 3))), (oN 6 (.bin .geq (.t 5) (.c (.int .i64 1)))), (oN 7 (.mov (.t 6))), (oG 8 7 true (.fldaddr 4 1 (.t 2))), (oG 9 7 true (.load false 1 (.t 8))), (oG 10 7 true (.mkfn (.func zeh) [(.t 3)])), (oG 11 7 true (.call zF [(.t 9), (.t 10)])), (oG 12 7 true (.un .not (.t 11))), (oN 13 (.pick (.t 7) (.t 12) (.c (.bool false)))), (oN 4 (.mov (.t 13)))] [2, 3, 5, 6, 7, 8, 9, 10, 11, 12, 13]) (.ret))
def zhq : List ARet := [.tmp 4]
theorem zow : zT Tryz.prog zej (qRo [2, 3]) = some (zj9.strip, zhq, 14) := by kernel_rfl
def zaA : ACode := .seq (.region [ (oN 1 (.rbox (.t 0))), (oN 2 (.mov (.c (.bool false))))] [0, 2]) (.seq (.region [ (oN 5 (.fldaddr 0 1 (.t 1))), (oN 6 (.load false 1 (.t 5))), (oN 7 (.build [.int .i64 0, .int .u32 0, .int .i64 0, .int .i64 0, .nilsl] [(0, 1, (.t 6))])), (oN 3 (.alloc [.int .i64 0, .int .u32 0, .int .i64 0, .int .i64 0, .nilsl])), ⟨none, .store 5 (.t 3) (.t 7), none⟩] [5, 6, 7]) (.seq (.region [ (oN 4 (.mov (.c (.int .i64 0))))] []) (.seq (.block 0 (.seq (.region [ (oN 9 (.fldaddr 0 1 (.t 1))), (oN 10 (.load false 1 (.t 9))), (oN 11 (.bin .eql (.t 10) (.c (.int .i64 1)))), (oN 8 (.mov (.t 11)))] [9, 10, 11]) (.cond (.t 8) (.region [ (oN 12 (.fldaddr 1 1 (.t 1))), (oN 13 (.load false 1 (.t 12))), (oN 14 (.fldaddr 1 1 (.t 3))), ⟨none, .store 1 (.t 14) (.t 13), none⟩] [8, 12, 13, 14]) (.seq (.region [ (oN 16 (.fldaddr 0 1 (.t 1))), (oN 17 (.load false 1 (.t 16))), (oN 18 (.bin .eql (.t 17) (.c (.int .i64 2)))), (oN 19 (.mov (.t 18))), (oG 20 19 true (.fldaddr 2 1 (.t 1))), (oG 21 19 true (.load false 1 (.t 20))), (oG 22 19 true (.call zdt [(.t 21)])), (oN 23 (.pick (.t 19) (.t 22) (.c (.bool false)))), (oN 15 (.mov (.t 23)))] [8, 16, 17, 18, 19, 20, 21, 22, 23]) (.cond (.t 15) (.region [ (oN 24 (.fldaddr 2 1 (.t 1))), (oN 25 (.load false 1 (.t 24))), (oN 26 (.fldaddr 2 1 (.t 3))), ⟨none, .store 1 (.t 26) (.t 25), none⟩] [15, 24, 25, 26]) (.seq (.region [ (oN 28 (.fldaddr 0 1 (.t 1))), (oN 29 (.load false 1 (.t 28))), (oN 30 (.bin .geq (.t 29) (.c (.int .i64 3)))), (oN 31 (.mov (.t 30))), (oG 32 31 true (.fldaddr 0 1 (.t 1))), (oG 33 31 true (.load false 1 (.t 32))), (oG 34 31 true (.bin .leq (.t 33) (.c (.int .i64 15)))), (oN 35 (.pick (.t 31) (.t 34) (.c (.bool false)))), (oN 27 (.mov (.t 35)))] [4, 15, 28, 29, 30, 31, 32, 33, 34, 35]) (.cond (.t 27) (.region [ (oN 4 (.mov (.c (.int .i64 2))))] [27]) (.seq (.seq (.region [ (oN 37 (.fldaddr 0 1 (.t 1))), (oN 38 (.load false 1 (.t 37))), (oN 39 (.bin .eql (.t 38) (.c (.int .i64 16)))), (oN 36 (.mov (.t 39)))] [27, 37, 38, 39]) (.cond (.t 36) (.skip) (.region [ (oN 40 (.fldaddr 0 1 (.t 1))), (oN 41 (.load false 1 (.t 40))), (oN 42 (.bin .eql (.t 41) (.c (.int .i64 17)))), (oN 36 (.mov (.t 42)))] [40, 41, 42]))) (.cond (.t 36) (.region [ (oN 4 (.mov (.c (.int .i64 1))))] [36]) (.seq (.seq (.region [ (oN 44 (.fldaddr 0 1 (.t 1))), (oN 45 (.load false 1 (.t 44))), (oN 46 (.bin .eql (.t 45) (.c (.int .i64 18)))), (oN 47 (.mov (.t 46))), (oG 48 47 true (.fldaddr 3 1 (.t 1))), (oG 49 47 true (.load false 1 (.t 48))), (oG 50 47 true (.call zfM [(.t 49)])), (oN 51 (.pick (.t 47) (.t 50) (.c (.bool false)))), (oN 43 (.mov (.t 51)))] [36, 44, 45, 46, 47, 48, 49, 50, 51]) (.cond (.t 43) (.skip) (.region [ (oN 52 (.fldaddr 0 1 (.t 1))), (oN 53 (.load false 1 (.t 52))), (oN 54 (.bin .eql (.t 53) (.c (.int .i64 19)))), (oN 55 (.mov (.t 54))), (oG 56 55 true (.fldaddr 3 1 (.t 1))), (oG 57 55 true (.load false 1 (.t 56))), (oG 58 55 true (.bin .eql (.t 57) (.c (.int .i64 1)))), (oG 59 55 true (.mov (.t 58))), (oG 60 59 false (.fldaddr 3 1 (.t 1))), (oG 61 59 false (.load false 1 (.t 60))), (oG 62 59 false (.bin .eql (.t 61) (.c (.int .i64 2)))), (oG 63 55 true (.pick (.t 59) (.c (.bool true)) (.t 62))), (oN 64 (.pick (.t 55) (.t 63) (.c (.bool false)))), (oN 43 (.mov (.t 64)))] [52, 53, 54, 55, 56, 57, 58, 59, 60, 61, 62, 63, 64]))) (.cond (.t 43) (.seq (.region [ (oN 4 (.mov (.c (.int .i64 1))))] [43]) (.region [ (oN 65 (.fldaddr 3 1 (.t 1))), (oN 66 (.load false 1 (.t 65))), (oN 67 (.fldaddr 3 1 (.t 3))), ⟨none, .store 1 (.t 67) (.t 66), none⟩] [65, 66, 67])) (.seq (.region [ (oN 2 (.mov (.c (.bool false))))] [1, 3, 43]) (.ret))))))))))))) (.seq (.region [ (oN 68 (.fldaddr 1 1 (.t 1))), (oN 69 (.load false 1 (.t 68))), (oN 70 (.fldaddr 1 1 (.t 3))), (oN 71 (.load false 1 (.t 70))), (oN 72 (.bin .eql (.t 69) (.t 71))), (oN 73 (.mov (.t 72))), (oG 74 73 true (.fldaddr 2 1 (.t 1))), (oG 75 73 true (.load false 1 (.t 74))), (oG 76 73 true (.fldaddr 2 1 (.t 3))), (oG 77 73 true (.load false 1 (.t 76))), (oG 78 73 true (.bin .eql (.t 75) (.t 77))), (oN 79 (.pick (.t 73) (.t 78) (.c (.bool false)))), (oN 80 (.mov (.t 79))), (oG 81 80 true (.fldaddr 3 1 (.t 1))), (oG 82 80 true (.load false 1 (.t 81))), (oG 83 80 true (.fldaddr 3 1 (.t 3))), (oG 84 80 true (.load false 1 (.t 83))), (oG 85 80 true (.bin .eql (.t 82) (.t 84))), (oN 86 (.pick (.t 80) (.t 85) (.c (.bool false)))), (oN 87 (.mov (.t 86))), (oG 88 87 true (.fldaddr 4 1 (.t 1))), (oG 89 87 true (.load false 1 (.t 88))), (oG 90 87 true (.len (.t 89))), (oG 91 87 true (.mov (.t 4))), (oG 92 87 true (.bin .eql (.t 90) (.t 91))), (oN 93 (.pick (.t 87) (.t 92) (.c (.bool false)))), (oN 94 (.mov (.t 93))), (oG 95 94 true (.fldaddr 4 1 (.t 1))), (oG 96 94 true (.load false 1 (.t 95))), (oG 97 94 true (.call zF [(.t 96), (.c (.fn (.func zY) []))])), (oG 98 94 true (.un .not (.t 97))), (oN 99 (.pick (.t 94) (.t 98) (.c (.bool false)))), (oN 2 (.mov (.t 99)))] [1, 3, 4, 68, 69, 70, 71, 72, 73, 74, 75, 76, 77, 78, 79, 80, 81, 82, 83, 84, 85, 86, 87, 88, 89, 90, 91, 92, 93, 94, 95, 96, 97, 98, 99]) (.ret)))))
def zj : List ARet := [.tmp 2]
theorem zaZ : zT Tryz.prog zaj (qRo [1]) = some (zaA.strip, zj, 100) := by kernel_rfl
def zaM : ACode := .seq (.region [ (oN 9 (.bin .lss (.t 8) (.t 7)))] []) (.seq (.cond (.t 9) (.skip) (.exit 0)) (.seq (.block 1 (.seq (.region [ (oN 10 (.mov (.t 8))), (oN 5 (.mov (.t 10)))] [9, 10]) (.seq (.region [ (oN 11 (.mov (.t 1))), (oN 12 (.mov (.t 0))), (oN 13 (.mov (.t 5))), (oN 14 (.idx 8 (.t 12) (.t 13))), (oN 15 (.load true 8 (.t 14))), (oN 16 (.callv (.t 11) [(.t 15)]))] [11, 12, 13, 14, 15]) (.cond (.t 16) (.seq (.region [ (oN 17 (.mov (.t 5))), (oN 4 (.mov (.t 17)))] [0, 1, 5, 7, 8, 16, 17]) (.ret)) (.skip))))) (.region [ (oN 18 (.bin .add (.t 8) (.c (.int .i64 1)))), (oN 8 (.mov (.t 18)))] [4, 5, 16, 18])))
def zaQ : ACode := .seq (.region [ (oN 4 (.mov (.c (.int .i64 (-1)))))] [0, 1, 7, 8]) (.ret)
def za6 : ACode := .seq (.region [ (oN 4 (.mov (.c (.int .i64 0))))] [4]) (.seq (.seq (.region [ (oN 6 (.mov (.t 0))), (oN 7 (.len (.t 6))), (oN 8 (.mov (.c (.int .i64 0))))] [6]) (.block 0 (.loop zaM))) (zaQ))
def zai : List ARet := [.tmp 4]
theorem zcJ : zT Tryz.prog zW (qRo []) = some (za6.strip, zai, 19) := by kernel_rfl
def zaY : ACode := .seq (.region [ (oN 9 (.bin .lss (.t 8) (.t 7)))] []) (.seq (.cond (.t 9) (.skip) (.exit 0)) (.seq (.block 1 (.seq (.region [ (oN 10 (.mov (.t 8))), (oN 5 (.mov (.t 10)))] [9, 10]) (.seq (.region [ (oN 11 (.mov (.t 1))), (oN 12 (.mov (.t 0))), (oN 13 (.mov (.t 5))), (oN 14 (.idx 1 (.t 12) (.t 13))), (oN 15 (.load false 1 (.t 14))), (oN 16 (.callv (.t 11) [(.t 15)]))] [11, 12, 13, 14, 15]) (.cond (.t 16) (.seq (.region [ (oN 17 (.mov (.t 5))), (oN 4 (.mov (.t 17)))] [0, 1, 5, 7, 8, 16, 17]) (.ret)) (.skip))))) (.region [ (oN 18 (.bin .add (.t 8) (.c (.int .i64 1)))), (oN 8 (.mov (.t 18)))] [4, 5, 16, 18])))
def zaU : ACode := .seq (.region [ (oN 4 (.mov (.c (.int .i64 (-1)))))] [0, 1, 7, 8]) (.ret)
def zbi : ACode := .seq (.region [ (oN 4 (.mov (.c (.int .i64 0))))] [4]) (.seq (.seq (.region [ (oN 6 (.mov (.t 0))), (oN 7 (.len (.t 6))), (oN 8 (.mov (.c (.int .i64 0))))] [6]) (.block 0 (.loop zaY))) (zaU))
def zae : List ARet := [.tmp 4]
theorem zcl : zT Tryz.prog zX (qRo []) = some (zbi.strip, zae, 19) := by kernel_rfl
def zjA : ACode := .seq (.region [ (oN 2 (.mov (.c (.bool false))))] [2]) (.seq (.region [ (oN 3 (.mov (.t 0))), (oN 4 (.bin .geq (.t 3) (.c (.int .i64 0)))), (oN 5 (.mov (.t 4))), (oG 6 5 true (.mov (.t 0))), (oG 7 5 true (.bin .lss (.t 6) (.c (.int .i64 65536)))), (oN 8 (.pick (.t 5) (.t 7) (.c (.bool false)))), (oN 2 (.mov (.t 8)))] [0, 3, 4, 5, 6, 7, 8]) (.ret))
def zgl : List ARet := [.tmp 2]
theorem znJ : zT Tryz.prog zdt (qRo []) = some (zjA.strip, zgl, 9) := by kernel_rfl
def zlU : ACode := .seq (.region [ (oN 2 (.mov (.c (.bool false))))] [2]) (.seq (.region [ (oN 3 (.mov (.t 0))), (oN 4 (.bin .eql (.t 3) (.c (.int .i64 1)))), (oN 5 (.mov (.t 4))), (oG 6 5 false (.mov (.t 0))), (oG 7 5 false (.bin .eql (.t 6) (.c (.int .i64 2)))), (oN 8 (.pick (.t 5) (.c (.bool true)) (.t 7))), (oN 9 (.mov (.t 8))), (oG 10 9 false (.mov (.t 0))), (oG 11 9 false (.bin .eql (.t 10) (.c (.int .i64 4)))), (oN 12 (.pick (.t 9) (.c (.bool true)) (.t 11))), (oN 2 (.mov (.t 12)))] [0, 3, 4, 5, 6, 7, 8, 9, 10, 11, 12]) (.ret))
def zgb : List ARet := [.tmp 2]
theorem zq2 : zT Tryz.prog zfM (qRo []) = some (zlU.strip, zgb, 13) := by kernel_rfl
def zaF : ACode := .seq (.region [ (oN 4 (.mov (.c (.bool false))))] [4]) (.seq (.region [ (oN 5 (.mov (.t 0))), (oN 6 (.mov (.t 1))), (oN 7 (.call zV [(.t 5), (.t 6)])), (oN 8 (.bin .geq (.t 7) (.c (.int .i64 0)))), (oN 4 (.mov (.t 8)))] [0, 1, 5, 6, 7, 8]) (.ret))
def zaJ : List ARet := [.tmp 4]
theorem zcc : zT Tryz.prog zF (qRo []) = some (zaF.strip, zaJ, 9) := by kernel_rfl
def zip : ACode := .seq (.region [ (oN 2 (.rbox (.t 0))), (oN 3 (.mov (.c (.bool false))))] [0, 3]) (.seq (.region [ (oN 4 (.load true 5 (.t 2))), (oN 5 (.load false 1 (.t 1))), (oN 6 (.bin .sub (.t 5) (.c (.int .i64 1)))), (oN 7 (.call zej [(.t 4), (.t 6)])), (oN 8 (.un .not (.t 7))), (oN 3 (.mov (.t 8)))] [1, 2, 4, 5, 6, 7, 8]) (.ret))
def ziu : List ARet := [.tmp 3]
theorem zmZ : zT Tryz.prog zeh (qRo [2]) = some (zip.strip, ziu, 9) := by kernel_rfl
def zjp : ACode := .seq (.region [ (oN 1 (.rbox (.t 0))), (oN 2 (.mov (.c (.bool false))))] [0, 2]) (.seq (.region [ (oN 3 (.load true 5 (.t 1))), (oN 4 (.call zaj [(.t 3)])), (oN 5 (.un .not (.t 4))), (oN 2 (.mov (.t 5)))] [1, 3, 4, 5]) (.ret))
def zjr : List ARet := [.tmp 2]
theorem znH : zT Tryz.prog zY (qRo [1]) = some (zjp.strip, zjr, 6) := by kernel_rfl
def zaL : ACode := .seq (.region [ (oN 9 (.bin .lss (.t 8) (.t 7)))] []) (.seq (.cond (.t 9) (.skip) (.exit 0)) (.seq (.block 1 (.seq (.region [ (oN 10 (.mov (.t 8))), (oN 5 (.mov (.t 10)))] [9, 10]) (.seq (.region [ (oN 11 (.mov (.t 1))), (oN 12 (.mov (.t 0))), (oN 13 (.mov (.t 5))), (oN 14 (.idx 5 (.t 12) (.t 13))), (oN 15 (.load true 5 (.t 14))), (oN 16 (.callv (.t 11) [(.t 15)]))] [11, 12, 13, 14, 15]) (.cond (.t 16) (.seq (.region [ (oN 17 (.mov (.t 5))), (oN 4 (.mov (.t 17)))] [0, 1, 5, 7, 8, 16, 17]) (.ret)) (.skip))))) (.region [ (oN 18 (.bin .add (.t 8) (.c (.int .i64 1)))), (oN 8 (.mov (.t 18)))] [4, 5, 16, 18])))
def zaG : ACode := .seq (.region [ (oN 4 (.mov (.c (.int .i64 (-1)))))] [0, 1, 7, 8]) (.ret)
def za5 : ACode := .seq (.region [ (oN 4 (.mov (.c (.int .i64 0))))] [4]) (.seq (.seq (.region [ (oN 6 (.mov (.t 0))), (oN 7 (.len (.t 6))), (oN 8 (.mov (.c (.int .i64 0))))] [6]) (.block 0 (.loop zaL))) (zaG))
def zak : List ARet := [.tmp 4]
theorem zcH : zT Tryz.prog zV (qRo []) = some (za5.strip, zak, 19) := by kernel_rfl
end Go.Ab
namespace Go.Ab
def zbr (k : Int) : Bool := decide (k = 4 ∨ k = 5)
mutual
def coll (p : NdF → List Int) : Nd → List Int
  | .mk f _ l => p f ++ zis p l
def zis (p : NdF → List Int) : List Nd → List Int
  | [] => []
  | x :: l => coll p x ++ zis p l
end
def labP (f : NdF) : List Int := if f.kind = 10 then [f.label] else []
def blkP (f : NdF) : List Int := if f.kind = 2 ∨ f.kind = 5 then [f.block] else []
mutual
theorem ztc (p : NdF → List Int) : ∀ n : Nd, coll p n = (allN n).flatMap fun x => p x.f
  | .mk f c l => by rw [coll, allN, List.flatMap_cons, zqa p l]; rfl
theorem zqa (p : NdF → List Int) : ∀ l : List Nd, zis p l = (zdM l).flatMap fun x => p x.f
  | [] => by rw [zis, zdM]; rfl
  | x :: l => by rw [zis, zdM, List.flatMap_append, ztc p x, zqa p l]
end
theorem zdh : ∀ {l : List Nd} {y : Nd}, y ∈ l → za7 y ≤ za4 l
  | [], y, hy => by simp at hy
  | a :: l, y, hy => by
    rw [za4]
    rcases List.mem_cons.1 hy with rfl | hy
    · omega
    · have := zdh hy; omega
end Go.Ab
namespace Go.Ab
open Go.RowKit Go.Proofs
theorem fldP {off n m : Nat} {c : List AV} {H : AH} {nx : Nat} : zbz off n (encP m c) H nx = ⟨off + n ≤ m, True, .iptr n (fun j => c.getD (off + j) .undef), H, nx⟩ := rfl
theorem zfT {n m : Nat} {c : List AV} {H : AH} {nx : Nat} : zcx true n (encP m c) H nx = ⟨n ≤ m, (AV.agg (tab (fun j => c.getD j .undef) n 0)).wf, .agg (tab (fun j => c.getD j .undef) n 0), H, nx⟩ := rfl
theorem za1 : ∀ {e : Ex}, (encX e).length = 5
  | .mk _ _ _ _ _ => by rw [zgs]; rfl
theorem zam : ∀ {e : Nd}, (encN e).length = 5
  | .mk _ _ _ => by rw [zbs]; rfl
theorem zar : ∀ {e : Ex}, [(encX e).getD 0 .undef, (encX e).getD 1 .undef, (encX e).getD 2 .undef, (encX e).getD 3 .undef, (encX e).getD 4 .undef] = encX e
  | .mk _ _ _ _ _ => by rw [zgs]; rfl
theorem zK : ∀ {e : Nd}, [(encN e).getD 0 .undef, (encN e).getD 1 .undef, (encN e).getD 2 .undef, (encN e).getD 3 .undef, (encN e).getD 4 .undef] = encN e
  | .mk _ _ _ => by rw [zbs]; rfl
theorem zq : ∀ {e : Ex}, zG (encX e) = true
  | .mk _ _ _ _ _ => by rw [zgs]; rfl
theorem zaq : ∀ {e : Nd}, zG (encN e) = true
  | .mk _ _ _ => by rw [zbs]; rfl
theorem flX {r : List AV} (h : r.all AV.flat = true) : ∀ {e : Ex}, (AV.agg (encX e) :: r).all AV.flat = true
  | .mk _ _ _ _ _ => by rw [zgs, List.all_cons, h]; rfl
theorem flN {r : List AV} (h : r.all AV.flat = true) : ∀ {e : Nd}, (AV.agg (encN e) :: r).all AV.flat = true
  | .mk _ _ _ => by rw [zbs, List.all_cons, h]; rfl
mutual
def zfV : Ex → Nat
  | .mk _ _ _ _ l => 1 + zsO l
def zsO : List Ex → Nat
  | [] => 0
  | e :: l => zfV e + zsO l
end
theorem zgA : ∀ {l : List Ex} {y : Ex}, y ∈ l → zfV y ≤ zsO l
  | [], y, hy => by simp at hy
  | a :: l, y, hy => by
    rw [zsO]
    rcases List.mem_cons.1 hy with rfl | hy
    · omega
    · have := zgA hy; omega
mutual
theorem zf4 : ∀ (e : Ex) (m n : Int), -1 ≤ n → -1 ≤ zik e m n ∧ (zik e m n ≤ n)
  | .mk _ _ _ _ l, m, n, h => by
    rw [zik]
    split
    · omega
    · rename_i hc
      have := zkb l (m - 1) (n - 1) (by omega)
      omega
theorem zkb : ∀ (l : List Ex) (m n : Int), -1 ≤ n → -1 ≤ zc6 l m n ∧ zc6 l m n ≤ n
  | [], m, n, h => by rw [zc6]; omega
  | e :: l, m, n, h => by
    rw [zc6]
    split
    · omega
    · have h1 := zf4 e m n h
      have := zkb l m _ h1.1
      omega
end
theorem zpP {l : List Ex} {i : Nat} {m n : Int} (h : i < l.length) (hn : 0 ≤ n) : zc6 (l.drop i) m n = zc6 (l.drop (i + 1)) m (zik l[i] m n) := by
  rw [List.drop_eq_getElem_cons h, zc6, if_neg (by omega)]
theorem zrv {l : List Ex} {m n : Int} (hn : n < 0) : zc6 l m n = n := by
  cases l with
  | nil => rw [zc6]
  | cons a l => rw [zc6, if_pos hn]
theorem zlu : ∀ (k : Nat) (e : Ex) (m n : Int), zfV e ≤ k → -1000 ≤ m → m ≤ 1000 → -1 ≤ n → n ≤ 1000 → zk Tryz.prog zd6 [.agg (encX e), .int .i64 m, .int .i64 n] (· = .int .i64 (zik e m n)) := by
  intro k
  induction k with
  | zero => intro e m n h; obtain ⟨_, _, _, _, l⟩ := e; rw [zfV] at h; omega
  | succ k ih =>
  intro e m n hk h1 h2 h3 h4
  obtain ⟨op, nn, v, w, l⟩ := e
  refine fn_x zqG rfl ?_
  unfold zlP
  have hB := hBig
  rw [zfV] at hk
  have hR := zf4 (.mk op nn v w l) m n h3
  rw [zik] at hR ⊢
  generalize hE : encX (.mk op nn v w l) = E
  rw [zgs] at hE
  subst hE
  by_cases c1 : m < 1
  · rw [if_pos (.inl c1)]
    (repeat first | simp (disch := try exact dis1) only [evD, Nat.reduceBEq, Nat.reduceAdd, Nat.reduceLeDiff, dT, zdb] | with_reducible intro _ | ((with_reducible apply And.intro); omega))
    exact ⟨_, .int _ _ _, rfl⟩
  by_cases c2 : n < 1
  · rw [if_pos (.inr (.inl c2))]
    (repeat first | simp (disch := try exact dis1) only [evD, Nat.reduceBEq, Nat.reduceAdd, Nat.reduceLeDiff, dT, dF, zdb] | with_reducible intro _ | ((with_reducible apply And.intro); omega))
    exact ⟨_, .int _ _ _, rfl⟩
  by_cases c3 : 4 < l.length
  · rw [if_pos (.inr (.inr c3))]
    (repeat first | simp (disch := try exact dis1) only [evD, Nat.reduceBEq, Nat.reduceAdd, Nat.reduceLeDiff, dT, dF, zdb] | with_reducible intro _ | ((with_reducible apply And.intro); omega))
    exact ⟨_, .int _ _ _, rfl⟩
  rw [if_neg (by omega)] at hR ⊢
  (repeat first | simp (disch := try exact dis1) only [evD, Nat.reduceBEq, Nat.reduceAdd, Nat.reduceLeDiff, dF] | with_reducible intro _ | ((with_reducible apply And.intro); omega))
  generalize hG : zc6 l (m - 1) (n - 1) = R at hR ⊢
  refine zm (fun s : Nat × Int => ([(1, .int .i64 m), (3, encP 5 [.int .i64 op, .int .u32 nn, .int .i64 v, .int .i64 w, encL 5 encX l]), (7, .int .i64 s.2), (8, .int .i64 s.1)], [])) 0 (fun s => s.1 ≤ l.length ∧ -1 ≤ s.2 ∧ s.2 ≤ n ∧ zc6 (l.drop s.1) (m - 1) s.2 = R) (fun s => l.length - s.1) (0, n - 1) ⟨Nat.zero_le _, by simp only; omega, by simp only; omega, hG⟩ (Ent.keep rfl fin5) ?_
  rintro ⟨i, x⟩ ⟨hi, hx1, hx2, hgo⟩ wf
  simp only at hi hx1 hx2 hgo
  unfold ziF
  by_cases hl : i < l.length
  · by_cases hx : 0 ≤ x
    · rw [zpP hl hx] at hgo
      have hm := zgA (List.getElem_mem hl)
      have hr := zf4 l[i] (m - 1) x hx1
      (repeat first | simp (disch := try exact dis1) only [evD, Nat.reduceBEq, Nat.reduceAdd, Nat.reduceLeDiff, fldP, dT, dF, zo hl, za1, zar] | with_reducible intro _ | ((with_reducible apply And.intro); omega))
      refine ze (zh (ih l[i] (m - 1) x (by omega) (by omega) (by omega) (by omega) (by omega)) (flX rfl)) ?_
      (repeat first | simp (disch := try exact dis1) only [evD, Nat.reduceBEq, Nat.reduceAdd, Nat.reduceLeDiff] | with_reducible intro _ | ((with_reducible apply And.intro); omega))
      exact ⟨(i + 1, zik l[i] (m - 1) x), ⟨by simp only; omega, by simp only; omega, by simp only; omega, hgo⟩, by simp only; omega, Ent.keep rfl fin5⟩
    · rw [zrv (by omega)] at hgo
      subst hgo
      (repeat first | simp (disch := try exact dis1) only [evD, Nat.reduceBEq, Nat.reduceAdd, Nat.reduceLeDiff, fldP, dT, dF] | with_reducible intro _ | ((with_reducible apply And.intro); omega))
      unfold zft
      (repeat first | simp (disch := try exact dis1) only [evD, Nat.reduceBEq, Nat.reduceAdd, Nat.reduceLeDiff, zdb] | with_reducible intro _ | ((with_reducible apply And.intro); omega))
      exact ⟨_, .int _ _ _, rfl⟩
  · rw [List.drop_of_length_le (by omega), zc6] at hgo
    subst hgo
    (repeat first | simp (disch := try exact dis1) only [evD, Nat.reduceBEq, Nat.reduceAdd, Nat.reduceLeDiff, fldP, dT, dF] | with_reducible intro _ | ((with_reducible apply And.intro); omega))
    unfold zft
    (repeat first | simp (disch := try exact dis1) only [evD, Nat.reduceBEq, Nat.reduceAdd, Nat.reduceLeDiff, zdb] | with_reducible intro _ | ((with_reducible apply And.intro); omega))
    exact ⟨_, .int _ _ _, rfl⟩
theorem zlv {l : List Ex} {i : Nat} (h : i < l.length) : zd4 (l.drop i) = if zik l[i] 70 200 < 0 then false else zd4 (l.drop (i + 1)) := by
  rw [List.drop_eq_getElem_cons h, zd4]
mutual
theorem zka : ∀ (e : Nd) (n : Int), -1 ≤ n → -2 ≤ zcs e n ∧ zcs e n ≤ max n (-1)
  | .mk _ _ l, n, h => by
    rw [zcs]
    split
    · omega
    · have := zjy l (n - 1) (by omega)
      omega
theorem zjy : ∀ (l : List Nd) (n : Int), -2 ≤ n → -2 ≤ zaw l n ∧ zaw l n ≤ max n (-1)
  | [], n, h => by rw [zaw]; omega
  | e :: l, n, h => by
    rw [zaw]
    split
    · omega
    · have h1 := zka e n (by omega)
      have := zjy l _ h1.1
      omega
end
theorem zo7 {l : List Nd} {i : Nat} {n : Int} (h : i < l.length) (hn : 0 ≤ n) : zaw (l.drop i) n = zaw (l.drop (i + 1)) (zcs l[i] n) := by
  rw [List.drop_eq_getElem_cons h, zaw, if_neg (by omega)]
theorem zqg {l : List Nd} {n : Int} (hn : n < 0) : zaw l n = n := by
  cases l with
  | nil => rw [zaw]
  | cons a l => rw [zaw, if_pos hn]
theorem zpu : ∀ (k : Nat) (e : Nd) (n : Int), za7 e ≤ k → -1 ≤ n → n ≤ 1000 → zk Tryz.prog zem [.agg (encN e), .int .i64 n] (· = .int .i64 (zcs e n)) := by
  intro k
  induction k with
  | zero => intro e n h; obtain ⟨_, _, l⟩ := e; rw [za7] at h; omega
  | succ k ih =>
  intro e n hk h3 h4
  obtain ⟨⟨kd, bl, lb⟩, c, l⟩ := e
  refine fn_x zpr rfl ?_
  unfold zkL
  have hB := hBig
  rw [za7] at hk
  rw [zcs]
  generalize hE : encN (.mk ⟨kd, bl, lb⟩ c l) = E
  rw [zbs] at hE
  simp only at hE
  subst hE
  by_cases c1 : 3 < c.length
  · rw [if_pos (.inl c1)]
    (repeat first | simp (disch := try exact dis1) only [evD, Nat.reduceBEq, Nat.reduceAdd, Nat.reduceLeDiff, dT, zdw] | with_reducible intro _ | ((with_reducible apply And.intro); omega))
    exact ⟨_, .int _ _ _, rfl⟩
  (repeat first | simp (disch := try exact dis1) only [evD, Nat.reduceBEq, Nat.reduceAdd, Nat.reduceLeDiff, dF] | with_reducible intro _ | ((with_reducible apply And.intro); omega))
  generalize hR : (if 3 < c.length ∨ zd4 c = false then -1 else zaw l (n - 1)) = R
  refine zm (fun i : Nat => ([(1, .int .i64 (n - 1)), (2, encP 5 [.int .i64 kd, .int .i64 bl, .int .i64 lb, encL 5 encX c, encL 5 encN l]), (5, .int .i64 i)], [])) 0 (fun i => i ≤ c.length ∧ zd4 (c.drop i) = zd4 c) (fun i => c.length - i) 0 ⟨Nat.zero_le _, rfl⟩ (Ent.keep rfl fin5) ?_
  rintro i ⟨hi, hgo⟩ wf
  unfold zhG
  by_cases hl : i < c.length
  · rw [zlv hl] at hgo
    (repeat first | simp (disch := try exact dis1) only [evD, Nat.reduceBEq, Nat.reduceAdd, Nat.reduceLeDiff, fldP, dT, dF, zo hl, za1, zar] | with_reducible intro _ | ((with_reducible apply And.intro); omega))
    refine ze (zh (zlu _ c[i] 70 200 (Nat.le_refl _) (by omega) (by omega) (by omega) (by omega)) (flX rfl)) ?_
    (repeat first | simp (disch := try exact dis1) only [evD, Nat.reduceBEq, Nat.reduceAdd, Nat.reduceLeDiff] | with_reducible intro _ | ((with_reducible apply And.intro); omega))
    (refine zp (fun h => ?_) (fun h => ?_)) <;> (try simp only [dcd] at h)
    · rw [if_pos h] at hgo
      rw [if_pos (.inr hgo.symm)] at hR
      rw [← hR]
      (repeat first | simp (disch := try exact dis1) only [evD, Nat.reduceBEq, Nat.reduceAdd, Nat.reduceLeDiff, zdw] | with_reducible intro _ | ((with_reducible apply And.intro); omega))
      exact ⟨_, .int _ _ _, rfl⟩
    · rw [if_neg (by omega)] at hgo
      (repeat first | simp (disch := try exact dis1) only [evD, Nat.reduceBEq, Nat.reduceAdd, Nat.reduceLeDiff] | with_reducible intro _ | ((with_reducible apply And.intro); omega))
      exact ⟨i + 1, ⟨by omega, hgo⟩, by omega, Ent.keep rfl fin5⟩
  · rw [List.drop_of_length_le (by omega), zd4] at hgo
    rw [if_neg (by rw [← hgo]; simp [c1])] at hR
    (repeat first | simp (disch := try exact dis1) only [evD, Nat.reduceBEq, Nat.reduceAdd, Nat.reduceLeDiff, fldP, dT, dF] | with_reducible intro _ | ((with_reducible apply And.intro); omega))
    unfold zhP
    (repeat first | simp (disch := try exact dis1) only [evD, Nat.reduceBEq, Nat.reduceAdd, Nat.reduceLeDiff] | with_reducible intro _ | ((with_reducible apply And.intro); omega))
    have hwr : R = zaw l (n - 1) := hR.symm
    refine zm (fun s : Nat × Int => ([(1, .int .i64 s.2), (2, encP 5 [.int .i64 kd, .int .i64 bl, .int .i64 lb, encL 5 encX c, encL 5 encN l]), (6, .int .i64 s.1)], [])) 0 (fun s => s.1 ≤ l.length ∧ -2 ≤ s.2 ∧ s.2 ≤ 1000 ∧ zaw (l.drop s.1) s.2 = R) (fun s => l.length - s.1) (0, n - 1) ⟨Nat.zero_le _, by simp only; omega, by simp only; omega, hR⟩ (Ent.keep rfl fin5) ?_
    rintro ⟨j, x⟩ ⟨hj, hx1, hx2, hgo2⟩ wf2
    simp only at hj hx1 hx2 hgo2
    unfold zhM
    by_cases hjl : j < l.length
    · by_cases hx : 0 ≤ x
      · rw [zo7 hjl hx] at hgo2
        have hm := zdh (List.getElem_mem hjl)
        have hr := zka l[j] x (by omega)
        (repeat first | simp (disch := try exact dis1) only [evD, Nat.reduceBEq, Nat.reduceAdd, Nat.reduceLeDiff, fldP, dT, dF, zo hjl, zam, zK] | with_reducible intro _ | ((with_reducible apply And.intro); omega))
        refine ze (zh (ih l[j] x (by omega) (by omega) (by omega)) (flN rfl)) ?_
        (repeat first | simp (disch := try exact dis1) only [evD, Nat.reduceBEq, Nat.reduceAdd, Nat.reduceLeDiff] | with_reducible intro _ | ((with_reducible apply And.intro); omega))
        exact ⟨(j + 1, zcs l[j] x), ⟨by simp only; omega, by simp only; omega, by simp only; omega, hgo2⟩, by simp only; omega, Ent.keep rfl fin5⟩
      · rw [zqg (by omega)] at hgo2
        subst hgo2
        (repeat first | simp (disch := try exact dis1) only [evD, Nat.reduceBEq, Nat.reduceAdd, Nat.reduceLeDiff, fldP, dT, dF] | with_reducible intro _ | ((with_reducible apply And.intro); omega))
        unfold zez
        (repeat first | simp (disch := try exact dis1) only [evD, Nat.reduceBEq, Nat.reduceAdd, Nat.reduceLeDiff, zdw] | with_reducible intro _ | ((with_reducible apply And.intro); omega))
        exact ⟨_, .int _ _ _, rfl⟩
    · rw [List.drop_of_length_le (by omega), zaw] at hgo2
      subst hgo2
      (repeat first | simp (disch := try exact dis1) only [evD, Nat.reduceBEq, Nat.reduceAdd, Nat.reduceLeDiff, fldP, dT, dF] | with_reducible intro _ | ((with_reducible apply And.intro); omega))
      unfold zez
      (repeat first | simp (disch := try exact dis1) only [evD, Nat.reduceBEq, Nat.reduceAdd, Nat.reduceLeDiff, zdw] | with_reducible intro _ | ((with_reducible apply And.intro); omega))
      exact ⟨_, .int _ _ _, rfl⟩
def zsA (e : Nd) : Bool := decide (zcs e 300 ≥ 0)
theorem zpJ (e : Nd) : zk Tryz.prog zg9 [.agg (encN e)] (· = .bool (zsA e)) := by
  refine fn_x zp7 rfl ?_
  unfold zlt
  have hB := hBig
  have h1 := zam (e := e)
  (repeat first | simp (disch := try exact dis1) only [evD, Nat.reduceBEq, Nat.reduceAdd, Nat.reduceLeDiff, zam, zaq, zK] | with_reducible intro _ | ((with_reducible apply And.intro); omega))
  refine ze (zh (zpu _ e 300 (Nat.le_refl _) (by omega) (by omega)) (flN rfl)) ?_
  (repeat first | simp (disch := try exact dis1) only [evD, Nat.reduceBEq, Nat.reduceAdd, Nat.reduceLeDiff, zlB] | with_reducible intro _ | ((with_reducible apply And.intro); omega))
  exact ⟨_, .bool _ _, rfl⟩
end Go.Ab
