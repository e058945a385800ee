/-
  Part 6 of the proof: how the calls of this program run, over values instead of memory, and what each function computes.
-/
import Derived.Test.YtdhlfajcofgpkaaGreatRows
import Derived.WalkKit
import Derived.OpenShut
import Derived.ShutString
import Derived.ChangeOld
import Derived.Below
import Derived.Test.YtdhlfajcofgpkaaGreatProg
import Derived.KernelRfl
import Derived.Test.YtdhlfajcofgpkaaGreatKe
set_option maxRecDepth 100000
set_option linter.unusedVariables false
set_option linter.unusedSimpArgs false
set_option linter.unnecessarySimpa false
set_option linter.unusedSectionVars false

namespace Go.Ab
open Go.RowKit
inductive Ex where
  | mk (op n var width : Int) (l : List Ex)
structure NdF where
  kind : Int
  block : Int
  label : Int
inductive Nd where
  | mk (f : NdF) (cond : List Ex) (l : List Nd)
def Ex.l : Ex → List Ex
  | .mk _ _ _ _ l => l
mutual
def encX : Ex → List AV
  | .mk op n v w l => [.int .i64 op, .int .u32 n, .int .i64 v, .int .i64 w, .sl 5 l.length (fun i j => ((ztE l).getD i []).getD j .undef)]
def ztE : List Ex → List (List AV)
  | [] => []
  | e :: l => encX e :: ztE l
end
theorem zoO : ∀ l : List Ex, ztE l = l.map encX
  | [] => by rw [ztE]; rfl
  | e :: l => by rw [ztE, zoO l]; rfl
theorem zcf (op n v w : Int) (l : List Ex) : encX (.mk op n v w l) = [.int .i64 op, .int .u32 n, .int .i64 v, .int .i64 w, encL 5 encX l] := by
  rw [encX, zoO]
  rfl
mutual
def encN : Nd → List AV
  | .mk f c l => [.int .i64 f.kind, .int .i64 f.block, .int .i64 f.label, encL 5 encX c, .sl 5 l.length (fun i j => ((zuJ l).getD i []).getD j .undef)]
def zuJ : List Nd → List (List AV)
  | [] => []
  | e :: l => encN e :: zuJ l
end
theorem zoH : ∀ l : List Nd, zuJ l = l.map encN
  | [] => by rw [zuJ]; rfl
  | e :: l => by rw [zuJ, zoH l]; rfl
theorem ztr (f : NdF) (c : List Ex) (l : List Nd) : encN (.mk f c l) = [.int .i64 f.kind, .int .i64 f.block, .int .i64 f.label, encL 5 encX c, encL 5 encN l] := by
  rw [encN, zoH]
  rfl
mutual
def ze6 : Ex → Int → Int → Int
  | .mk _ _ _ _ l, most, left => if most < 1 ∨ left < 1 ∨ 4 < l.length then -1 else zaP l (most - 1) (left - 1)
def zaP : List Ex → Int → Int → Int
  | [], _, n => n
  | e :: l, most, n => if n < 0 then n else zaP l most (ze6 e most n)
end
end Go.Ab
namespace Go.Ab
open Go.RowKit Go.Proofs Go.Proofs.YtdhlfajcofgpkaaGreat
section
variable {HH : Type} {enc : TypeId × Value → HH} {w : World} {base : Nat} {spare : Nat → Bool} {held : Bool} {L : Nat → Prop} (hL : ∀ b, ¬ L b)
include hL
theorem zoD {P : Program} {α : Type} {cells : α → List AV} {t e : TypeId} {sz : Nat} {fuel : Nat} (ht : P.underlying t = some (.slice e)) (hs : P.cellsOf e = sz)
    (hel : ∀ fuel', fuel' < fuel → ∀ cs y, DataW.trod enc P w base spare held fuel' e cs = some y → cs.length = sz → ∃ x : α, ElOk w L cs (cells x)) {cs : List Value} {y : DataW HH × List MemPlace}
    (h : DataW.trod enc P w base spare held fuel t cs = some y) : ∃ (l : List α) (v : Value), cs = [v] ∧ v.oneCell' = true ∧ ∀ ι, VR w L ι v (encL sz cells l) := by
  rcases DataW.trod_slice ht h with ⟨rfl, rfl⟩ | ⟨a, len, cap, elems, rest, n, rfl, rfl, rfl, hb, hl, hc, he, hi, _, _⟩
  · exact ⟨[], _, rfl, rfl, fun ι => .sl0 _ _ _⟩
  · rw [hs] at hi
    have key : ∀ i : Fin len, ∃ p : α × List Value, p.2.length = sz ∧ (∀ j, j < sz → w.cell? ((a.add (i.1 * sz)).add j) = some (p.2.getD j undef)) ∧ ElOk w L p.2 (cells p.1) := by
      intro i
      have h1 := hi i.1 i.2
      rw [List.getElem?_eq_getElem (by omega), Option.bind_eq_some_iff] at h1
      obtain ⟨cs', h2, h3⟩ := h1
      obtain ⟨h4, h5⟩ := znL h2
      obtain ⟨x, hx⟩ := hel _ (Nat.lt_succ_self _) _ _ h3 h4
      exact ⟨(x, cs'), h4, h5, hx⟩
    obtain ⟨F, hF⟩ := Classical.axiomOfChoice key
    refine ⟨List.ofFn fun i => (F i).1, _, rfl, rfl, fun ι => ?_⟩
    have hlen : (List.ofFn fun i => (F i).1).length = len := List.length_ofFn
    unfold encL
    rw [hlen]
    refine .sl ι a sz len cap _ (fun i j => if hi : i < len then (F ⟨i, hi⟩).2.getD j undef else undef) hl (by unfold maxLen at hc; unfold big; omega) (fun i j hi hj => ?_) (fun _ => hL _) (fun i j hi hj => ?_)
    · obtain ⟨h1, h2, h3⟩ := hF ⟨i, hi⟩
      rw [dif_pos hi]
      exact ⟨h2 j hj, (h3 j (by omega)).2⟩
    · obtain ⟨h1, h2, h3⟩ := hF ⟨i, hi⟩
      rw [dif_pos hi]
      have e : ((List.ofFn fun i => (F i).1).map cells).getD i [] = cells (F ⟨i, hi⟩).1 := by
        rw [zhl (a := (F ⟨i, hi⟩).1)]
        rw [List.getElem?_eq_getElem (by rw [hlen]; exact hi), List.getElem_ofFn]
      rw [e]
      exact (h3 j (by omega)).1
theorem zxu : ∀ (k fuel : Nat), fuel ≤ k → ∀ (cs : List Value) (y : DataW HH × List MemPlace), DataW.trod enc Tryz.prog w base spare held fuel 66 cs = some y → ∃ e : Ex, ElOk w L cs (encX e) := by
  intro k
  induction k with
  | zero =>
    intro fuel hk cs y h
    obtain ⟨xs, n, h0, _⟩ := DataW.trod_struct Tryz.underlying66 h
    omega
  | succ k ih =>
  intro fuel hk cs y h
  obtain ⟨xs, n, rfl, rfl, hlen, hxs, hf⟩ := DataW.trod_struct Tryz.underlying66 h
  have hc : Tryz.prog.cellsOf 66 = 5 := by kernel_rfl
  have hc3 : Tryz.prog.cellsOf 3 = 1 := by kernel_rfl
  have hc22 : Tryz.prog.cellsOf 22 = 1 := by kernel_rfl
  have hc52 : Tryz.prog.cellsOf 52 = 1 := by kernel_rfl
  rw [hc] at hlen
  have hget : ∀ i, i < 5 → xs[i]? = some (xs.getD i (.nil, [])) := fun i hi => by
    rw [List.getD_eq_getElem?_getD, List.getElem?_eq_getElem (by rw [hxs]; exact hi)]
    rfl
  match cs, hlen with
  | [c0, c1, c2, c3, c4], _ =>
    have f0 : DataW.trod enc Tryz.prog w base spare held n 3 (([c0, c1, c2, c3, c4].drop 0).take (Tryz.prog.cellsOf 3)) = some (xs.getD 0 (.nil, [])) := (hf 0 _ rfl).trans (hget 0 (by decide))
    rw [hc3] at f0
    replace f0 : DataW.trod enc Tryz.prog w base spare held n 3 [c0] = some (xs.getD 0 (.nil, [])) := f0
    have f1 : DataW.trod enc Tryz.prog w base spare held n 22 (([c0, c1, c2, c3, c4].drop 1).take (Tryz.prog.cellsOf 22)) = some (xs.getD 1 (.nil, [])) := (hf 1 _ rfl).trans (hget 1 (by decide))
    rw [hc22] at f1
    replace f1 : DataW.trod enc Tryz.prog w base spare held n 22 [c1] = some (xs.getD 1 (.nil, [])) := f1
    have f2 : DataW.trod enc Tryz.prog w base spare held n 3 (([c0, c1, c2, c3, c4].drop 2).take (Tryz.prog.cellsOf 3)) = some (xs.getD 2 (.nil, [])) := (hf 2 _ rfl).trans (hget 2 (by decide))
    rw [hc3] at f2
    replace f2 : DataW.trod enc Tryz.prog w base spare held n 3 [c2] = some (xs.getD 2 (.nil, [])) := f2
    have f3 : DataW.trod enc Tryz.prog w base spare held n 3 (([c0, c1, c2, c3, c4].drop 3).take (Tryz.prog.cellsOf 3)) = some (xs.getD 3 (.nil, [])) := (hf 3 _ rfl).trans (hget 3 (by decide))
    rw [hc3] at f3
    replace f3 : DataW.trod enc Tryz.prog w base spare held n 3 [c3] = some (xs.getD 3 (.nil, [])) := f3
    have f4 : DataW.trod enc Tryz.prog w base spare held n 52 (([c0, c1, c2, c3, c4].drop 4).take (Tryz.prog.cellsOf 52)) = some (xs.getD 4 (.nil, [])) := (hf 4 _ rfl).trans (hget 4 (by decide))
    rw [hc52] at f4
    replace f4 : DataW.trod enc Tryz.prog w base spare held n 52 [c4] = some (xs.getD 4 (.nil, [])) := f4
    obtain ⟨n0, h0, w0⟩ := zfD Tryz.underlying3 f0
    obtain ⟨n1, h1, w1⟩ := zfD Tryz.underlying22 f1
    obtain ⟨n2, h2, w2⟩ := zfD Tryz.underlying3 f2
    obtain ⟨n3, h3, w3⟩ := zfD Tryz.underlying3 f3
    obtain ⟨l4, v4, h4, o4, w4⟩ := zoD (L := L) (α := Ex) (cells := encX) hL Tryz.underlying52 hc (fun fuel' hf' cs y h _ => ih fuel' (by omega) cs y h) f4
    cases h0; cases h1; cases h2; cases h3; cases h4
    refine ⟨.mk n0 n1 n2 n3 l4, fun j hj => ?_⟩
    rw [zcf]
    match j with
    | 0 => exact ⟨.int _ _ _ w0, rfl⟩
    | 1 => exact ⟨.int _ _ _ w1, rfl⟩
    | 2 => exact ⟨.int _ _ _ w2, rfl⟩
    | 3 => exact ⟨.int _ _ _ w3, rfl⟩
    | 4 => exact ⟨w4 _, o4⟩
    | j + 5 => exact absurd hj (by simp)
end
theorem zv3 {H : AH} {v : AV} {b : Bool} (h : Frz H v (.bool b)) : v = .bool b := by
  unfold Frz at h
  generalize he : AV.bool b = x at h
  cases h <;> first | (cases he; done) | (cases he; rfl)
theorem row_true {P : Program} {f : FuncId} {args : List AV} {vs : Array Value} {w : World} (h : zD P f args (· = .bool true)) (hv : ∀ L : Nat → Prop, (∀ b, ¬ L b) → VRs w L noI vs.toList args) :
    Calls P f vs w fun e w' => e = .returned (.bool true) ∧ Below w.heap.size w w' := by
  have hno : ∀ b, ¬ Lt (fun _ => False) noI [] b := fun b hb => hb.elim (fun h => h) (zgO b)
  refine (h w (fun _ => False) noI vs (.empty (fun b hb => hb.elim)) (hv _ hno)).mono fun e w' ⟨v, ι', H', nx', a, h1, h2, _, h4, a2, h5, h6⟩ => ?_
  subst h1 h6
  have := zv3 h5
  subst this
  cases h4
  exact ⟨rfl, h2.ext.os, h2.ext.tape, h2.ext.output, h2.ext.size, fun k hk => h2.ext.block k hk (zgO k)⟩
end Go.Ab
namespace Go.Ab
def zeY : Nat := 5
def zib : Nat := 9
def zbE : Nat := 10
def zcX : Nat := 13
def zlp : Nat := 17
def zcV : Nat := 18
def zju : Nat := 19
def zbT : Nat := 20
def zbw : Nat := 21
def zbU : Nat := 22
def zhr : Nat := 23
def zbZ : Nat := 24
def zhp : Nat := 25
def zdM : Nat := 26
def zdq : Nat := 27
def ze0 : Nat := 28
def zdU : Nat := 33
def ztY : Nat := 34
def zuA : Nat := 35
def zpD : Nat := 36
def ztQ : Nat := 37
def zrB : Nat := 38
def zpO : Nat := 39
def zkh : Nat := 40
def zeO : Nat := 42
def zdj : Nat := 43
def za2 : Nat := 44
def zr : Nat := 45
def ze : Nat := 46
def zb7 : Nat := 47
def zcT : Nat := 48
def zae : Nat := 49
def zG : Nat := 53
def zN : Nat := 54
def zkK : Nat := 55
def zhx : Nat := 56
def zgc : Nat := 57
def zgd : Nat := 60
def zeA : Nat := 61
def zdG : Nat := 62
def zin : Nat := 63
def zdv : Nat := 64
def zcl : Nat := 65
def zaT : Nat := 66
def zc0 : Nat := 67
def zbL : Nat := 68
def zB : Nat := 69
def za0 : Nat := 70
def zdp : Nat := 71
def zhg : Nat := 78
def zhu : Nat := 79
def zeo : Nat := 80
def zbh : Nat := 81
def zdI : Nat := 84
def zlh : Nat := 85
def zbX : Nat := 86
def zR : Nat := 87
def zaG : Nat := 88
def zed : Nat := 89
def zdP : Nat := 90
def zfj : Nat := 91
def zak : Nat := 92
def zZ : Nat := 94
def zf3 : Nat := 100
def zcj : Nat := 102
def zi7 : Nat := 112
def zW : Nat := 113
def zaV : Nat := 114
def ze4 : Nat := 115
def zac : Nat := 116
def zef : Nat := 117
def zf4 : Nat := 118
def zfd : Nat := 144
def zO : Nat := 145
end Go.Ab
namespace Go.Ab
open Go.RowKit Go.Proofs
def zem : ACode := .seq (.region [ (oN 15 (.bin .lss (.t 14) (.t 13)))] []) (.seq (.cond (.t 15) (.skip) (.exit 0)) (.seq (.block 1 (.seq (.region [ (oN 16 (.idx 2 (.t 12) (.t 14))), (oN 17 (.load true 2 (.t 16))), (oN 5 (.alloc [.int .u32 0, .nilsl])), ⟨none, .store 2 (.t 5) (.t 17), none⟩] [15, 16, 17]) (.region [ (oN 18 (.mov (.t 3))), (oN 19 (.fldaddr 1 1 (.t 5))), (oN 20 (.load false 1 (.t 19))), (oN 21 (.len (.t 20))), (oN 22 (.bin .add (.t 18) (.t 21))), (oN 3 (.mov (.t 22)))] [5, 18, 19, 20, 21, 22]))) (.region [ (oN 23 (.bin .add (.t 14) (.c (.int .i64 1)))), (oN 14 (.mov (.t 23)))] [23])))
def zeG : ACode := .seq (.region [ (oN 46 (.bin .lss (.t 45) (.t 44)))] []) (.seq (.cond (.t 46) (.skip) (.exit 4)) (.seq (.block 5 (.seq (.region [ (oN 47 (.idx 8 (.t 43) (.t 45))), (oN 48 (.load true 8 (.t 47))), (oN 9 (.alloc [.int .i64 0, .int .i64 0, .int .i64 0, .int .i64 0, .int .i64 0, .int .u32 0, .nilsl, .nilsl])), ⟨none, .store 8 (.t 9) (.t 48), none⟩] [46, 47, 48]) (.seq (.region [ (oN 49 (.load true 8 (.t 9))), (oN 50 (.call zdv [(.t 49)])), (oN 10 (.mov (.t 50)))] [9, 49, 50]) (.seq (.region [ (oN 51 (.mov (.t 10))), (oN 52 (.bin .neq (.t 51) (.c (.int .i64 0))))] [51]) (.cond (.t 52) (.seq (.region [ (oN 53 (.mov (.t 10))), (oN 2 (.mov (.t 53)))] [10, 36, 37, 38, 43, 44, 45, 52, 53]) (.ret)) (.skip)))))) (.region [ (oN 54 (.bin .add (.t 45) (.c (.int .i64 1)))), (oN 45 (.mov (.t 54)))] [2, 10, 52, 54])))
def zeu : ACode := .region [ (oN 55 (.bin .add (.t 38) (.c (.int .i64 1)))), (oN 38 (.mov (.t 55)))] [43, 44, 45, 55]
def zeK : ACode := .seq (.region [ (oN 39 (.bin .lss (.t 38) (.t 37)))] []) (.seq (.cond (.t 39) (.skip) (.exit 2)) (.seq (.block 3 (.seq (.region [ (oN 40 (.idx 2 (.t 36) (.t 38))), (oN 41 (.load true 2 (.t 40))), (oN 7 (.alloc [.int .u32 0, .nilsl])), ⟨none, .store 2 (.t 7) (.t 41), none⟩] [39, 40, 41]) (.seq (.region [ (oN 42 (.fldaddr 1 1 (.t 7))), (oN 43 (.load false 1 (.t 42))), (oN 44 (.len (.t 43))), (oN 45 (.mov (.c (.int .i64 0))))] [7, 42]) (.block 4 (.loop zeG))))) (zeu)))
def zes : ACode := .seq (.region [ (oN 2 (.mov (.c (.int .i64 0))))] [36, 37, 38]) (.ret)
def zel : ACode := .seq (.seq (.region [ (oN 24 (.fldaddr 1 1 (.t 1))), (oN 25 (.load false 1 (.t 24))), (oN 26 (.len (.t 25))), (oN 27 (.bin .gtr (.t 26) (.c (.int .i64 256)))), (oN 28 (.mov (.t 27))), (oG 29 28 false (.mov (.t 3))), (oG 30 28 false (.bin .gtr (.t 29) (.c (.int .i64 1024)))), (oN 31 (.pick (.t 28) (.c (.bool true)) (.t 30)))] [3, 12, 13, 14, 24, 25, 26, 27, 28, 29, 30]) (.cond (.t 31) (.seq (.region [ (oN 2 (.mov (.c (.int .i64 6))))] [1, 31]) (.ret)) (.skip))) (.seq (.seq (.region [ (oN 32 (.load true 2 (.t 1))), (oN 33 (.call zin [(.t 32)])), (oN 34 (.un .not (.t 33)))] [2, 31, 32, 33]) (.cond (.t 34) (.seq (.region [ (oN 2 (.mov (.c (.int .i64 18))))] [1, 34]) (.ret)) (.skip))) (.seq (.seq (.region [ (oN 35 (.fldaddr 1 1 (.t 1))), (oN 36 (.load false 1 (.t 35))), (oN 37 (.len (.t 36))), (oN 38 (.mov (.c (.int .i64 0))))] [1, 2, 34, 35]) (.block 2 (.loop zeK))) (zes)))
def zgp : ACode := .seq (.region [ (oN 1 (.rbox (.t 0))), (oN 2 (.mov (.c (.int .i64 0))))] [0, 2]) (.seq (.region [ (oN 3 (.mov (.c (.int .i64 0))))] []) (.seq (.seq (.region [ (oN 11 (.fldaddr 1 1 (.t 1))), (oN 12 (.load false 1 (.t 11))), (oN 13 (.len (.t 12))), (oN 14 (.mov (.c (.int .i64 0))))] [11]) (.block 0 (.loop zem))) (zel)))
def zaY : List ARet := [.tmp 2]
theorem zke : zad Tryz.prog zeO (qRo [1]) = some (zgp.strip, zaY, 56) := by kernel_rfl
def zhT : ACode := .seq (.region [ (oN 1 (.rbox (.t 0))), (oN 2 (.mknil 1))] [0, 2]) (.seq (.seq (.region [ (oN 3 (.fldaddr 0 1 (.t 1))), (oN 4 (.load false 1 (.t 3)))] [3]) (.block 0 (.seq (.region [ (oN 6 (.bin .eql (.t 4) (.c (.int .i64 6)))), (oN 5 (.mov (.t 6)))] [6]) (.cond (.t 5) (.seq (.region [ (oN 7 (.fldaddr 3 1 (.t 1))), (oN 8 (.load false 1 (.t 7))), (oN 9 (.buildSl 1 1 [.int .i64 0] [(0, (.t 8))])), (oN 2 (.mov (.t 9)))] [1, 4, 5, 7, 8, 9]) (.ret)) (.seq (.region [ (oN 11 (.bin .eql (.t 4) (.c (.int .i64 7)))), (oN 10 (.mov (.t 11)))] [5, 11]) (.cond (.t 10) (.seq (.region [ (oN 12 (.fldaddr 3 1 (.t 1))), (oN 13 (.load false 1 (.t 12))), (oN 14 (.fldaddr 4 1 (.t 1))), (oN 15 (.load false 1 (.t 14))), (oN 16 (.buildSl 1 2 [.int .i64 0] [(0, (.t 13)), (1, (.t 15))])), (oN 2 (.mov (.t 16)))] [1, 4, 10, 12, 13, 14, 15, 16]) (.ret)) (.seq (.region [ (oN 18 (.bin .eql (.t 4) (.c (.int .i64 8)))), (oN 17 (.mov (.t 18)))] [4, 10, 18]) (.cond (.t 17) (.seq (.region [ (oN 19 (.fldaddr 7 1 (.t 1))), (oN 20 (.load false 1 (.t 19))), (oN 2 (.mov (.t 20)))] [1, 17, 19, 20]) (.ret)) (.skip))))))))) (.seq (.region [ (oN 2 (.mknil 1))] [1, 17]) (.ret)))
def zck : List ARet := [.tmp 2]
theorem zlT : zad Tryz.prog zgc (qRo [1]) = some (zhT.strip, zck, 21) := by kernel_rfl
def zg7 : ACode := .seq (.seq (.region [ (oN 23 (.mov (.t 8))), (oN 24 (.fldaddr 4 1 (.t 3))), (oN 25 (.load false 1 (.t 24))), (oN 26 (.len (.t 25))), (oN 27 (.bin .lss (.t 23) (.t 26))), (oN 28 (.mov (.t 27))), (oG 29 28 true (.mov (.t 7))), (oG 30 28 true (.bin .geq (.t 29) (.c (.int .i64 0)))), (oN 31 (.pick (.t 28) (.t 30) (.c (.bool false))))] [23, 24, 25, 26, 27, 28, 29, 30]) (.cond (.t 31) (.skip) (.exit 0))) (.seq (.block 1 (.region [ (oN 34 (.fldaddr 4 1 (.t 3))), (oN 35 (.load false 1 (.t 34))), (oN 36 (.mov (.t 8))), (oN 37 (.idx 5 (.t 35) (.t 36))), (oN 38 (.load true 5 (.t 37))), (oN 39 (.mov (.t 1))), (oN 40 (.bin .sub (.t 39) (.c (.int .i64 1)))), (oN 41 (.mov (.t 7))), (oN 42 (.call zgd [(.t 38), (.t 40), (.t 41)])), (oN 7 (.mov (.t 42)))] [31, 34, 35, 36, 37, 38, 39, 40, 41, 42])) (.region [ (oN 32 (.mov (.t 8))), (oN 33 (.bin .add (.t 32) (.c (.int .i64 1)))), (oN 8 (.mov (.t 33)))] [32, 33]))
def zej : ACode := .seq (.region [ (oN 43 (.mov (.t 7))), (oN 6 (.mov (.t 43)))] [1, 3, 7, 8, 43]) (.ret)
def zjG : ACode := .seq (.region [ (oN 3 (.rbox (.t 0))), (oN 6 (.mov (.c (.int .i64 0))))] [0, 6]) (.seq (.seq (.region [ (oN 9 (.mov (.t 1))), (oN 10 (.bin .lss (.t 9) (.c (.int .i64 1)))), (oN 11 (.mov (.t 10))), (oG 12 11 false (.mov (.t 2))), (oG 13 11 false (.bin .lss (.t 12) (.c (.int .i64 1)))), (oN 14 (.pick (.t 11) (.c (.bool true)) (.t 13))), (oN 15 (.mov (.t 14))), (oG 16 15 false (.fldaddr 4 1 (.t 3))), (oG 17 15 false (.load false 1 (.t 16))), (oG 18 15 false (.len (.t 17))), (oG 19 15 false (.bin .gtr (.t 18) (.c (.int .i64 4)))), (oN 20 (.pick (.t 15) (.c (.bool true)) (.t 19)))] [9, 10, 11, 12, 13, 14, 15, 16, 17, 18, 19]) (.cond (.t 20) (.seq (.region [ (oN 6 (.mov (.c (.int .i64 (-1)))))] [1, 2, 3, 20]) (.ret)) (.skip))) (.seq (.region [ (oN 21 (.mov (.t 2))), (oN 22 (.bin .sub (.t 21) (.c (.int .i64 1)))), (oN 7 (.mov (.t 22)))] [2, 6, 20, 21, 22]) (.seq (.seq (.region [ (oN 8 (.mov (.c (.int .i64 0))))] []) (.block 0 (.loop zg7))) (zej))))
def zcH : List ARet := [.tmp 6]
theorem zoV : zad Tryz.prog zgd (qRo [3]) = some (zjG.strip, zcH, 44) := by kernel_rfl
def zgD : ACode := .seq (.region [ (oN 14 (.bin .lss (.t 13) (.t 12)))] []) (.seq (.cond (.t 14) (.skip) (.exit 0)) (.seq (.block 1 (.seq (.region [ (oN 15 (.idx 2 (.t 11) (.t 13))), (oN 16 (.load true 2 (.t 15))), (oN 4 (.alloc [.int .u32 0, .nilsl])), ⟨none, .store 2 (.t 4) (.t 16), none⟩] [14, 15, 16]) (.seq (.region [ (oN 17 (.fldaddr 1 1 (.t 4))), (oN 18 (.load false 1 (.t 17))), (oN 19 (.len (.t 18))), (oN 5 (.mov (.t 19)))] [17, 18, 19]) (.seq (.seq (.region [ (oN 20 (.mov (.t 5))), (oN 21 (.bin .eql (.t 20) (.c (.int .i64 0)))), (oN 22 (.mov (.t 21))), (oG 23 22 false (.fldaddr 1 1 (.t 4))), (oG 24 22 false (.load false 1 (.t 23))), (oG 25 22 false (.mov (.t 5))), (oG 26 22 false (.bin .sub (.t 25) (.c (.int .i64 1)))), (oG 27 22 false (.idx 8 (.t 24) (.t 26))), (oG 28 22 false (.load true 8 (.t 27))), (oG 29 22 false (.call zbX [(.t 28)])), (oG 30 22 false (.un .not (.t 29))), (oN 31 (.pick (.t 22) (.c (.bool true)) (.t 30))), (oN 32 (.mov (.t 31))), (oG 33 32 false (.fldaddr 1 1 (.t 4))), (oG 34 32 false (.load false 1 (.t 33))), (oG 35 32 false (.mov (.t 5))), (oG 36 32 false (.bin .sub (.t 35) (.c (.int .i64 1)))), (oG 37 32 false (.slice 8 (.t 34) none (some (.t 36)))), (oG 38 32 false (.call zR [(.t 37), (.c (.fn (.func zbX) []))])), (oN 39 (.pick (.t 32) (.c (.bool true)) (.t 38)))] [5, 20, 21, 22, 23, 24, 25, 26, 27, 28, 29, 30, 31, 32, 33, 34, 35, 36, 37, 38]) (.cond (.t 39) (.seq (.region [ (oN 2 (.mov (.c (.bool false))))] [1, 4, 11, 12, 13, 39]) (.ret)) (.skip))) (.seq (.region [ (oN 40 (.load true 2 (.t 4))), (oN 41 (.call zc0 [(.t 40)])), (oN 42 (.mkfn (.func zed) [(.t 1)])), (oN 43 (.call zaG [(.t 41), (.t 42)]))] [2, 4, 39, 40, 41, 42]) (.cond (.t 43) (.seq (.region [ (oN 2 (.mov (.c (.bool false))))] [1, 11, 12, 13, 43]) (.ret)) (.skip))))))) (.region [ (oN 44 (.bin .add (.t 13) (.c (.int .i64 1)))), (oN 13 (.mov (.t 44)))] [2, 43, 44])))
def zhe : ACode := .seq (.region [ (oN 2 (.mov (.c (.bool true))))] [1, 11, 12, 13]) (.ret)
def zjK : ACode := .seq (.region [ (oN 1 (.rbox (.t 0))), (oN 2 (.mov (.c (.bool false))))] [0, 2]) (.seq (.seq (.region [ (oN 6 (.fldaddr 1 1 (.t 1))), (oN 7 (.load false 1 (.t 6))), (oN 8 (.len (.t 7))), (oN 9 (.bin .eql (.t 8) (.c (.int .i64 0))))] [6, 7, 8]) (.cond (.t 9) (.seq (.region [ (oN 2 (.mov (.c (.bool false))))] [1, 9]) (.ret)) (.skip))) (.seq (.seq (.region [ (oN 10 (.fldaddr 1 1 (.t 1))), (oN 11 (.load false 1 (.t 10))), (oN 12 (.len (.t 11))), (oN 13 (.mov (.c (.int .i64 0))))] [2, 9, 10]) (.block 0 (.loop zgD))) (zhe)))
def zbK : List ARet := [.tmp 2]
theorem zon : zad Tryz.prog zin (qRo [1]) = some (zjK.strip, zbK, 45) := by kernel_rfl
def zeW : ACode := .seq (.region [ (oN 23 (.bin .lss (.t 22) (.t 21)))] []) (.seq (.cond (.t 23) (.skip) (.exit 0)) (.seq (.block 1 (.seq (.region [ (oN 24 (.idx 5 (.t 20) (.t 22))), (oN 25 (.load true 5 (.t 24))), (oN 5 (.alloc [.int .i64 0, .int .u32 0, .int .i64 0, .int .i64 0, .nilsl])), ⟨none, .store 5 (.t 5) (.t 25), none⟩] [23, 24, 25]) (.seq (.region [ (oN 26 (.load true 5 (.t 5))), (oN 27 (.call zfj [(.t 26)])), (oN 6 (.mov (.t 27)))] [5, 26, 27]) (.seq (.region [ (oN 28 (.mov (.t 6))), (oN 29 (.bin .neq (.t 28) (.c (.int .i64 0))))] [28]) (.cond (.t 29) (.seq (.region [ (oN 30 (.mov (.t 6))), (oN 2 (.mov (.t 30)))] [1, 6, 20, 21, 22, 29, 30]) (.ret)) (.skip)))))) (.region [ (oN 31 (.bin .add (.t 22) (.c (.int .i64 1)))), (oN 22 (.mov (.t 31)))] [2, 6, 29, 31])))
def zeU : ACode := .seq (.seq (.region [ (oN 32 (.load true 8 (.t 1))), (oN 33 (.call zak [(.t 32)])), (oN 34 (.un .not (.t 33)))] [1, 20, 21, 22, 32, 33]) (.cond (.t 34) (.seq (.region [ (oN 2 (.mov (.c (.int .i64 2))))] [34]) (.ret)) (.skip))) (.seq (.region [ (oN 2 (.mov (.c (.int .i64 0))))] [34]) (.ret))
def zg8 : ACode := .seq (.region [ (oN 1 (.rbox (.t 0))), (oN 2 (.mov (.c (.int .i64 0))))] [0, 2]) (.seq (.seq (.region [ (oN 7 (.fldaddr 0 1 (.t 1))), (oN 8 (.load false 1 (.t 7))), (oN 9 (.call zdP [(.t 8)])), (oN 3 (.mov (.t 9)))] [7, 8, 9]) (.seq (.region [ (oN 10 (.mov (.t 3))), (oN 11 (.bin .lss (.t 10) (.c (.int .i64 0)))), (oN 12 (.mov (.t 11))), (oG 13 12 false (.mov (.t 3))), (oG 14 12 false (.fldaddr 6 1 (.t 1))), (oG 15 12 false (.load false 1 (.t 14))), (oG 16 12 false (.len (.t 15))), (oG 17 12 false (.bin .neq (.t 13) (.t 16))), (oN 18 (.pick (.t 12) (.c (.bool true)) (.t 17)))] [3, 10, 11, 12, 13, 14, 15, 16, 17]) (.cond (.t 18) (.seq (.region [ (oN 2 (.mov (.c (.int .i64 2))))] [1, 18]) (.ret)) (.skip)))) (.seq (.seq (.region [ (oN 19 (.fldaddr 6 1 (.t 1))), (oN 20 (.load false 1 (.t 19))), (oN 21 (.len (.t 20))), (oN 22 (.mov (.c (.int .i64 0))))] [2, 18, 19]) (.block 0 (.loop zeW))) (zeU)))
def zag : List ARet := [.tmp 2]
theorem zlQ : zad Tryz.prog zdv (qRo [1]) = some (zg8.strip, zag, 35) := by kernel_rfl
def zcS : ACode := .seq (.region [ (oN 2 (.mknil 1))] [2]) (.seq (.seq (.region [ (oN 3 (.mov (.t 0))), (oN 4 (.isnil false false (.t 3)))] [3]) (.cond (.t 4) (.seq (.region [ (oN 2 (.mknil 1))] [0, 4]) (.ret)) (.skip))) (.seq (.region [ (oN 5 (.buildSl 1 0 [.int .i64 0] [])), (oN 6 (.mov (.t 0))), (oN 7 (.append 1 8 (.t 5) (.t 6))), (oN 2 (.mov (.t 7)))] [0, 4, 5, 6, 7]) (.ret)))
def zaK : List ARet := [.tmp 2]
theorem zf5 : zad Tryz.prog zaT (qRo []) = some (zcS.strip, zaK, 8) := by kernel_rfl
def zgr : ACode := .seq (.region [ (oN 1 (.rbox (.t 0))), (oN 2 (.mknil 1))] [0, 2]) (.seq (.seq (.region [ (oN 4 (.fldaddr 1 1 (.t 1))), (oN 5 (.load false 1 (.t 4))), (oN 6 (.len (.t 5))), (oN 7 (.bin .eql (.t 6) (.c (.int .i64 0))))] [4, 5, 6]) (.cond (.t 7) (.seq (.region [ (oN 2 (.mknil 1))] [1, 7]) (.ret)) (.skip))) (.seq (.region [ (oN 8 (.fldaddr 1 1 (.t 1))), (oN 9 (.load false 1 (.t 8))), (oN 10 (.fldaddr 1 1 (.t 1))), (oN 11 (.load false 1 (.t 10))), (oN 12 (.len (.t 11))), (oN 13 (.bin .sub (.t 12) (.c (.int .i64 1)))), (oN 14 (.idx 8 (.t 9) (.t 13))), (oN 15 (.load true 8 (.t 14))), (oN 3 (.alloc [.int .i64 0, .int .i64 0, .int .i64 0, .int .i64 0, .int .i64 0, .int .u32 0, .nilsl, .nilsl])), ⟨none, .store 8 (.t 3) (.t 15), none⟩] [1, 2, 7, 8, 9, 10, 11, 12, 13, 14, 15]) (.seq (.seq (.region [ (oN 16 (.fldaddr 0 1 (.t 3))), (oN 17 (.load false 1 (.t 16)))] [16]) (.block 0 (.seq (.region [ (oN 19 (.bin .eql (.t 17) (.c (.int .i64 6)))), (oN 18 (.mov (.t 19)))] [19]) (.cond (.t 18) (.seq (.region [ (oN 20 (.fldaddr 3 1 (.t 3))), (oN 21 (.load false 1 (.t 20))), (oN 22 (.buildSl 1 1 [.int .i64 0] [(0, (.t 21))])), (oN 2 (.mov (.t 22)))] [3, 17, 18, 20, 21, 22]) (.ret)) (.seq (.region [ (oN 24 (.bin .eql (.t 17) (.c (.int .i64 7)))), (oN 23 (.mov (.t 24)))] [18, 24]) (.cond (.t 23) (.seq (.region [ (oN 25 (.fldaddr 3 1 (.t 3))), (oN 26 (.load false 1 (.t 25))), (oN 27 (.fldaddr 4 1 (.t 3))), (oN 28 (.load false 1 (.t 27))), (oN 29 (.buildSl 1 2 [.int .i64 0] [(0, (.t 26)), (1, (.t 28))])), (oN 2 (.mov (.t 29)))] [3, 17, 23, 25, 26, 27, 28, 29]) (.ret)) (.seq (.region [ (oN 31 (.bin .eql (.t 17) (.c (.int .i64 8)))), (oN 30 (.mov (.t 31)))] [17, 23, 31]) (.cond (.t 30) (.seq (.region [ (oN 32 (.fldaddr 7 1 (.t 3))), (oN 33 (.load false 1 (.t 32))), (oN 34 (.call zaT [(.t 33)])), (oN 2 (.mov (.t 34)))] [3, 30, 32, 33, 34]) (.ret)) (.skip))))))))) (.seq (.region [ (oN 2 (.mknil 1))] [3, 30]) (.ret)))))
def zaX : List ARet := [.tmp 2]
theorem zkb : zad Tryz.prog zc0 (qRo [1]) = some (zgr.strip, zaX, 35) := by kernel_rfl
def zap : ACode := .seq (.region [ (oN 4 (.mov (.c (.bool false))))] [4]) (.seq (.region [ (oN 5 (.mov (.t 0))), (oN 6 (.mov (.t 1))), (oN 7 (.call zZ [(.t 5), (.t 6)])), (oN 8 (.bin .geq (.t 7) (.c (.int .i64 0)))), (oN 4 (.mov (.t 8)))] [0, 1, 5, 6, 7, 8]) (.ret))
def zav : List ARet := [.tmp 4]
theorem zbI : zad Tryz.prog zB (qRo []) = some (zap.strip, zav, 9) := by kernel_rfl
def zbA : ACode := .seq (.seq (.region [ (oN 29 (.mov (.t 5))), (oN 30 (.mov (.t 4))), (oN 31 (.len (.t 30))), (oN 32 (.bin .lss (.t 29) (.t 31)))] [29, 30, 31]) (.cond (.t 32) (.skip) (.exit 2))) (.seq (.block 3 (.seq (.draw ( .step (oN 35 (.mov (.t 4))) ( .step (oN 36 (.mov (.t 5))) ( .step (oN 37 (.idx 1 (.t 35) (.t 36))) ( .step (oN 38 (.load false 1 (.t 37))) ( .step (oN 39 (.mov (.t 4))) ( .step (oN 40 (.mov (.t 5))) ( .step (oN 41 (.bin .sub (.t 40) (.c (.int .i64 1)))) ( .step (oN 42 (.idx 1 (.t 39) (.t 41))) ( .step (oN 43 (.load false 1 (.t 42))) ( .step (oN 44 (.bin .neq (.t 38) (.t 43))) ( .done))))))))))) [32, 35, 36, 37, 38, 39, 40, 41, 42, 43]) (.cond (.t 44) (.seq (.region [ (oN 45 (.mov (.t 0))), (oN 46 (.mov (.t 3))), (oN 47 (.mov (.t 4))), (oN 48 (.mov (.t 5))), (oN 49 (.idx 1 (.t 47) (.t 48))), (oN 50 (.load false 1 (.t 49))), (oN 51 (.idx 1 (.t 45) (.t 46))), ⟨none, .store 1 (.t 51) (.t 50), none⟩] [44, 45, 46, 47, 48, 49, 50, 51]) (.region [ (oN 52 (.mov (.t 3))), (oN 53 (.bin .add (.t 52) (.c (.int .i64 1)))), (oN 3 (.mov (.t 53)))] [52, 53])) (.skip)))) (.region [ (oN 33 (.mov (.t 5))), (oN 34 (.bin .add (.t 33) (.c (.int .i64 1)))), (oN 5 (.mov (.t 34)))] [33, 34, 44]))
def zbz : ACode := .seq (.region [ (oN 54 (.mov (.t 0))), (oN 55 (.mov (.t 3))), (oN 56 (.slice 1 (.t 54) (some (.t 55)) none)), ⟨none, .clear 1 [.int .i64 0] (.t 56), none⟩] [4, 5, 54, 55, 56]) (.seq (.region [ (oN 57 (.mov (.t 0))), (oN 58 (.mov (.t 3))), (oN 59 (.slice 1 (.t 57) none (some (.t 58)))), (oN 2 (.mov (.t 59)))] [0, 3, 57, 58, 59]) (.ret))
def zbH : ACode := .region [ (oN 14 (.mov (.t 3))), (oN 15 (.bin .add (.t 14) (.c (.int .i64 1)))), (oN 3 (.mov (.t 15)))] [2, 14, 15, 25]
def zbG : ACode := .seq (.seq (.region [ (oN 10 (.mov (.t 3))), (oN 11 (.mov (.t 0))), (oN 12 (.len (.t 11))), (oN 13 (.bin .lss (.t 10) (.t 12)))] [10, 11, 12]) (.cond (.t 13) (.skip) (.exit 0))) (.seq (.block 1 (.seq (.draw ( .step (oN 16 (.mov (.t 0))) ( .step (oN 17 (.mov (.t 3))) ( .step (oN 18 (.idx 1 (.t 16) (.t 17))) ( .step (oN 19 (.load false 1 (.t 18))) ( .step (oN 20 (.mov (.t 0))) ( .step (oN 21 (.mov (.t 3))) ( .step (oN 22 (.bin .sub (.t 21) (.c (.int .i64 1)))) ( .step (oN 23 (.idx 1 (.t 20) (.t 22))) ( .step (oN 24 (.load false 1 (.t 23))) ( .step (oN 25 (.bin .eql (.t 19) (.t 24))) ( .done))))))))))) [13, 16, 17, 18, 19, 20, 21, 22, 23, 24]) (.cond (.t 25) (.seq (.region [ (oN 26 (.mov (.t 0))), (oN 27 (.mov (.t 3))), (oN 28 (.slice 1 (.t 26) (some (.t 27)) none)), (oN 4 (.mov (.t 28)))] [25, 26, 27, 28]) (.seq (.seq (.region [ (oN 5 (.mov (.c (.int .i64 1))))] []) (.block 2 (.loop zbA))) (zbz))) (.skip)))) (zbH))
def zbF : ACode := .seq (.region [ (oN 60 (.mov (.t 0))), (oN 2 (.mov (.t 60)))] [0, 3, 60]) (.ret)
def zci : ACode := .seq (.region [ (oN 2 (.mknil 1))] [2]) (.seq (.seq (.region [ (oN 6 (.mov (.t 0))), (oN 7 (.len (.t 6))), (oN 8 (.bin .lss (.t 7) (.c (.int .i64 2))))] [6, 7]) (.cond (.t 8) (.seq (.region [ (oN 9 (.mov (.t 0))), (oN 2 (.mov (.t 9)))] [0, 8, 9]) (.ret)) (.skip))) (.seq (.seq (.region [ (oN 3 (.mov (.c (.int .i64 1))))] [2, 8]) (.block 0 (.loop zbG))) (zbF)))
def zax : List ARet := [.tmp 2]
theorem zfm : zad Tryz.prog zbh (qRo []) = some (zci.strip, zax, 61) := by kernel_rfl
def zgy : ACode := .seq (.region [ (oN 1 (.rbox (.t 0))), (oN 2 (.mov (.c (.bool false))))] [0, 2]) (.seq (.region [ (oN 3 (.fldaddr 0 1 (.t 1))), (oN 4 (.load false 1 (.t 3))), (oN 5 (.bin .geq (.t 4) (.c (.int .i64 6)))), (oN 6 (.mov (.t 5))), (oG 7 6 true (.fldaddr 0 1 (.t 1))), (oG 8 6 true (.load false 1 (.t 7))), (oG 9 6 true (.bin .leq (.t 8) (.c (.int .i64 10)))), (oN 10 (.pick (.t 6) (.t 9) (.c (.bool false)))), (oN 2 (.mov (.t 10)))] [1, 3, 4, 5, 6, 7, 8, 9, 10]) (.ret))
def zdT : List ARet := [.tmp 2]
theorem zkg : zad Tryz.prog zbX (qRo [1]) = some (zgy.strip, zdT, 11) := by kernel_rfl
def zau : ACode := .seq (.region [ (oN 4 (.mov (.c (.bool false))))] [4]) (.seq (.region [ (oN 5 (.mov (.t 0))), (oN 6 (.mov (.t 1))), (oN 7 (.call zW [(.t 5), (.t 6)])), (oN 8 (.bin .geq (.t 7) (.c (.int .i64 0)))), (oN 4 (.mov (.t 8)))] [0, 1, 5, 6, 7, 8]) (.ret))
def zaq : List ARet := [.tmp 4]
theorem zbJ : zad Tryz.prog zR (qRo []) = some (zau.strip, zaq, 9) := by kernel_rfl
def zbm : ACode := .seq (.region [ (oN 4 (.mov (.c (.bool false))))] [4]) (.seq (.region [ (oN 5 (.mov (.t 0))), (oN 6 (.mov (.t 1))), (oN 7 (.call zaV [(.t 5), (.t 6)])), (oN 8 (.bin .geq (.t 7) (.c (.int .i64 0)))), (oN 4 (.mov (.t 8)))] [0, 1, 5, 6, 7, 8]) (.ret))
def zbj : List ARet := [.tmp 4]
theorem zdD : zad Tryz.prog zaG (qRo []) = some (zbm.strip, zbj, 9) := by kernel_rfl
def zh2 : ACode := .seq (.region [ (oN 3 (.mov (.c (.bool false))))] [3]) (.seq (.region [ (oN 4 (.mov (.t 0))), (oN 5 (.bin .lss (.t 4) (.c (.int .i64 0)))), (oN 6 (.mov (.t 5))), (oG 7 6 false (.mov (.t 0))), (oG 8 6 false (.fldaddr 1 1 (.t 1))), (oG 9 6 false (.load false 1 (.t 8))), (oG 10 6 false (.len (.t 9))), (oG 11 6 false (.bin .geq (.t 7) (.t 10))), (oN 12 (.pick (.t 6) (.c (.bool true)) (.t 11))), (oN 3 (.mov (.t 12)))] [0, 1, 4, 5, 6, 7, 8, 9, 10, 11, 12]) (.ret))
def zdt : List ARet := [.tmp 3]
theorem zl3 : zad Tryz.prog zed (qRo []) = some (zh2.strip, zdt, 13) := by kernel_rfl
def zfJ : ACode := .seq (.region [ (oN 2 (.mov (.c (.int .i64 0))))] [2]) (.seq (.seq (.region [ (oN 3 (.mov (.t 0)))] [0]) (.block 0 (.seq (.seq (.region [ (oN 5 (.bin .eql (.t 3) (.c (.int .i64 1)))), (oN 4 (.mov (.t 5)))] [5]) (.cond (.t 4) (.skip) (.seq (.region [ (oN 6 (.bin .eql (.t 3) (.c (.int .i64 4)))), (oN 4 (.mov (.t 6)))] [6]) (.cond (.t 4) (.skip) (.seq (.region [ (oN 7 (.bin .eql (.t 3) (.c (.int .i64 7)))), (oN 4 (.mov (.t 7)))] [7]) (.cond (.t 4) (.skip) (.region [ (oN 8 (.bin .eql (.t 3) (.c (.int .i64 8)))), (oN 4 (.mov (.t 8)))] [8]))))))) (.cond (.t 4) (.seq (.region [ (oN 2 (.mov (.c (.int .i64 1))))] [3, 4]) (.ret)) (.seq (.region [ (oN 10 (.bin .eql (.t 3) (.c (.int .i64 2)))), (oN 9 (.mov (.t 10)))] [4, 10]) (.cond (.t 9) (.seq (.region [ (oN 2 (.mov (.c (.int .i64 2))))] [3, 9]) (.ret)) (.seq (.seq (.region [ (oN 12 (.bin .eql (.t 3) (.c (.int .i64 3)))), (oN 11 (.mov (.t 12)))] [9, 12]) (.cond (.t 11) (.skip) (.seq (.region [ (oN 13 (.bin .eql (.t 3) (.c (.int .i64 5)))), (oN 11 (.mov (.t 13)))] [13]) (.cond (.t 11) (.skip) (.seq (.region [ (oN 14 (.bin .eql (.t 3) (.c (.int .i64 6)))), (oN 11 (.mov (.t 14)))] [14]) (.cond (.t 11) (.skip) (.seq (.region [ (oN 15 (.bin .eql (.t 3) (.c (.int .i64 9)))), (oN 11 (.mov (.t 15)))] [15]) (.cond (.t 11) (.skip) (.region [ (oN 16 (.bin .eql (.t 3) (.c (.int .i64 10)))), (oN 11 (.mov (.t 16)))] [3, 16]))))))))) (.cond (.t 11) (.seq (.region [ (oN 2 (.mov (.c (.int .i64 0))))] [3, 11]) (.ret)) (.skip))))))))) (.seq (.region [ (oN 2 (.mov (.c (.int .i64 (-1)))))] [3, 11]) (.ret)))
def zI : List ARet := [.tmp 2]
theorem zjn : zad Tryz.prog zdP (qRo []) = some (zfJ.strip, zI, 17) := by kernel_rfl
def zg4 : ACode := .seq (.region [ (oN 1 (.rbox (.t 0))), (oN 2 (.mov (.c (.int .i64 0))))] [0, 2]) (.seq (.block 0 (.seq (.region [ (oN 4 (.load true 5 (.t 1))), (oN 5 (.call ze4 [(.t 4), (.c (.int .i64 64))])), (oN 6 (.un .not (.t 5))), (oN 3 (.mov (.t 6)))] [4, 5, 6]) (.cond (.t 3) (.seq (.region [ (oN 2 (.mov (.c (.int .i64 20))))] [1, 3]) (.ret)) (.seq (.region [ (oN 8 (.load true 5 (.t 1))), (oN 9 (.call zac [(.t 8)])), (oN 10 (.un .not (.t 9))), (oN 7 (.mov (.t 10)))] [1, 3, 8, 9, 10]) (.cond (.t 7) (.seq (.region [ (oN 2 (.mov (.c (.int .i64 2))))] [7]) (.ret)) (.skip)))))) (.seq (.region [ (oN 2 (.mov (.c (.int .i64 0))))] [7]) (.ret)))
def zcL : List ARet := [.tmp 2]
theorem zlE : zad Tryz.prog zfj (qRo [1]) = some (zg4.strip, zcL, 11) := by kernel_rfl
def zaA : ACode := .seq (.region [ (oN 1 (.rbox (.t 0))), (oN 2 (.mov (.c (.bool false))))] [0, 2]) (.seq (.region [ (oN 3 (.alloc [.int .i64 0, .int .i64 0, .int .i64 0, .int .i64 0, .int .i64 0, .int .u32 0, .nilsl, .nilsl]))] []) (.seq (.region [ (oN 4 (.mov (.c (.int .i64 0))))] []) (.seq (.seq (.region [ (oN 5 (.fldaddr 0 1 (.t 1))), (oN 6 (.load false 1 (.t 5)))] [5]) (.block 0 (.seq (.seq (.region [ (oN 8 (.bin .eql (.t 6) (.c (.int .i64 1)))), (oN 7 (.mov (.t 8)))] [8]) (.cond (.t 7) (.skip) (.region [ (oN 9 (.bin .eql (.t 6) (.c (.int .i64 3)))), (oN 7 (.mov (.t 9)))] [9]))) (.cond (.t 7) (.seq (.region [ (oN 10 (.fldaddr 1 1 (.t 1))), (oN 11 (.load false 1 (.t 10))), (oN 12 (.fldaddr 1 1 (.t 3))), ⟨none, .store 1 (.t 12) (.t 11), none⟩] [6, 7, 10, 11, 12]) (.seq (.region [ (oN 13 (.fldaddr 1 1 (.t 1))), (oN 14 (.load false 1 (.t 13))), (oN 15 (.call zef [(.t 14)])), (oN 16 (.un .not (.t 15)))] [13, 14, 15]) (.cond (.t 16) (.seq (.region [ (oN 2 (.mov (.c (.bool false))))] [1, 3, 4, 16]) (.ret)) (.skip)))) (.seq (.region [ (oN 18 (.bin .eql (.t 6) (.c (.int .i64 2)))), (oN 17 (.mov (.t 18)))] [7, 18]) (.cond (.t 17) (.seq (.region [ (oN 19 (.fldaddr 2 1 (.t 1))), (oN 20 (.load false 1 (.t 19))), (oN 21 (.fldaddr 2 1 (.t 3))), ⟨none, .store 1 (.t 21) (.t 20), none⟩] [6, 17, 19, 20, 21]) (.seq (.region [ (oN 22 (.fldaddr 2 1 (.t 1))), (oN 23 (.load false 1 (.t 22))), (oN 24 (.call zf4 [(.t 23)])), (oN 25 (.un .not (.t 24)))] [22, 23, 24]) (.cond (.t 25) (.seq (.region [ (oN 2 (.mov (.c (.bool false))))] [1, 3, 4, 25]) (.ret)) (.skip)))) (.seq (.region [ (oN 27 (.bin .eql (.t 6) (.c (.int .i64 5)))), (oN 26 (.mov (.t 27)))] [17, 27]) (.cond (.t 26) (.region [ (oN 28 (.fldaddr 5 1 (.t 1))), (oN 29 (.load false 1 (.t 28))), (oN 30 (.fldaddr 5 1 (.t 3))), ⟨none, .store 1 (.t 30) (.t 29), none⟩] [6, 26, 28, 29, 30]) (.seq (.region [ (oN 32 (.bin .eql (.t 6) (.c (.int .i64 6)))), (oN 31 (.mov (.t 32)))] [26, 32]) (.cond (.t 31) (.region [ (oN 33 (.fldaddr 3 1 (.t 1))), (oN 34 (.load false 1 (.t 33))), (oN 35 (.fldaddr 3 1 (.t 3))), ⟨none, .store 1 (.t 35) (.t 34), none⟩] [6, 31, 33, 34, 35]) (.seq (.region [ (oN 37 (.bin .eql (.t 6) (.c (.int .i64 7)))), (oN 36 (.mov (.t 37)))] [31, 37]) (.cond (.t 36) (.draw ( .step (oN 38 (.fldaddr 3 1 (.t 1))) ( .step (oN 39 (.load false 1 (.t 38))) ( .step (oN 40 (.fldaddr 4 1 (.t 1))) ( .step (oN 42 (.fldaddr 3 1 (.t 3))) ( .alt (oN 41 (.load false 1 (.t 40))) ( .alt ⟨none, .store 1 (.t 42) (.t 39), none⟩ ( .step (oN 43 (.fldaddr 4 1 (.t 3))) ( .alt ⟨none, .store 1 (.t 43) (.t 41), none⟩ ( .done) ( .stop))) ( .stop)) ( .alt ⟨none, .store 1 (.t 42) (.t 39), none⟩ ( .step (oN 41 (.load false 1 (.t 40))) ( .step (oN 43 (.fldaddr 4 1 (.t 3))) ( .alt ⟨none, .store 1 (.t 43) (.t 41), none⟩ ( .done) ( .stop)))) ( .stop))))))) [6, 36, 38, 39, 40, 41, 42, 43]) (.seq (.region [ (oN 45 (.bin .eql (.t 6) (.c (.int .i64 8)))), (oN 44 (.mov (.t 45)))] [6, 36, 45]) (.cond (.t 44) (.seq (.region [ (oN 46 (.fldaddr 7 1 (.t 1))), (oN 47 (.load false 1 (.t 46))), (oN 48 (.len (.t 47))), (oN 4 (.mov (.t 48)))] [44, 46, 47, 48]) (.seq (.region [ (oN 49 (.mov (.t 4))), (oN 50 (.bin .lss (.t 49) (.c (.int .i64 1)))), (oN 51 (.mov (.t 50))), (oG 52 51 false (.mov (.t 4))), (oG 53 51 false (.bin .gtr (.t 52) (.c (.int .i64 64)))), (oN 54 (.pick (.t 51) (.c (.bool true)) (.t 53)))] [49, 50, 51, 52, 53]) (.cond (.t 54) (.seq (.region [ (oN 2 (.mov (.c (.bool false))))] [1, 3, 4, 54]) (.ret)) (.skip)))) (.skip))))))))))))))) (.seq (.region [ (oN 55 (.fldaddr 1 1 (.t 1))), (oN 56 (.load false 1 (.t 55))), (oN 57 (.fldaddr 1 1 (.t 3))), (oN 58 (.load false 1 (.t 57))), (oN 59 (.bin .eql (.t 56) (.t 58))), (oN 60 (.mov (.t 59))), (oG 61 60 true (.fldaddr 2 1 (.t 1))), (oG 62 60 true (.load false 1 (.t 61))), (oG 63 60 true (.fldaddr 2 1 (.t 3))), (oG 64 60 true (.load false 1 (.t 63))), (oG 65 60 true (.bin .eql (.t 62) (.t 64))), (oN 66 (.pick (.t 60) (.t 65) (.c (.bool false)))), (oN 67 (.mov (.t 66))), (oG 68 67 true (.fldaddr 5 1 (.t 1))), (oG 69 67 true (.load false 1 (.t 68))), (oG 70 67 true (.fldaddr 5 1 (.t 3))), (oG 71 67 true (.load false 1 (.t 70))), (oG 72 67 true (.bin .eql (.t 69) (.t 71))), (oN 73 (.pick (.t 67) (.t 72) (.c (.bool false)))), (oN 74 (.mov (.t 73))), (oG 75 74 true (.fldaddr 3 1 (.t 1))), (oG 76 74 true (.load false 1 (.t 75))), (oG 77 74 true (.fldaddr 3 1 (.t 3))), (oG 78 74 true (.load false 1 (.t 77))), (oG 79 74 true (.bin .eql (.t 76) (.t 78))), (oN 80 (.pick (.t 74) (.t 79) (.c (.bool false)))), (oN 81 (.mov (.t 80))), (oG 82 81 true (.fldaddr 4 1 (.t 1))), (oG 83 81 true (.load false 1 (.t 82))), (oG 84 81 true (.fldaddr 4 1 (.t 3))), (oG 85 81 true (.load false 1 (.t 84))), (oG 86 81 true (.bin .eql (.t 83) (.t 85))), (oN 87 (.pick (.t 81) (.t 86) (.c (.bool false)))), (oN 88 (.mov (.t 87))), (oG 89 88 true (.fldaddr 7 1 (.t 1))), (oG 90 88 true (.load false 1 (.t 89))), (oG 91 88 true (.len (.t 90))), (oG 92 88 true (.mov (.t 4))), (oG 93 88 true (.bin .eql (.t 91) (.t 92))), (oN 94 (.pick (.t 88) (.t 93) (.c (.bool false)))), (oN 2 (.mov (.t 94)))] [1, 3, 4, 16, 25, 44, 54, 55, 56, 57, 58, 59, 60, 61, 62, 63, 64, 65, 66, 67, 68, 69, 70, 71, 72, 73, 74, 75, 76, 77, 78, 79, 80, 81, 82, 83, 84, 85, 86, 87, 88, 89, 90, 91, 92, 93, 94]) (.ret)))))
def zf : List ARet := [.tmp 2]
theorem zaL : zad Tryz.prog zak (qRo [1]) = some (zaA.strip, zf, 95) := by kernel_rfl
def zat : ACode := .seq (.region [ (oN 9 (.bin .lss (.t 8) (.t 7)))] []) (.seq (.cond (.t 9) (.skip) (.exit 0)) (.seq (.block 1 (.seq (.region [ (oN 10 (.mov (.t 8))), (oN 5 (.mov (.t 10)))] [9, 10]) (.seq (.region [ (oN 11 (.mov (.t 1))), (oN 12 (.mov (.t 0))), (oN 13 (.mov (.t 5))), (oN 14 (.idx 5 (.t 12) (.t 13))), (oN 15 (.load true 5 (.t 14))), (oN 16 (.callv (.t 11) [(.t 15)]))] [11, 12, 13, 14, 15]) (.cond (.t 16) (.seq (.region [ (oN 17 (.mov (.t 5))), (oN 4 (.mov (.t 17)))] [0, 1, 5, 7, 8, 16, 17]) (.ret)) (.skip))))) (.region [ (oN 18 (.bin .add (.t 8) (.c (.int .i64 1)))), (oN 8 (.mov (.t 18)))] [4, 5, 16, 18])))
def zar : ACode := .seq (.region [ (oN 4 (.mov (.c (.int .i64 (-1)))))] [0, 1, 7, 8]) (.ret)
def zaH : ACode := .seq (.region [ (oN 4 (.mov (.c (.int .i64 0))))] [4]) (.seq (.seq (.region [ (oN 6 (.mov (.t 0))), (oN 7 (.len (.t 6))), (oN 8 (.mov (.c (.int .i64 0))))] [6]) (.block 0 (.loop zat))) (zar))
def zT : List ARet := [.tmp 4]
theorem zcc : zad Tryz.prog zZ (qRo []) = some (zaH.strip, zT, 19) := by kernel_rfl
def zas : ACode := .seq (.region [ (oN 9 (.bin .lss (.t 8) (.t 7)))] []) (.seq (.cond (.t 9) (.skip) (.exit 0)) (.seq (.block 1 (.seq (.region [ (oN 10 (.mov (.t 8))), (oN 5 (.mov (.t 10)))] [9, 10]) (.seq (.region [ (oN 11 (.mov (.t 1))), (oN 12 (.mov (.t 0))), (oN 13 (.mov (.t 5))), (oN 14 (.idx 8 (.t 12) (.t 13))), (oN 15 (.load true 8 (.t 14))), (oN 16 (.callv (.t 11) [(.t 15)]))] [11, 12, 13, 14, 15]) (.cond (.t 16) (.seq (.region [ (oN 17 (.mov (.t 5))), (oN 4 (.mov (.t 17)))] [0, 1, 5, 7, 8, 16, 17]) (.ret)) (.skip))))) (.region [ (oN 18 (.bin .add (.t 8) (.c (.int .i64 1)))), (oN 8 (.mov (.t 18)))] [4, 5, 16, 18])))
def zaw : ACode := .seq (.region [ (oN 4 (.mov (.c (.int .i64 (-1)))))] [0, 1, 7, 8]) (.ret)
def zaI : ACode := .seq (.region [ (oN 4 (.mov (.c (.int .i64 0))))] [4]) (.seq (.seq (.region [ (oN 6 (.mov (.t 0))), (oN 7 (.len (.t 6))), (oN 8 (.mov (.c (.int .i64 0))))] [6]) (.block 0 (.loop zas))) (zaw))
def zU : List ARet := [.tmp 4]
theorem zca : zad Tryz.prog zW (qRo []) = some (zaI.strip, zU, 19) := by kernel_rfl
def zbk : ACode := .seq (.region [ (oN 9 (.bin .lss (.t 8) (.t 7)))] []) (.seq (.cond (.t 9) (.skip) (.exit 0)) (.seq (.block 1 (.seq (.region [ (oN 10 (.mov (.t 8))), (oN 5 (.mov (.t 10)))] [9, 10]) (.seq (.region [ (oN 11 (.mov (.t 1))), (oN 12 (.mov (.t 0))), (oN 13 (.mov (.t 5))), (oN 14 (.idx 1 (.t 12) (.t 13))), (oN 15 (.load false 1 (.t 14))), (oN 16 (.callv (.t 11) [(.t 15)]))] [11, 12, 13, 14, 15]) (.cond (.t 16) (.seq (.region [ (oN 17 (.mov (.t 5))), (oN 4 (.mov (.t 17)))] [0, 1, 5, 7, 8, 16, 17]) (.ret)) (.skip))))) (.region [ (oN 18 (.bin .add (.t 8) (.c (.int .i64 1)))), (oN 8 (.mov (.t 18)))] [4, 5, 16, 18])))
def zbn : ACode := .seq (.region [ (oN 4 (.mov (.c (.int .i64 (-1)))))] [0, 1, 7, 8]) (.ret)
def zbM : ACode := .seq (.region [ (oN 4 (.mov (.c (.int .i64 0))))] [4]) (.seq (.seq (.region [ (oN 6 (.mov (.t 0))), (oN 7 (.len (.t 6))), (oN 8 (.mov (.c (.int .i64 0))))] [6]) (.block 0 (.loop zbk))) (zbn))
def zaR : List ARet := [.tmp 4]
theorem zey : zad Tryz.prog zaV (qRo []) = some (zbM.strip, zaR, 19) := by kernel_rfl
def ziW : ACode := .seq (.region [ (oN 2 (.rbox (.t 0))), (oN 3 (.rbox (.t 1))), (oN 4 (.mov (.c (.bool false))))] [0, 1, 4]) (.seq (.region [ (oN 5 (.load false 1 (.t 3))), (oN 6 (.bin .geq (.t 5) (.c (.int .i64 1)))), (oN 7 (.mov (.t 6))), (oG 8 7 true (.fldaddr 4 1 (.t 2))), (oG 9 7 true (.load false 1 (.t 8))), (oG 10 7 true (.mkfn (.func zfd) [(.t 3)])), (oG 11 7 true (.call zB [(.t 9), (.t 10)])), (oG 12 7 true (.un .not (.t 11))), (oN 13 (.pick (.t 7) (.t 12) (.c (.bool false)))), (oN 4 (.mov (.t 13)))] [2, 3, 5, 6, 7, 8, 9, 10, 11, 12, 13]) (.ret))
def zfX : List ARet := [.tmp 4]
theorem znr : zad Tryz.prog ze4 (qRo [2, 3]) = some (ziW.strip, zfX, 14) := by kernel_rfl
def zah : ACode := .seq (.region [ (oN 1 (.rbox (.t 0))), (oN 2 (.mov (.c (.bool false))))] [0, 2]) (.seq (.region [ (oN 5 (.fldaddr 0 1 (.t 1))), (oN 6 (.load false 1 (.t 5))), (oN 7 (.build [.int .i64 0, .int .u32 0, .int .i64 0, .int .i64 0, .nilsl] [(0, 1, (.t 6))])), (oN 3 (.alloc [.int .i64 0, .int .u32 0, .int .i64 0, .int .i64 0, .nilsl])), ⟨none, .store 5 (.t 3) (.t 7), none⟩] [5, 6, 7]) (.seq (.region [ (oN 4 (.mov (.c (.int .i64 0))))] []) (.seq (.block 0 (.seq (.region [ (oN 9 (.fldaddr 0 1 (.t 1))), (oN 10 (.load false 1 (.t 9))), (oN 11 (.bin .eql (.t 10) (.c (.int .i64 1)))), (oN 8 (.mov (.t 11)))] [9, 10, 11]) (.cond (.t 8) (.region [ (oN 12 (.fldaddr 1 1 (.t 1))), (oN 13 (.load false 1 (.t 12))), (oN 14 (.fldaddr 1 1 (.t 3))), ⟨none, .store 1 (.t 14) (.t 13), none⟩] [8, 12, 13, 14]) (.seq (.region [ (oN 16 (.fldaddr 0 1 (.t 1))), (oN 17 (.load false 1 (.t 16))), (oN 18 (.bin .eql (.t 17) (.c (.int .i64 2)))), (oN 19 (.mov (.t 18))), (oG 20 19 true (.fldaddr 2 1 (.t 1))), (oG 21 19 true (.load false 1 (.t 20))), (oG 22 19 true (.call zef [(.t 21)])), (oN 23 (.pick (.t 19) (.t 22) (.c (.bool false)))), (oN 15 (.mov (.t 23)))] [8, 16, 17, 18, 19, 20, 21, 22, 23]) (.cond (.t 15) (.region [ (oN 24 (.fldaddr 2 1 (.t 1))), (oN 25 (.load false 1 (.t 24))), (oN 26 (.fldaddr 2 1 (.t 3))), ⟨none, .store 1 (.t 26) (.t 25), none⟩] [15, 24, 25, 26]) (.seq (.region [ (oN 28 (.fldaddr 0 1 (.t 1))), (oN 29 (.load false 1 (.t 28))), (oN 30 (.bin .geq (.t 29) (.c (.int .i64 3)))), (oN 31 (.mov (.t 30))), (oG 32 31 true (.fldaddr 0 1 (.t 1))), (oG 33 31 true (.load false 1 (.t 32))), (oG 34 31 true (.bin .leq (.t 33) (.c (.int .i64 15)))), (oN 35 (.pick (.t 31) (.t 34) (.c (.bool false)))), (oN 27 (.mov (.t 35)))] [4, 15, 28, 29, 30, 31, 32, 33, 34, 35]) (.cond (.t 27) (.region [ (oN 4 (.mov (.c (.int .i64 2))))] [27]) (.seq (.seq (.region [ (oN 37 (.fldaddr 0 1 (.t 1))), (oN 38 (.load false 1 (.t 37))), (oN 39 (.bin .eql (.t 38) (.c (.int .i64 16)))), (oN 36 (.mov (.t 39)))] [27, 37, 38, 39]) (.cond (.t 36) (.skip) (.region [ (oN 40 (.fldaddr 0 1 (.t 1))), (oN 41 (.load false 1 (.t 40))), (oN 42 (.bin .eql (.t 41) (.c (.int .i64 17)))), (oN 36 (.mov (.t 42)))] [40, 41, 42]))) (.cond (.t 36) (.region [ (oN 4 (.mov (.c (.int .i64 1))))] [36]) (.seq (.seq (.region [ (oN 44 (.fldaddr 0 1 (.t 1))), (oN 45 (.load false 1 (.t 44))), (oN 46 (.bin .eql (.t 45) (.c (.int .i64 18)))), (oN 47 (.mov (.t 46))), (oG 48 47 true (.fldaddr 3 1 (.t 1))), (oG 49 47 true (.load false 1 (.t 48))), (oG 50 47 true (.call zf4 [(.t 49)])), (oN 51 (.pick (.t 47) (.t 50) (.c (.bool false)))), (oN 43 (.mov (.t 51)))] [36, 44, 45, 46, 47, 48, 49, 50, 51]) (.cond (.t 43) (.skip) (.region [ (oN 52 (.fldaddr 0 1 (.t 1))), (oN 53 (.load false 1 (.t 52))), (oN 54 (.bin .eql (.t 53) (.c (.int .i64 19)))), (oN 55 (.mov (.t 54))), (oG 56 55 true (.fldaddr 3 1 (.t 1))), (oG 57 55 true (.load false 1 (.t 56))), (oG 58 55 true (.bin .eql (.t 57) (.c (.int .i64 1)))), (oG 59 55 true (.mov (.t 58))), (oG 60 59 false (.fldaddr 3 1 (.t 1))), (oG 61 59 false (.load false 1 (.t 60))), (oG 62 59 false (.bin .eql (.t 61) (.c (.int .i64 2)))), (oG 63 55 true (.pick (.t 59) (.c (.bool true)) (.t 62))), (oN 64 (.pick (.t 55) (.t 63) (.c (.bool false)))), (oN 43 (.mov (.t 64)))] [52, 53, 54, 55, 56, 57, 58, 59, 60, 61, 62, 63, 64]))) (.cond (.t 43) (.seq (.region [ (oN 4 (.mov (.c (.int .i64 1))))] [43]) (.region [ (oN 65 (.fldaddr 3 1 (.t 1))), (oN 66 (.load false 1 (.t 65))), (oN 67 (.fldaddr 3 1 (.t 3))), ⟨none, .store 1 (.t 67) (.t 66), none⟩] [65, 66, 67])) (.seq (.region [ (oN 2 (.mov (.c (.bool false))))] [1, 3, 43]) (.ret))))))))))))) (.seq (.region [ (oN 68 (.fldaddr 1 1 (.t 1))), (oN 69 (.load false 1 (.t 68))), (oN 70 (.fldaddr 1 1 (.t 3))), (oN 71 (.load false 1 (.t 70))), (oN 72 (.bin .eql (.t 69) (.t 71))), (oN 73 (.mov (.t 72))), (oG 74 73 true (.fldaddr 2 1 (.t 1))), (oG 75 73 true (.load false 1 (.t 74))), (oG 76 73 true (.fldaddr 2 1 (.t 3))), (oG 77 73 true (.load false 1 (.t 76))), (oG 78 73 true (.bin .eql (.t 75) (.t 77))), (oN 79 (.pick (.t 73) (.t 78) (.c (.bool false)))), (oN 80 (.mov (.t 79))), (oG 81 80 true (.fldaddr 3 1 (.t 1))), (oG 82 80 true (.load false 1 (.t 81))), (oG 83 80 true (.fldaddr 3 1 (.t 3))), (oG 84 80 true (.load false 1 (.t 83))), (oG 85 80 true (.bin .eql (.t 82) (.t 84))), (oN 86 (.pick (.t 80) (.t 85) (.c (.bool false)))), (oN 87 (.mov (.t 86))), (oG 88 87 true (.fldaddr 4 1 (.t 1))), (oG 89 87 true (.load false 1 (.t 88))), (oG 90 87 true (.len (.t 89))), (oG 91 87 true (.mov (.t 4))), (oG 92 87 true (.bin .eql (.t 90) (.t 91))), (oN 93 (.pick (.t 87) (.t 92) (.c (.bool false)))), (oN 94 (.mov (.t 93))), (oG 95 94 true (.fldaddr 4 1 (.t 1))), (oG 96 94 true (.load false 1 (.t 95))), (oG 97 94 true (.call zB [(.t 96), (.c (.fn (.func zO) []))])), (oG 98 94 true (.un .not (.t 97))), (oN 99 (.pick (.t 94) (.t 98) (.c (.bool false)))), (oN 2 (.mov (.t 99)))] [1, 3, 4, 68, 69, 70, 71, 72, 73, 74, 75, 76, 77, 78, 79, 80, 81, 82, 83, 84, 85, 86, 87, 88, 89, 90, 91, 92, 93, 94, 95, 96, 97, 98, 99]) (.ret)))))
def zk : List ARet := [.tmp 2]
theorem zay : zad Tryz.prog zac (qRo [1]) = some (zah.strip, zk, 100) := by kernel_rfl
def zhJ : ACode := .seq (.region [ (oN 2 (.mov (.c (.bool false))))] [2]) (.seq (.region [ (oN 3 (.mov (.t 0))), (oN 4 (.bin .geq (.t 3) (.c (.int .i64 0)))), (oN 5 (.mov (.t 4))), (oG 6 5 true (.mov (.t 0))), (oG 7 5 true (.bin .lss (.t 6) (.c (.int .i64 65536)))), (oN 8 (.pick (.t 5) (.t 7) (.c (.bool false)))), (oN 2 (.mov (.t 8)))] [0, 3, 4, 5, 6, 7, 8]) (.ret))
def zfe : List ARet := [.tmp 2]
theorem zlR : zad Tryz.prog zef (qRo []) = some (zhJ.strip, zfe, 9) := by kernel_rfl
def zjO : ACode := .seq (.region [ (oN 2 (.mov (.c (.bool false))))] [2]) (.seq (.region [ (oN 3 (.mov (.t 0))), (oN 4 (.bin .eql (.t 3) (.c (.int .i64 1)))), (oN 5 (.mov (.t 4))), (oG 6 5 false (.mov (.t 0))), (oG 7 5 false (.bin .eql (.t 6) (.c (.int .i64 2)))), (oN 8 (.pick (.t 5) (.c (.bool true)) (.t 7))), (oN 9 (.mov (.t 8))), (oG 10 9 false (.mov (.t 0))), (oG 11 9 false (.bin .eql (.t 10) (.c (.int .i64 4)))), (oN 12 (.pick (.t 9) (.c (.bool true)) (.t 11))), (oN 2 (.mov (.t 12)))] [0, 3, 4, 5, 6, 7, 8, 9, 10, 11, 12]) (.ret))
def zeZ : List ARet := [.tmp 2]
theorem zoC : zad Tryz.prog zf4 (qRo []) = some (zjO.strip, zeZ, 13) := by kernel_rfl
def zgX : ACode := .seq (.region [ (oN 2 (.rbox (.t 0))), (oN 3 (.mov (.c (.bool false))))] [0, 3]) (.seq (.region [ (oN 4 (.load true 5 (.t 2))), (oN 5 (.load false 1 (.t 1))), (oN 6 (.bin .sub (.t 5) (.c (.int .i64 1)))), (oN 7 (.call ze4 [(.t 4), (.t 6)])), (oN 8 (.un .not (.t 7))), (oN 3 (.mov (.t 8)))] [1, 2, 4, 5, 6, 7, 8]) (.ret))
def zhi : List ARet := [.tmp 3]
theorem zkt : zad Tryz.prog zfd (qRo [2]) = some (zgX.strip, zhi, 9) := by kernel_rfl
def zhQ : ACode := .seq (.region [ (oN 1 (.rbox (.t 0))), (oN 2 (.mov (.c (.bool false))))] [0, 2]) (.seq (.region [ (oN 3 (.load true 5 (.t 1))), (oN 4 (.call zac [(.t 3)])), (oN 5 (.un .not (.t 4))), (oN 2 (.mov (.t 5)))] [1, 3, 4, 5]) (.ret))
def zhL : List ARet := [.tmp 2]
theorem zl7 : zad Tryz.prog zO (qRo [1]) = some (zhQ.strip, zhL, 6) := by kernel_rfl
end Go.Ab


namespace Go.Ab
end Go.Ab
namespace Go.Ab
open Go.RowKit Go.Proofs
theorem fldP {off n m : Nat} {c : List AV} {H : AH} {nx : Nat} : zbg off n (encP m c) H nx = ⟨off + n ≤ m, True, .iptr n (fun j => c.getD (off + j) .undef), H, nx⟩ := rfl
theorem znc {n m : Nat} {c : List AV} {H : AH} {nx : Nat} : zb1 true n (encP m c) H nx = ⟨n ≤ m, (AV.agg (tab (fun j => c.getD j .undef) n 0)).wf, .agg (tab (fun j => c.getD j .undef) n 0), H, nx⟩ := rfl
theorem zbp : ∀ {e : Ex}, (encX e).length = 5
  | .mk _ _ _ _ _ => by rw [zcf]; rfl
theorem zaQ : ∀ {e : Ex}, [(encX e).getD 0 .undef, (encX e).getD 1 .undef, (encX e).getD 2 .undef, (encX e).getD 3 .undef, (encX e).getD 4 .undef] = encX e
  | .mk _ _ _ _ _ => by rw [zcf]; rfl
theorem zd : ∀ {e : Ex}, zE (encX e) = true
  | .mk _ _ _ _ _ => by rw [zcf]; rfl
theorem zj : ∀ {e : Nd}, zE (encN e) = true
  | .mk _ _ _ => by rw [ztr]; rfl
theorem flX {r : List AV} (h : r.all AV.flat = true) : ∀ {e : Ex}, (AV.agg (encX e) :: r).all AV.flat = true
  | .mk _ _ _ _ _ => by rw [zcf, List.all_cons, h]; rfl
mutual
def zbq : Ex → Nat
  | .mk _ _ _ _ l => 1 + zw l
def zw : List Ex → Nat
  | [] => 0
  | e :: l => zbq e + zw l
end
theorem zcR : ∀ {l : List Ex} {y : Ex}, y ∈ l → zbq y ≤ zw l
  | [], y, hy => by simp at hy
  | a :: l, y, hy => by
    rw [zw]
    rcases List.mem_cons.1 hy with rfl | hy
    · omega
    · have := zcR hy; omega
mutual
theorem ze8 : ∀ (e : Ex) (m n : Int), -1 ≤ n → -1 ≤ ze6 e m n ∧ (ze6 e m n ≤ n)
  | .mk _ _ _ _ l, m, n, h => by
    rw [ze6]
    split
    · omega
    · rename_i hc
      have := ziA l (m - 1) (n - 1) (by omega)
      omega
theorem ziA : ∀ (l : List Ex) (m n : Int), -1 ≤ n → -1 ≤ zaP l m n ∧ zaP l m n ≤ n
  | [], m, n, h => by rw [zaP]; omega
  | e :: l, m, n, h => by
    rw [zaP]
    split
    · omega
    · have h1 := ze8 e m n h
      have := ziA l m _ h1.1
      omega
end
theorem zjV {l : List Ex} {i : Nat} {m n : Int} (h : i < l.length) (hn : 0 ≤ n) : zaP (l.drop i) m n = zaP (l.drop (i + 1)) m (ze6 l[i] m n) := by
  rw [List.drop_eq_getElem_cons h, zaP, if_neg (by omega)]
theorem zio {l : List Ex} {m n : Int} (hn : n < 0) : zaP l m n = n := by
  cases l with
  | nil => rw [zaP]
  | cons a l => rw [zaP, if_pos hn]
theorem zrH {l : List Int} {H : AH} : zc1 1 (encL 1 (fun n => [.int .i64 n]) l) H = some (l.map cI) := zrw (fun _ _ => rfl)
theorem zv7 {H H2 : AH} {σ : Nat → Nat → Option (Nat × Nat × Nat)} {D : Nat → Nat → Prop} {t : Bool} : ∀ (e : Ex) (j : Nat), j < 5 → Vw H H2 σ D t ((encX e).getD j .undef) ((encX e).getD j .undef)
  | .mk _ _ _ _ _, j, hj => by
    rw [zcf]
    match j, hj with
    | 0, _ => exact .int _ _ _
    | 1, _ => exact .int _ _ _
    | 2, _ => exact .int _ _ _
    | 3, _ => exact .int _ _ _
    | 4, _ => exact .sl _ _ _ _
theorem zwc {H H2 : AH} {σ : Nat → Nat → Option (Nat × Nat × Nat)} {D : Nat → Nat → Prop} {t : Bool} : ∀ (e : Nd) (j : Nat), j < 5 → Vw H H2 σ D t ((encN e).getD j .undef) ((encN e).getD j .undef)
  | .mk _ _ _, j, hj => by
    rw [ztr]
    match j, hj with
    | 0, _ => exact .int _ _ _
    | 1, _ => exact .int _ _ _
    | 2, _ => exact .int _ _ _
    | 3, _ => exact .sl _ _ _ _
    | 4, _ => exact .sl _ _ _ _
theorem zvw {H H2 : AH} {σ : Nat → Nat → Option (Nat × Nat × Nat)} {D : Nat → Nat → Prop} {t : Bool} {r q g : Nat} {l : List Nd} (hD : D r q) (hg : H.get r q = some (.row 5 (l.map encN) g)) (hb : l.length ≤ big) : Vw H H2 σ D t (.own r q g 0 l.length) (encL 5 encN l) :=
  zgL hD hg hb fun a _ j hj => zwc a j hj
theorem zqX {H H2 : AH} {σ : Nat → Nat → Option (Nat × Nat × Nat)} {D : Nat → Nat → Prop} {t : Bool} {r q g : Nat} {l : List Ex} (hD : D r q) (hg : H.get r q = some (.row 5 (l.map encX) g)) (hb : l.length ≤ big) : Vw H H2 σ D t (.own r q g 0 l.length) (encL 5 encX l) :=
  zgL hD hg hb fun a _ j hj => zv7 a j hj
theorem zjN {α : Type} {A B : List α} {i : Nat} (h : A.take i = B.take i) (ha : i < A.length) (hb : i < B.length) (he : A[i] = B[i]) : A.take (i + 1) = B.take (i + 1) := by
  rw [List.take_add_one, List.take_add_one, h, List.getElem?_eq_getElem ha, List.getElem?_eq_getElem hb, he]
theorem zab {n : Nat} {c : List AV} (h : zE c = true) : zu (List.replicate n c) := fun d hd => by rw [List.eq_of_mem_replicate hd]; exact h
def zu9 (v : Int) : Bool := decide (0 ≤ v ∧ v < 65536)
def znh (w : Int) : Bool := decide (w = 1 ∨ w = 2 ∨ w = 4)
theorem zfg (v : Int) : zD Tryz.prog zef [.int .i64 v] (· = .bool (zu9 v)) := by
  refine fn_x zlR rfl ?_
  unfold zhJ zu9
  by_cases h1 : 0 ≤ v
  · (repeat first | simp (disch := try exact dis1) only [evD, Nat.reduceBEq, Nat.reduceAdd, Nat.reduceLeDiff, dT, zfe] | with_reducible intro _ | ((with_reducible apply And.intro); omega))
    exact ⟨_, .bool _ _, congrArg _ (decide_eq_decide.2 (by omega))⟩
  · (repeat first | simp (disch := try exact dis1) only [evD, Nat.reduceBEq, Nat.reduceAdd, Nat.reduceLeDiff, dF, zfe] | with_reducible intro _ | ((with_reducible apply And.intro); omega))
    exact ⟨_, .bool _ _, rfl⟩
theorem zjQ (w : Int) : zD Tryz.prog zf4 [.int .i64 w] (· = .bool (znh w)) := by
  refine fn_x zoC rfl ?_
  unfold zjO znh
  by_cases h1 : w = 1
  · (repeat first | simp (disch := try exact dis1) only [evD, Nat.reduceBEq, Nat.reduceAdd, Nat.reduceLeDiff, dT, zeZ] | with_reducible intro _ | ((with_reducible apply And.intro); omega))
    exact ⟨_, .bool _ _, rfl⟩
  by_cases h2 : w = 2
  · (repeat first | simp (disch := try exact dis1) only [evD, Nat.reduceBEq, Nat.reduceAdd, Nat.reduceLeDiff, dF, dT, zeZ] | with_reducible intro _ | ((with_reducible apply And.intro); omega))
    exact ⟨_, .bool _ _, rfl⟩
  · (repeat first | simp (disch := try exact dis1) only [evD, Nat.reduceBEq, Nat.reduceAdd, Nat.reduceLeDiff, dF, zeZ] | with_reducible intro _ | ((with_reducible apply And.intro); omega))
    exact ⟨_, .bool _ _, congrArg _ (decide_eq_decide.2 (by omega))⟩
mutual
def zqk : Ex → Int → Bool
  | .mk _ _ _ _ l, m => if m < 1 then true else zn0 l (m - 1)
def zn0 : List Ex → Int → Bool
  | [], _ => false
  | e :: l, m => zqk e m || zn0 l m
end
theorem zml : ∀ (l : List Ex) (m : Int), zn0 l m = l.any (zqk · m)
  | [], m => by rw [zn0]; rfl
  | e :: l, m => by rw [zn0, zml l m]; rfl
def zy (op n v w : Int) (k : Nat) : Bool := decide ((op = 1 ∧ v = 0 ∧ w = 0 ∧ k = 0) ∨ (op = 2 ∧ n = 0 ∧ w = 0 ∧ k = 0 ∧ 0 ≤ v ∧ v < 65536) ∨ ((op = 16 ∨ op = 17) ∧ n = 0 ∧ v = 0 ∧ w = 0 ∧ k = 1) ∨ (op = 18 ∧ n = 0 ∧ v = 0 ∧ (w = 1 ∨ w = 2 ∨ w = 4) ∧ k = 1) ∨ (op = 19 ∧ n = 0 ∧ v = 0 ∧ (w = 1 ∨ w = 2) ∧ k = 1) ∨ (3 ≤ op ∧ op ≤ 15 ∧ n = 0 ∧ v = 0 ∧ w = 0 ∧ k = 2))
mutual
def zgB : Ex → Bool
  | .mk op n v w l => zd0 l && zy op n v w l.length
def zd0 : List Ex → Bool
  | [] => true
  | e :: l => zgB e && zd0 l
end
theorem zb0 : ∀ (l : List Ex), zd0 l = l.all zgB
  | [] => by rw [zd0]; rfl
  | e :: l => by rw [zd0, zb0 l]; rfl
def zlP (e : Ex) : Int := if zqk e 64 = true then 20 else if zgB e = true then 0 else 2
structure PredE (fv : AV) (l : List Ex) (p : Ex → Bool) : Prop where
  ex : ∃ f caps, fv = .fn (.func f) caps ∧ zdY Tryz.prog f = true ∧ zE caps = true ∧ ∀ s ∈ l, zD Tryz.prog f ([.agg (encX s)] ++ caps) (· = .bool (p s))
theorem zfT : ∀ {l : List AV}, zE l = true → l.all AV.flat = true
  | [], _ => rfl
  | a :: l, h => by
    simp only [zE, Bool.and_eq_true] at h
    simp only [List.all_cons, Bool.and_eq_true]
    refine ⟨?_, zfT h.2⟩
    cases a <;> first | rfl | exact absurd h.1 (by simp [AV.flat0])
theorem zp2 {fv : AV} {l : List Ex} {p : Ex → Bool} (hp : PredE fv l p) {s : Ex} (hs : s ∈ l) {H : AH} {nx : Nat} {k : AV → AH → Nat → Prop} (hk : k (.bool (p s)) H nx) : zk2 Tryz.prog fv [.agg (encX s)] H nx k := by
  obtain ⟨f, caps, rfl, hg, hf, hx⟩ := hp.ex
  rw [zit]
  refine ⟨hg, zn (zo (hx s hs) ?_) hk⟩
  simp only [List.cons_append, List.nil_append, List.all_cons, Bool.and_eq_true]
  exact ⟨by have := flX (r := []) rfl (e := s); simpa using this, zfT hf⟩
theorem zco {fv : AV} {l : List Ex} {p : Ex → Bool} (hp : PredE fv l p) {H H2 : AH} {σ : Nat → Nat → Option (Nat × Nat × Nat)} {D : Nat → Nat → Prop} {t : Bool} : Vw H H2 σ D t fv fv := by
  obtain ⟨f, caps, rfl, hg, hf, hx⟩ := hp.ex
  refine .fn _ _ _ _ rfl fun i a b h1 h2 => ?_
  rw [h1] at h2
  cases h2
  exact zb2 (zaF hf h1)
def idxI (o : Option Nat) : Int := match o with | some i => (i : Int) | none => -1
theorem zhB (l : List Ex) (fv : AV) (p : Ex → Bool) (hp : PredE fv l p) : zD Tryz.prog zZ [encL 5 encX l, fv] (· = .int .i64 (idxI (l.findIdx? p))) := by
  refine fn_x zcc rfl ?_
  unfold zaH
  have hB := hBig
  (repeat first | simp (disch := try exact dis1) only [evD, Nat.reduceBEq, Nat.reduceAdd, Nat.reduceLeDiff] | with_reducible intro _ | ((with_reducible apply And.intro); omega))
  refine zm (fun i : Nat => ([(0, encL 5 encX l), (1, fv), (7, .int .i64 l.length), (8, .int .i64 i)], [])) 0 (fun i => i ≤ l.length ∧ ∀ j (h : j < l.length), j < i → p l[j] = false) (fun i => l.length - i) 0 ⟨Nat.zero_le _, fun j _ h => by omega⟩ (Ent.keep rfl fin5) ?_
  intro i ⟨hi, hno⟩ wf
  unfold zat
  (repeat first | simp (disch := try exact dis1) only [evD, Nat.reduceBEq, Nat.reduceAdd, Nat.reduceLeDiff] | with_reducible intro _ | ((with_reducible apply And.intro); omega))
  (refine zao (fun h => ?_) (fun h => ?_)) <;> (try simp only [dcd] at h)
  · have hi' : i < l.length := by omega
    (repeat first | simp (disch := try exact dis1) only [evD, Nat.reduceBEq, Nat.reduceAdd, Nat.reduceLeDiff, zt hi', zbp, zaQ] | with_reducible intro _ | ((with_reducible apply And.intro); omega))
    refine zp2 hp (List.getElem_mem hi') ?_
    (repeat first | simp (disch := try exact dis1) only [evD, Nat.reduceBEq, Nat.reduceAdd, Nat.reduceLeDiff] | with_reducible intro _ | ((with_reducible apply And.intro); omega))
    (refine zao (fun h2 => ?_) (fun h2 => ?_)) <;> (try simp only [dcd] at h2)
    · (repeat first | simp (disch := try exact dis1) only [evD, Nat.reduceBEq, Nat.reduceAdd, Nat.reduceLeDiff, zT] | with_reducible intro _ | ((with_reducible apply And.intro); omega))
      have e : l.findIdx? p = some i := by
        rw [List.findIdx?_eq_some_iff_getElem]
        exact ⟨hi', h2, fun j hj => by rw [hno j (by omega) hj]; simp⟩
      rw [e]
      exact ⟨_, .int _ _ _, rfl⟩
    · (repeat first | simp (disch := try exact dis1) only [evD, Nat.reduceBEq, Nat.reduceAdd, Nat.reduceLeDiff] | with_reducible intro _ | ((with_reducible apply And.intro); omega))
      refine ⟨i + 1, ⟨by omega, fun j hj hji => ?_⟩, by omega, Ent.keep rfl fin5⟩
      by_cases hje : j = i
      · subst hje; simpa using h2
      · exact hno j hj (by omega)
  · unfold zar
    (repeat first | simp (disch := try exact dis1) only [evD, Nat.reduceBEq, Nat.reduceAdd, Nat.reduceLeDiff, zT] | with_reducible intro _ | ((with_reducible apply And.intro); omega))
    have e : l.findIdx? p = none := by
      rw [List.findIdx?_eq_none_iff]
      intro x hx
      obtain ⟨j, hj, rfl⟩ := List.mem_iff_getElem.1 hx
      exact hno j hj (by omega)
    rw [e]
    exact ⟨_, .int _ _ _, rfl⟩
theorem zv0 {l : List Ex} {p : Ex → Bool} : decide (idxI (l.findIdx? p) ≥ 0) = l.any p := by
  cases h : l.findIdx? p with
  | none =>
    have := List.findIdx?_eq_none_iff.1 h
    rw [decide_eq_false (by simp [idxI])]
    symm
    rw [List.any_eq_false]
    intro x hx
    rw [this x hx]; simp
  | some i =>
    obtain ⟨h1, h2, _⟩ := List.findIdx?_eq_some_iff_getElem.1 h
    rw [decide_eq_true (by simp [idxI])]
    exact (zp6 h1 h2).symm
theorem zC (l : List Ex) (fv : AV) (p : Ex → Bool) (hp : PredE fv l p) : zD Tryz.prog zB [encL 5 encX l, fv] (· = .bool (l.any p)) := by
  refine fn_x zbI rfl ?_
  unfold zap
  (repeat first | simp (disch := try exact dis1) only [evD, Nat.reduceBEq, Nat.reduceAdd, Nat.reduceLeDiff] | with_reducible intro _ | ((with_reducible apply And.intro); omega))
  refine zn (zaE (D := noR) (zhB l fv p hp) (.cons (zJ rfl) (.cons (zco hp) .nil)) (.inl rfl)) ?_
  (repeat first | simp (disch := try exact dis1) only [evD, Nat.reduceBEq, Nat.reduceAdd, Nat.reduceLeDiff, zav] | with_reducible intro _ | ((with_reducible apply And.intro); omega))
  refine ⟨_, .bool _ _, ?_⟩
  rw [← zv0]
theorem zm6 : ∀ (k : Nat) (e : Ex) (m : Int), zbq e ≤ k → -1000 ≤ m → m ≤ 1000 → zD Tryz.prog ze4 [.agg (encX e), .int .i64 m] (· = .bool (!zqk e m)) := by
  intro k
  induction k with
  | zero => intro e m h; obtain ⟨_, _, _, _, l⟩ := e; rw [zbq] at h; omega
  | succ k ih =>
  intro e m hk hm1 hm2
  obtain ⟨op, nn, v, w, l⟩ := e
  refine fn_x znr rfl ?_
  unfold ziW
  have hB := hBig
  rw [zbq] at hk
  rw [zcf, zqk]
  by_cases h1 : m < 1
  · rw [if_pos h1]
    (repeat first | simp (disch := try exact dis1) only [evD, Nat.reduceBEq, Nat.reduceAdd, Nat.reduceLeDiff, fldP, dF, encP, zfX] | with_reducible intro _ | ((with_reducible apply And.intro); omega))
    exact ⟨_, .bool _ _, rfl⟩
  · rw [if_neg h1, zml]
    have hp : PredE (.fn (.func zfd) [encP 1 [.int .i64 m]]) l (zqk · (m - 1)) := by
      refine ⟨_, _, rfl, by kernel_rfl, rfl, fun s hs => ?_⟩
      have hm := zcR hs
      refine fn_x zkt rfl ?_
      unfold zgX
      (repeat first | simp (disch := try exact dis1) only [evD, Nat.reduceBEq, Nat.reduceAdd, Nat.reduceLeDiff, zbp, zd, zaQ, encP] | with_reducible intro _ | ((with_reducible apply And.intro); omega))
      refine zn (zo (ih s (m - 1) (by omega) (by omega) (by omega)) (flX rfl)) ?_
      (repeat first | simp (disch := try exact dis1) only [evD, Nat.reduceBEq, Nat.reduceAdd, Nat.reduceLeDiff, zhi] | with_reducible intro _ | ((with_reducible apply And.intro); omega))
      exact ⟨_, .bool _ _, rfl⟩
    (repeat first | simp (disch := try exact dis1) only [evD, Nat.reduceBEq, Nat.reduceAdd, Nat.reduceLeDiff, fldP, dT, encP] | with_reducible intro _ | ((with_reducible apply And.intro); omega))
    refine zn (zaE (D := noR) (zC l _ _ hp) (.cons (zJ rfl) (.cons (zco hp) .nil)) (.inl rfl)) ?_
    (repeat first | simp (disch := try exact dis1) only [evD, Nat.reduceBEq, Nat.reduceAdd, Nat.reduceLeDiff, zfX] | with_reducible intro _ | ((with_reducible apply And.intro); omega))
    exact ⟨_, .bool _ _, rfl⟩
theorem znU {op nn v w : Int} {l : List Ex} (h : op = 1) (hp : PredE (.fn (.func zO) []) l (fun x => !zgB x)) : zD Tryz.prog zac [.agg [.int .i64 op, .int .u32 nn, .int .i64 v, .int .i64 w, encL 5 encX l]] (· = .bool (zd0 l && zy op nn v w l.length)) := by
  refine fn_x zay rfl ?_
  unfold zah
  have hB := hBig
  (repeat first | simp (disch := try exact dis1) only [evD, Nat.reduceBEq, Nat.reduceAdd, Nat.reduceLeDiff, dT, dF, fldP, zd, zk] | with_reducible intro _ | ((with_reducible apply And.intro); omega))
  by_cases q0 : v = 0 <;> (repeat first | simp (disch := try exact dis1) only [evD, Nat.reduceBEq, Nat.reduceAdd, Nat.reduceLeDiff, dT, dF, fldP, zd, zk] | with_reducible intro _ | ((with_reducible apply And.intro); omega))
  case neg =>
    exact ⟨_, .bool _ _, congrArg AV.bool (by rw [show zy op nn v w l.length = false from by unfold zy; exact dF (by omega), Bool.and_false])⟩
  by_cases q1 : w = 0 <;> (repeat first | simp (disch := try exact dis1) only [evD, Nat.reduceBEq, Nat.reduceAdd, Nat.reduceLeDiff, dT, dF, fldP, zd, zk] | with_reducible intro _ | ((with_reducible apply And.intro); omega))
  case neg =>
    exact ⟨_, .bool _ _, congrArg AV.bool (by rw [show zy op nn v w l.length = false from by unfold zy; exact dF (by omega), Bool.and_false])⟩
  by_cases q2 : l.length = 0 <;> (repeat first | simp (disch := try exact dis1) only [evD, Nat.reduceBEq, Nat.reduceAdd, Nat.reduceLeDiff, dT, dF, fldP, zd, zk] | with_reducible intro _ | ((with_reducible apply And.intro); omega))
  case neg =>
    exact ⟨_, .bool _ _, congrArg AV.bool (by rw [show zy op nn v w l.length = false from by unfold zy; exact dF (by omega), Bool.and_false])⟩
  refine zn (zaE (D := noR) (zC l _ _ hp) (.cons (zJ rfl) (.cons (zco hp) .nil)) (.inl rfl)) ?_
  (repeat first | simp (disch := try exact dis1) only [evD, Nat.reduceBEq, Nat.reduceAdd, Nat.reduceLeDiff, dT, dF, fldP, zd, zk] | with_reducible intro _ | ((with_reducible apply And.intro); omega))
  exact ⟨_, .bool _ _, congrArg AV.bool (by rw [show zy op nn v w l.length = true from by unfold zy; exact dT (by omega), Bool.and_true, zb0, List.all_eq_not_any_not])⟩
theorem znI {op nn v w : Int} {l : List Ex} (h : op = 2) (hp : PredE (.fn (.func zO) []) l (fun x => !zgB x)) : zD Tryz.prog zac [.agg [.int .i64 op, .int .u32 nn, .int .i64 v, .int .i64 w, encL 5 encX l]] (· = .bool (zd0 l && zy op nn v w l.length)) := by
  refine fn_x zay rfl ?_
  unfold zah
  have hB := hBig
  (repeat first | simp (disch := try exact dis1) only [evD, Nat.reduceBEq, Nat.reduceAdd, Nat.reduceLeDiff, dT, dF, fldP, zd, zk] | with_reducible intro _ | ((with_reducible apply And.intro); omega))
  refine zn (zo (zfg v) rfl) ?_
  unfold zu9
  by_cases hv : 0 ≤ v ∧ v < 65536 <;> (repeat first | simp (disch := try exact dis1) only [evD, Nat.reduceBEq, Nat.reduceAdd, Nat.reduceLeDiff, dT, dF, fldP, zd, zk] | with_reducible intro _ | ((with_reducible apply And.intro); omega))
  case neg =>
    exact ⟨_, .bool _ _, congrArg AV.bool (by rw [show zy op nn v w l.length = false from by unfold zy; exact dF (by omega), Bool.and_false])⟩
  by_cases q0 : nn = 0 <;> (repeat first | simp (disch := try exact dis1) only [evD, Nat.reduceBEq, Nat.reduceAdd, Nat.reduceLeDiff, dT, dF, fldP, zd, zk] | with_reducible intro _ | ((with_reducible apply And.intro); omega))
  case neg =>
    exact ⟨_, .bool _ _, congrArg AV.bool (by rw [show zy op nn v w l.length = false from by unfold zy; exact dF (by omega), Bool.and_false])⟩
  by_cases q1 : w = 0 <;> (repeat first | simp (disch := try exact dis1) only [evD, Nat.reduceBEq, Nat.reduceAdd, Nat.reduceLeDiff, dT, dF, fldP, zd, zk] | with_reducible intro _ | ((with_reducible apply And.intro); omega))
  case neg =>
    exact ⟨_, .bool _ _, congrArg AV.bool (by rw [show zy op nn v w l.length = false from by unfold zy; exact dF (by omega), Bool.and_false])⟩
  by_cases q2 : l.length = 0 <;> (repeat first | simp (disch := try exact dis1) only [evD, Nat.reduceBEq, Nat.reduceAdd, Nat.reduceLeDiff, dT, dF, fldP, zd, zk] | with_reducible intro _ | ((with_reducible apply And.intro); omega))
  case neg =>
    exact ⟨_, .bool _ _, congrArg AV.bool (by rw [show zy op nn v w l.length = false from by unfold zy; exact dF (by omega), Bool.and_false])⟩
  refine zn (zaE (D := noR) (zC l _ _ hp) (.cons (zJ rfl) (.cons (zco hp) .nil)) (.inl rfl)) ?_
  (repeat first | simp (disch := try exact dis1) only [evD, Nat.reduceBEq, Nat.reduceAdd, Nat.reduceLeDiff, dT, dF, fldP, zd, zk] | with_reducible intro _ | ((with_reducible apply And.intro); omega))
  exact ⟨_, .bool _ _, congrArg AV.bool (by rw [show zy op nn v w l.length = true from by unfold zy; exact dT (by omega), Bool.and_true, zb0, List.all_eq_not_any_not])⟩
theorem znB {op nn v w : Int} {l : List Ex} (h : 3 ≤ op) (h2 : op ≤ 15) (hp : PredE (.fn (.func zO) []) l (fun x => !zgB x)) : zD Tryz.prog zac [.agg [.int .i64 op, .int .u32 nn, .int .i64 v, .int .i64 w, encL 5 encX l]] (· = .bool (zd0 l && zy op nn v w l.length)) := by
  refine fn_x zay rfl ?_
  unfold zah
  have hB := hBig
  (repeat first | simp (disch := try exact dis1) only [evD, Nat.reduceBEq, Nat.reduceAdd, Nat.reduceLeDiff, dT, dF, fldP, zd, zk] | with_reducible intro _ | ((with_reducible apply And.intro); omega))
  by_cases q0 : nn = 0 <;> (repeat first | simp (disch := try exact dis1) only [evD, Nat.reduceBEq, Nat.reduceAdd, Nat.reduceLeDiff, dT, dF, fldP, zd, zk] | with_reducible intro _ | ((with_reducible apply And.intro); omega))
  case neg =>
    exact ⟨_, .bool _ _, congrArg AV.bool (by rw [show zy op nn v w l.length = false from by unfold zy; exact dF (by omega), Bool.and_false])⟩
  by_cases q1 : v = 0 <;> (repeat first | simp (disch := try exact dis1) only [evD, Nat.reduceBEq, Nat.reduceAdd, Nat.reduceLeDiff, dT, dF, fldP, zd, zk] | with_reducible intro _ | ((with_reducible apply And.intro); omega))
  case neg =>
    exact ⟨_, .bool _ _, congrArg AV.bool (by rw [show zy op nn v w l.length = false from by unfold zy; exact dF (by omega), Bool.and_false])⟩
  by_cases q2 : w = 0 <;> (repeat first | simp (disch := try exact dis1) only [evD, Nat.reduceBEq, Nat.reduceAdd, Nat.reduceLeDiff, dT, dF, fldP, zd, zk] | with_reducible intro _ | ((with_reducible apply And.intro); omega))
  case neg =>
    exact ⟨_, .bool _ _, congrArg AV.bool (by rw [show zy op nn v w l.length = false from by unfold zy; exact dF (by omega), Bool.and_false])⟩
  by_cases q3 : l.length = 2 <;> (repeat first | simp (disch := try exact dis1) only [evD, Nat.reduceBEq, Nat.reduceAdd, Nat.reduceLeDiff, dT, dF, fldP, zd, zk] | with_reducible intro _ | ((with_reducible apply And.intro); omega))
  case neg =>
    exact ⟨_, .bool _ _, congrArg AV.bool (by rw [show zy op nn v w l.length = false from by unfold zy; exact dF (by omega), Bool.and_false])⟩
  refine zn (zaE (D := noR) (zC l _ _ hp) (.cons (zJ rfl) (.cons (zco hp) .nil)) (.inl rfl)) ?_
  (repeat first | simp (disch := try exact dis1) only [evD, Nat.reduceBEq, Nat.reduceAdd, Nat.reduceLeDiff, dT, dF, fldP, zd, zk] | with_reducible intro _ | ((with_reducible apply And.intro); omega))
  exact ⟨_, .bool _ _, congrArg AV.bool (by rw [show zy op nn v w l.length = true from by unfold zy; exact dT (by omega), Bool.and_true, zb0, List.all_eq_not_any_not])⟩
theorem zmQ {op nn v w : Int} {l : List Ex} (h : op = 16) (hp : PredE (.fn (.func zO) []) l (fun x => !zgB x)) : zD Tryz.prog zac [.agg [.int .i64 op, .int .u32 nn, .int .i64 v, .int .i64 w, encL 5 encX l]] (· = .bool (zd0 l && zy op nn v w l.length)) := by
  refine fn_x zay rfl ?_
  unfold zah
  have hB := hBig
  (repeat first | simp (disch := try exact dis1) only [evD, Nat.reduceBEq, Nat.reduceAdd, Nat.reduceLeDiff, dT, dF, fldP, zd, zk] | with_reducible intro _ | ((with_reducible apply And.intro); omega))
  by_cases q0 : nn = 0 <;> (repeat first | simp (disch := try exact dis1) only [evD, Nat.reduceBEq, Nat.reduceAdd, Nat.reduceLeDiff, dT, dF, fldP, zd, zk] | with_reducible intro _ | ((with_reducible apply And.intro); omega))
  case neg =>
    exact ⟨_, .bool _ _, congrArg AV.bool (by rw [show zy op nn v w l.length = false from by unfold zy; exact dF (by omega), Bool.and_false])⟩
  by_cases q1 : v = 0 <;> (repeat first | simp (disch := try exact dis1) only [evD, Nat.reduceBEq, Nat.reduceAdd, Nat.reduceLeDiff, dT, dF, fldP, zd, zk] | with_reducible intro _ | ((with_reducible apply And.intro); omega))
  case neg =>
    exact ⟨_, .bool _ _, congrArg AV.bool (by rw [show zy op nn v w l.length = false from by unfold zy; exact dF (by omega), Bool.and_false])⟩
  by_cases q2 : w = 0 <;> (repeat first | simp (disch := try exact dis1) only [evD, Nat.reduceBEq, Nat.reduceAdd, Nat.reduceLeDiff, dT, dF, fldP, zd, zk] | with_reducible intro _ | ((with_reducible apply And.intro); omega))
  case neg =>
    exact ⟨_, .bool _ _, congrArg AV.bool (by rw [show zy op nn v w l.length = false from by unfold zy; exact dF (by omega), Bool.and_false])⟩
  by_cases q3 : l.length = 1 <;> (repeat first | simp (disch := try exact dis1) only [evD, Nat.reduceBEq, Nat.reduceAdd, Nat.reduceLeDiff, dT, dF, fldP, zd, zk] | with_reducible intro _ | ((with_reducible apply And.intro); omega))
  case neg =>
    exact ⟨_, .bool _ _, congrArg AV.bool (by rw [show zy op nn v w l.length = false from by unfold zy; exact dF (by omega), Bool.and_false])⟩
  refine zn (zaE (D := noR) (zC l _ _ hp) (.cons (zJ rfl) (.cons (zco hp) .nil)) (.inl rfl)) ?_
  (repeat first | simp (disch := try exact dis1) only [evD, Nat.reduceBEq, Nat.reduceAdd, Nat.reduceLeDiff, dT, dF, fldP, zd, zk] | with_reducible intro _ | ((with_reducible apply And.intro); omega))
  exact ⟨_, .bool _ _, congrArg AV.bool (by rw [show zy op nn v w l.length = true from by unfold zy; exact dT (by omega), Bool.and_true, zb0, List.all_eq_not_any_not])⟩
theorem znm {op nn v w : Int} {l : List Ex} (h : op = 17) (hp : PredE (.fn (.func zO) []) l (fun x => !zgB x)) : zD Tryz.prog zac [.agg [.int .i64 op, .int .u32 nn, .int .i64 v, .int .i64 w, encL 5 encX l]] (· = .bool (zd0 l && zy op nn v w l.length)) := by
  refine fn_x zay rfl ?_
  unfold zah
  have hB := hBig
  (repeat first | simp (disch := try exact dis1) only [evD, Nat.reduceBEq, Nat.reduceAdd, Nat.reduceLeDiff, dT, dF, fldP, zd, zk] | with_reducible intro _ | ((with_reducible apply And.intro); omega))
  by_cases q0 : nn = 0 <;> (repeat first | simp (disch := try exact dis1) only [evD, Nat.reduceBEq, Nat.reduceAdd, Nat.reduceLeDiff, dT, dF, fldP, zd, zk] | with_reducible intro _ | ((with_reducible apply And.intro); omega))
  case neg =>
    exact ⟨_, .bool _ _, congrArg AV.bool (by rw [show zy op nn v w l.length = false from by unfold zy; exact dF (by omega), Bool.and_false])⟩
  by_cases q1 : v = 0 <;> (repeat first | simp (disch := try exact dis1) only [evD, Nat.reduceBEq, Nat.reduceAdd, Nat.reduceLeDiff, dT, dF, fldP, zd, zk] | with_reducible intro _ | ((with_reducible apply And.intro); omega))
  case neg =>
    exact ⟨_, .bool _ _, congrArg AV.bool (by rw [show zy op nn v w l.length = false from by unfold zy; exact dF (by omega), Bool.and_false])⟩
  by_cases q2 : w = 0 <;> (repeat first | simp (disch := try exact dis1) only [evD, Nat.reduceBEq, Nat.reduceAdd, Nat.reduceLeDiff, dT, dF, fldP, zd, zk] | with_reducible intro _ | ((with_reducible apply And.intro); omega))
  case neg =>
    exact ⟨_, .bool _ _, congrArg AV.bool (by rw [show zy op nn v w l.length = false from by unfold zy; exact dF (by omega), Bool.and_false])⟩
  by_cases q3 : l.length = 1 <;> (repeat first | simp (disch := try exact dis1) only [evD, Nat.reduceBEq, Nat.reduceAdd, Nat.reduceLeDiff, dT, dF, fldP, zd, zk] | with_reducible intro _ | ((with_reducible apply And.intro); omega))
  case neg =>
    exact ⟨_, .bool _ _, congrArg AV.bool (by rw [show zy op nn v w l.length = false from by unfold zy; exact dF (by omega), Bool.and_false])⟩
  refine zn (zaE (D := noR) (zC l _ _ hp) (.cons (zJ rfl) (.cons (zco hp) .nil)) (.inl rfl)) ?_
  (repeat first | simp (disch := try exact dis1) only [evD, Nat.reduceBEq, Nat.reduceAdd, Nat.reduceLeDiff, dT, dF, fldP, zd, zk] | with_reducible intro _ | ((with_reducible apply And.intro); omega))
  exact ⟨_, .bool _ _, congrArg AV.bool (by rw [show zy op nn v w l.length = true from by unfold zy; exact dT (by omega), Bool.and_true, zb0, List.all_eq_not_any_not])⟩
theorem zmZ {op nn v w : Int} {l : List Ex} (h : op = 18) (hp : PredE (.fn (.func zO) []) l (fun x => !zgB x)) : zD Tryz.prog zac [.agg [.int .i64 op, .int .u32 nn, .int .i64 v, .int .i64 w, encL 5 encX l]] (· = .bool (zd0 l && zy op nn v w l.length)) := by
  refine fn_x zay rfl ?_
  unfold zah
  have hB := hBig
  (repeat first | simp (disch := try exact dis1) only [evD, Nat.reduceBEq, Nat.reduceAdd, Nat.reduceLeDiff, dT, dF, fldP, zd, zk] | with_reducible intro _ | ((with_reducible apply And.intro); omega))
  refine zn (zo (zjQ w) rfl) ?_
  unfold znh
  by_cases hv : w = 1 ∨ w = 2 ∨ w = 4 <;> (repeat first | simp (disch := try exact dis1) only [evD, Nat.reduceBEq, Nat.reduceAdd, Nat.reduceLeDiff, dT, dF, fldP, zd, zk] | with_reducible intro _ | ((with_reducible apply And.intro); omega))
  case neg =>
    exact ⟨_, .bool _ _, congrArg AV.bool (by rw [show zy op nn v w l.length = false from by unfold zy; exact dF (by omega), Bool.and_false])⟩
  by_cases q0 : nn = 0 <;> (repeat first | simp (disch := try exact dis1) only [evD, Nat.reduceBEq, Nat.reduceAdd, Nat.reduceLeDiff, dT, dF, fldP, zd, zk] | with_reducible intro _ | ((with_reducible apply And.intro); omega))
  case neg =>
    exact ⟨_, .bool _ _, congrArg AV.bool (by rw [show zy op nn v w l.length = false from by unfold zy; exact dF (by omega), Bool.and_false])⟩
  by_cases q1 : v = 0 <;> (repeat first | simp (disch := try exact dis1) only [evD, Nat.reduceBEq, Nat.reduceAdd, Nat.reduceLeDiff, dT, dF, fldP, zd, zk] | with_reducible intro _ | ((with_reducible apply And.intro); omega))
  case neg =>
    exact ⟨_, .bool _ _, congrArg AV.bool (by rw [show zy op nn v w l.length = false from by unfold zy; exact dF (by omega), Bool.and_false])⟩
  by_cases q2 : l.length = 1 <;> (repeat first | simp (disch := try exact dis1) only [evD, Nat.reduceBEq, Nat.reduceAdd, Nat.reduceLeDiff, dT, dF, fldP, zd, zk] | with_reducible intro _ | ((with_reducible apply And.intro); omega))
  case neg =>
    exact ⟨_, .bool _ _, congrArg AV.bool (by rw [show zy op nn v w l.length = false from by unfold zy; exact dF (by omega), Bool.and_false])⟩
  refine zn (zaE (D := noR) (zC l _ _ hp) (.cons (zJ rfl) (.cons (zco hp) .nil)) (.inl rfl)) ?_
  (repeat first | simp (disch := try exact dis1) only [evD, Nat.reduceBEq, Nat.reduceAdd, Nat.reduceLeDiff, dT, dF, fldP, zd, zk] | with_reducible intro _ | ((with_reducible apply And.intro); omega))
  exact ⟨_, .bool _ _, congrArg AV.bool (by rw [show zy op nn v w l.length = true from by unfold zy; exact dT (by omega), Bool.and_true, zb0, List.all_eq_not_any_not])⟩
theorem zl4 {op nn v w : Int} {l : List Ex} (h : op = 19) (hw : w = 1) (hp : PredE (.fn (.func zO) []) l (fun x => !zgB x)) : zD Tryz.prog zac [.agg [.int .i64 op, .int .u32 nn, .int .i64 v, .int .i64 w, encL 5 encX l]] (· = .bool (zd0 l && zy op nn v w l.length)) := by
  refine fn_x zay rfl ?_
  unfold zah
  have hB := hBig
  (repeat first | simp (disch := try exact dis1) only [evD, Nat.reduceBEq, Nat.reduceAdd, Nat.reduceLeDiff, dT, dF, fldP, zd, zk] | with_reducible intro _ | ((with_reducible apply And.intro); omega))
  by_cases q0 : nn = 0 <;> (repeat first | simp (disch := try exact dis1) only [evD, Nat.reduceBEq, Nat.reduceAdd, Nat.reduceLeDiff, dT, dF, fldP, zd, zk] | with_reducible intro _ | ((with_reducible apply And.intro); omega))
  case neg =>
    exact ⟨_, .bool _ _, congrArg AV.bool (by rw [show zy op nn v w l.length = false from by unfold zy; exact dF (by omega), Bool.and_false])⟩
  by_cases q1 : v = 0 <;> (repeat first | simp (disch := try exact dis1) only [evD, Nat.reduceBEq, Nat.reduceAdd, Nat.reduceLeDiff, dT, dF, fldP, zd, zk] | with_reducible intro _ | ((with_reducible apply And.intro); omega))
  case neg =>
    exact ⟨_, .bool _ _, congrArg AV.bool (by rw [show zy op nn v w l.length = false from by unfold zy; exact dF (by omega), Bool.and_false])⟩
  by_cases q2 : l.length = 1 <;> (repeat first | simp (disch := try exact dis1) only [evD, Nat.reduceBEq, Nat.reduceAdd, Nat.reduceLeDiff, dT, dF, fldP, zd, zk] | with_reducible intro _ | ((with_reducible apply And.intro); omega))
  case neg =>
    exact ⟨_, .bool _ _, congrArg AV.bool (by rw [show zy op nn v w l.length = false from by unfold zy; exact dF (by omega), Bool.and_false])⟩
  refine zn (zaE (D := noR) (zC l _ _ hp) (.cons (zJ rfl) (.cons (zco hp) .nil)) (.inl rfl)) ?_
  (repeat first | simp (disch := try exact dis1) only [evD, Nat.reduceBEq, Nat.reduceAdd, Nat.reduceLeDiff, dT, dF, fldP, zd, zk] | with_reducible intro _ | ((with_reducible apply And.intro); omega))
  exact ⟨_, .bool _ _, congrArg AV.bool (by rw [show zy op nn v w l.length = true from by unfold zy; exact dT (by omega), Bool.and_true, zb0, List.all_eq_not_any_not])⟩
theorem zl6 {op nn v w : Int} {l : List Ex} (h : op = 19) (hw : w = 2) (hp : PredE (.fn (.func zO) []) l (fun x => !zgB x)) : zD Tryz.prog zac [.agg [.int .i64 op, .int .u32 nn, .int .i64 v, .int .i64 w, encL 5 encX l]] (· = .bool (zd0 l && zy op nn v w l.length)) := by
  refine fn_x zay rfl ?_
  unfold zah
  have hB := hBig
  (repeat first | simp (disch := try exact dis1) only [evD, Nat.reduceBEq, Nat.reduceAdd, Nat.reduceLeDiff, dT, dF, fldP, zd, zk] | with_reducible intro _ | ((with_reducible apply And.intro); omega))
  by_cases q0 : nn = 0 <;> (repeat first | simp (disch := try exact dis1) only [evD, Nat.reduceBEq, Nat.reduceAdd, Nat.reduceLeDiff, dT, dF, fldP, zd, zk] | with_reducible intro _ | ((with_reducible apply And.intro); omega))
  case neg =>
    exact ⟨_, .bool _ _, congrArg AV.bool (by rw [show zy op nn v w l.length = false from by unfold zy; exact dF (by omega), Bool.and_false])⟩
  by_cases q1 : v = 0 <;> (repeat first | simp (disch := try exact dis1) only [evD, Nat.reduceBEq, Nat.reduceAdd, Nat.reduceLeDiff, dT, dF, fldP, zd, zk] | with_reducible intro _ | ((with_reducible apply And.intro); omega))
  case neg =>
    exact ⟨_, .bool _ _, congrArg AV.bool (by rw [show zy op nn v w l.length = false from by unfold zy; exact dF (by omega), Bool.and_false])⟩
  by_cases q2 : l.length = 1 <;> (repeat first | simp (disch := try exact dis1) only [evD, Nat.reduceBEq, Nat.reduceAdd, Nat.reduceLeDiff, dT, dF, fldP, zd, zk] | with_reducible intro _ | ((with_reducible apply And.intro); omega))
  case neg =>
    exact ⟨_, .bool _ _, congrArg AV.bool (by rw [show zy op nn v w l.length = false from by unfold zy; exact dF (by omega), Bool.and_false])⟩
  refine zn (zaE (D := noR) (zC l _ _ hp) (.cons (zJ rfl) (.cons (zco hp) .nil)) (.inl rfl)) ?_
  (repeat first | simp (disch := try exact dis1) only [evD, Nat.reduceBEq, Nat.reduceAdd, Nat.reduceLeDiff, dT, dF, fldP, zd, zk] | with_reducible intro _ | ((with_reducible apply And.intro); omega))
  exact ⟨_, .bool _ _, congrArg AV.bool (by rw [show zy op nn v w l.length = true from by unfold zy; exact dT (by omega), Bool.and_true, zb0, List.all_eq_not_any_not])⟩
theorem zl0 {op nn v w : Int} {l : List Ex} (h : op = 19) (h1 : w ≠ 1) (h2 : w ≠ 2) (hp : PredE (.fn (.func zO) []) l (fun x => !zgB x)) : zD Tryz.prog zac [.agg [.int .i64 op, .int .u32 nn, .int .i64 v, .int .i64 w, encL 5 encX l]] (· = .bool (zd0 l && zy op nn v w l.length)) := by
  refine fn_x zay rfl ?_
  unfold zah
  have hB := hBig
  (repeat first | simp (disch := try exact dis1) only [evD, Nat.reduceBEq, Nat.reduceAdd, Nat.reduceLeDiff, dT, dF, fldP, zd, zk] | with_reducible intro _ | ((with_reducible apply And.intro); omega))
  exact ⟨_, .bool _ _, congrArg AV.bool (by rw [show zy op nn v w l.length = false from by unfold zy; exact dF (by omega), Bool.and_false])⟩
theorem zpA {op nn v w : Int} {l : List Ex} (h0 : op < 1) (hp : PredE (.fn (.func zO) []) l (fun x => !zgB x)) : zD Tryz.prog zac [.agg [.int .i64 op, .int .u32 nn, .int .i64 v, .int .i64 w, encL 5 encX l]] (· = .bool (zd0 l && zy op nn v w l.length)) := by
  refine fn_x zay rfl ?_
  unfold zah
  have hB := hBig
  (repeat first | simp (disch := try exact dis1) only [evD, Nat.reduceBEq, Nat.reduceAdd, Nat.reduceLeDiff, dT, dF, fldP, zd, zk] | with_reducible intro _ | ((with_reducible apply And.intro); omega))
  exact ⟨_, .bool _ _, congrArg AV.bool (by rw [show zy op nn v w l.length = false from by unfold zy; exact dF (by omega), Bool.and_false])⟩
theorem zpR {op nn v w : Int} {l : List Ex} (h0 : 19 < op) (hp : PredE (.fn (.func zO) []) l (fun x => !zgB x)) : zD Tryz.prog zac [.agg [.int .i64 op, .int .u32 nn, .int .i64 v, .int .i64 w, encL 5 encX l]] (· = .bool (zd0 l && zy op nn v w l.length)) := by
  refine fn_x zay rfl ?_
  unfold zah
  have hB := hBig
  (repeat first | simp (disch := try exact dis1) only [evD, Nat.reduceBEq, Nat.reduceAdd, Nat.reduceLeDiff, dT, dF, fldP, zd, zk] | with_reducible intro _ | ((with_reducible apply And.intro); omega))
  exact ⟨_, .bool _ _, congrArg AV.bool (by rw [show zy op nn v w l.length = false from by unfold zy; exact dF (by omega), Bool.and_false])⟩
theorem zof : ∀ (k : Nat) (e : Ex), zbq e ≤ k → zD Tryz.prog zac [.agg (encX e)] (· = .bool (zgB e)) := by
  intro k
  induction k with
  | zero => intro e h; obtain ⟨_, _, _, _, l⟩ := e; rw [zbq] at h; omega
  | succ k ih =>
  intro e hk
  obtain ⟨op, nn, v, w, l⟩ := e
  rw [zbq] at hk
  rw [zcf, zgB]
  have hp : PredE (.fn (.func zO) []) l (fun x => !zgB x) := by
    refine ⟨_, _, rfl, by kernel_rfl, rfl, fun s hs => ?_⟩
    have hm := zcR hs
    refine fn_x zl7 rfl ?_
    unfold zhQ
    have hB := hBig
    (repeat first | simp (disch := try exact dis1) only [evD, Nat.reduceBEq, Nat.reduceAdd, Nat.reduceLeDiff, zbp, zd, zaQ, encP] | with_reducible intro _ | ((with_reducible apply And.intro); omega))
    refine zn (zo (ih s (by omega)) (flX rfl)) ?_
    (repeat first | simp (disch := try exact dis1) only [evD, Nat.reduceBEq, Nat.reduceAdd, Nat.reduceLeDiff, zhL] | with_reducible intro _ | ((with_reducible apply And.intro); omega))
    exact ⟨_, .bool _ _, rfl⟩
  by_cases h1 : op = 1
  · exact znU h1 hp
  by_cases h2 : op = 2
  · exact znI h2 hp
  by_cases h3 : 3 ≤ op ∧ op ≤ 15
  · exact znB h3.1 h3.2 hp
  by_cases h16 : op = 16
  · exact zmQ h16 hp
  by_cases h17 : op = 17
  · exact znm h17 hp
  by_cases h18 : op = 18
  · exact zmZ h18 hp
  by_cases h19 : op = 19
  · by_cases w1 : w = 1
    · exact zl4 h19 w1 hp
    by_cases w2 : w = 2
    · exact zl6 h19 w2 hp
    exact zl0 h19 w1 w2 hp
  by_cases h0 : op < 1
  · exact zpA h0 hp
  exact zpR (by omega) hp
theorem zlo (e : Ex) : zD Tryz.prog zfj [.agg (encX e)] (· = .int .i64 (zlP e)) := by
  refine fn_x zlE rfl ?_
  unfold zg4 zlP
  have hB := hBig
  (repeat first | simp (disch := try exact dis1) only [evD, Nat.reduceBEq, Nat.reduceAdd, Nat.reduceLeDiff, zbp, zd, zaQ] | with_reducible intro _ | ((with_reducible apply And.intro); omega))
  refine zn (zo (zm6 (zbq e) e 64 (Nat.le_refl _) (by omega) (by omega)) (flX rfl)) ?_
  cases zqk e 64 with
  | true =>
    (repeat first | simp (disch := try exact dis1) only [evD, Nat.reduceBEq, Nat.reduceAdd, Nat.reduceLeDiff, zcL] | with_reducible intro _ | ((with_reducible apply And.intro); omega))
    exact ⟨_, .int _ _ _, rfl⟩
  | false =>
    (repeat first | simp (disch := try exact dis1) only [evD, Nat.reduceBEq, Nat.reduceAdd, Nat.reduceLeDiff, zbp, zd, zaQ] | with_reducible intro _ | ((with_reducible apply And.intro); omega))
    refine zn (zo (zof (zbq e) e (Nat.le_refl _)) (flX rfl)) ?_
    cases zgB e with
    | true =>
      (repeat first | simp (disch := try exact dis1) only [evD, Nat.reduceBEq, Nat.reduceAdd, Nat.reduceLeDiff, zcL] | with_reducible intro _ | ((with_reducible apply And.intro); omega))
      exact ⟨_, .int _ _ _, rfl⟩
    | false =>
      (repeat first | simp (disch := try exact dis1) only [evD, Nat.reduceBEq, Nat.reduceAdd, Nat.reduceLeDiff, zcL] | with_reducible intro _ | ((with_reducible apply And.intro); omega))
      exact ⟨_, .int _ _ _, rfl⟩
end Go.Ab
