/-
  Part 10 of the proof: how the calls of this program run, over values instead of memory, and what each function computes.
-/
import Derived.Test.YtpinnphfnmnjlaaRows
import Derived.WalkKit
import Derived.OpenShut
import Derived.ShutString
import Derived.ChangeOld
import Derived.Below
import Derived.Test.YtpinnphfnmnjlaaKi
set_option linter.unusedVariables false
set_option linter.unusedSimpArgs false
set_option linter.unnecessarySimpa false
set_option linter.unusedSectionVars false

namespace Go.Ab
open Go.RowKit Go.Proofs Go.Proofs.Ytpinnphfnmnjlaa

theorem encL_sub {α : Type} {p : α → Prop} {n : Nat} {f : α → List AV} (l : List {a : α // p a}) : encL n (fun a => f a.1) l = encL n f (l.map (·.1)) := by
  unfold encL
  simp only [List.length_map, List.map_map, Function.comp_def]

section
variable {HH : Type} {enc : TypeId × Value → HH} {w : World} {base : Nat} {spare : Nat → Bool} {held : Bool} {L : Nat → Prop} (hL : ∀ b, ¬ L b)

theorem el_str {fuel t : Nat} {cs : List Value} {y : DataW HH × List MemPlace} (ht : Try.prog.underlying t = some .string) (h : DataW.trod enc Try.prog w base spare held fuel t cs = some y) : ∃ s : ByteArray, cs = [.string s] ∧ s.size ≤ big := by
  obtain ⟨s, rfl, _, hs⟩ := DataW.trod_string ht h
  exact ⟨s, rfl, by unfold maxLen at hs; unfold big; omega⟩
theorem el_bool {fuel t : Nat} {cs : List Value} {y : DataW HH × List MemPlace} (ht : Try.prog.underlying t = some .bool) (h : DataW.trod enc Try.prog w base spare held fuel t cs = some y) : ∃ b : Bool, cs = [.bool b] := by
  obtain ⟨b, rfl, _⟩ := DataW.trod_bool ht h
  exact ⟨b, rfl⟩
theorem el_u32 {fuel t : Nat} {cs : List Value} {y : DataW HH × List MemPlace} (ht : Try.prog.underlying t = some (.int .u32)) (h : DataW.trod enc Try.prog w base spare held fuel t cs = some y) : ∃ x : UInt32, cs = [.int .u32 (x.toNat : Int)] := by
  obtain ⟨n, rfl, hn⟩ := el_int ht h
  have hr : 0 ≤ n ∧ n ≤ 4294967295 := hn
  refine ⟨UInt32.ofNat n.toNat, ?_⟩
  have : (UInt32.ofNat n.toNat).toNat = n.toNat := UInt32.toNat_ofNat_of_lt' (by show n.toNat < 4294967296; omega)
  rw [this]
  congr 2
  omega
theorem inR_u32 (x : UInt32) : InR .u32 (x.toNat : Int) := by
  have := u32_lt x
  exact (show 0 ≤ (x.toNat : Int) ∧ (x.toNat : Int) ≤ 4294967295 from ⟨by omega, by omega⟩)
include hL

set_option maxRecDepth 100000 in
theorem open_bytes {t e : TypeId} (ht : Try.prog.underlying t = some (.slice e)) (he : Try.prog.underlying e = some (.int .u8)) (hs : Try.prog.cellsOf e = 1) {fuel : Nat} {cs : List Value} {y : DataW HH × List MemPlace}
    (h : DataW.trod enc Try.prog w base spare held fuel t cs = some y) : ∃ (l : List UInt8) (v : Value), cs = [v] ∧ v.oneCell' = true ∧ ∀ ι, VR w L ι v (encB l) := by
  refine vr_slice ht hs hL (fun fuel cs y h hl => ?_) h
  obtain ⟨n, rfl, hn⟩ := el_int he h
  have hr : 0 ≤ n ∧ n ≤ 255 := hn
  refine ⟨UInt8.ofNat n.toNat, fun j hj => ?_⟩
  obtain rfl : j = 0 := by simpa using hj
  have : ((UInt8.ofNat n.toNat).toNat : Int) = n := by
    rw [UInt8.toNat_ofNat']
    omega
  refine ⟨?_, rfl⟩
  show VR w L noI (.int .u8 n) (.int .u8 ((UInt8.ofNat n.toNat).toNat : Int))
  rw [this]
  exact .int _ _ _ hn

set_option maxRecDepth 100000 in
theorem open_sec {fuel : Nat} {cs : List Value} {y : DataW HH × List MemPlace} (h : DataW.trod enc Try.prog w base spare held fuel 43 cs = some y) : ∃ s : {s : Sec // s.okN}, ElOk w L cs s.1.cells := by
  obtain ⟨xs, n, rfl, rfl, hlen, hxs, hf⟩ := DataW.trod_struct Try.underlying43 h
  have hc : Try.prog.cellsOf 43 = 5 := by kernel_rfl
  have hc4 : Try.prog.cellsOf 4 = 1 := by kernel_rfl
  have hc9 : Try.prog.cellsOf 9 = 1 := by kernel_rfl
  have hc22 : Try.prog.cellsOf 22 = 1 := by kernel_rfl
  have hc32 : Try.prog.cellsOf 32 = 1 := by kernel_rfl
  have hc5 : Try.prog.cellsOf 5 = 1 := by kernel_rfl
  rw [hc] at hlen
  have hget : ∀ i, i < 5 → xs[i]? = some (xs.getD i (.nil, [])) := fun i hi => by
    rw [List.getD_eq_getElem?_getD, List.getElem?_eq_getElem (by rw [hxs]; exact hi)]
    rfl
  match cs, hlen with
  | [c0, c1, c2, c3, c4], _ =>
    have f0 : DataW.trod enc Try.prog w base spare held n 9 (([c0, c1, c2, c3, c4].drop 0).take (Try.prog.cellsOf 9)) = some (xs.getD 0 (.nil, [])) := (hf 0 _ rfl).trans (hget 0 (by decide))
    rw [hc9] at f0
    replace f0 : DataW.trod enc Try.prog w base spare held n 9 [c0] = some (xs.getD 0 (.nil, [])) := f0
    have f1 : DataW.trod enc Try.prog w base spare held n 22 (([c0, c1, c2, c3, c4].drop 1).take (Try.prog.cellsOf 22)) = some (xs.getD 1 (.nil, [])) := (hf 1 _ rfl).trans (hget 1 (by decide))
    rw [hc22] at f1
    replace f1 : DataW.trod enc Try.prog w base spare held n 22 [c1] = some (xs.getD 1 (.nil, [])) := f1
    have f2 : DataW.trod enc Try.prog w base spare held n 32 (([c0, c1, c2, c3, c4].drop 2).take (Try.prog.cellsOf 32)) = some (xs.getD 2 (.nil, [])) := (hf 2 _ rfl).trans (hget 2 (by decide))
    rw [hc32] at f2
    replace f2 : DataW.trod enc Try.prog w base spare held n 32 [c2] = some (xs.getD 2 (.nil, [])) := f2
    have f3 : DataW.trod enc Try.prog w base spare held n 4 (([c0, c1, c2, c3, c4].drop 3).take (Try.prog.cellsOf 4)) = some (xs.getD 3 (.nil, [])) := (hf 3 _ rfl).trans (hget 3 (by decide))
    rw [hc4] at f3
    replace f3 : DataW.trod enc Try.prog w base spare held n 4 [c3] = some (xs.getD 3 (.nil, [])) := f3
    have f4 : DataW.trod enc Try.prog w base spare held n 4 (([c0, c1, c2, c3, c4].drop 4).take (Try.prog.cellsOf 4)) = some (xs.getD 4 (.nil, [])) := (hf 4 _ rfl).trans (hget 4 (by decide))
    rw [hc4] at f4
    replace f4 : DataW.trod enc Try.prog w base spare held n 4 [c4] = some (xs.getD 4 (.nil, [])) := f4
    obtain ⟨n0, h0, w0⟩ := el_str Try.underlying9 f0
    obtain ⟨n1, h1⟩ := el_u32 Try.underlying22 f1
    obtain ⟨l2, v2, h2, o2, w2⟩ := open_bytes hL Try.underlying32 Try.underlying5 hc5 f2
    obtain ⟨n3, h3⟩ := el_bool Try.underlying4 f3
    obtain ⟨n4, h4⟩ := el_bool Try.underlying4 f4
    cases h0; cases h1; cases h2; cases h3; cases h4
    refine ⟨⟨⟨n0, n1, l2, n3, n4⟩, w0⟩, fun j hj => ?_⟩
    match j with
    | 0 => exact ⟨.str _ _ w0, rfl⟩
    | 1 => exact ⟨.int _ _ _ (inR_u32 n1), rfl⟩
    | 2 => exact ⟨w2 _, o2⟩
    | 3 => exact ⟨.bool _ _, rfl⟩
    | 4 => exact ⟨.bool _ _, rfl⟩
    | j + 5 => exact absurd hj (by simp)

set_option maxRecDepth 100000 in
theorem open_sym {fuel : Nat} {cs : List Value} {y : DataW HH × List MemPlace} (h : DataW.trod enc Try.prog w base spare held fuel 52 cs = some y) : ∃ s : {s : Sym // s.ok}, ElOk w L cs s.1.cells := by
  obtain ⟨xs, n, rfl, rfl, hlen, hxs, hf⟩ := DataW.trod_struct Try.underlying52 h
  have hc : Try.prog.cellsOf 52 = 3 := by kernel_rfl
  have hc3 : Try.prog.cellsOf 3 = 1 := by kernel_rfl
  have hc9 : Try.prog.cellsOf 9 = 1 := by kernel_rfl
  have hc22 : Try.prog.cellsOf 22 = 1 := by kernel_rfl
  rw [hc] at hlen
  have hget : ∀ i, i < 3 → xs[i]? = some (xs.getD i (.nil, [])) := fun i hi => by
    rw [List.getD_eq_getElem?_getD, List.getElem?_eq_getElem (by rw [hxs]; exact hi)]
    rfl
  match cs, hlen with
  | [c0, c1, c2], _ =>
    have f0 : DataW.trod enc Try.prog w base spare held n 9 (([c0, c1, c2].drop 0).take (Try.prog.cellsOf 9)) = some (xs.getD 0 (.nil, [])) := (hf 0 _ rfl).trans (hget 0 (by decide))
    rw [hc9] at f0
    replace f0 : DataW.trod enc Try.prog w base spare held n 9 [c0] = some (xs.getD 0 (.nil, [])) := f0
    have f1 : DataW.trod enc Try.prog w base spare held n 22 (([c0, c1, c2].drop 1).take (Try.prog.cellsOf 22)) = some (xs.getD 1 (.nil, [])) := (hf 1 _ rfl).trans (hget 1 (by decide))
    rw [hc22] at f1
    replace f1 : DataW.trod enc Try.prog w base spare held n 22 [c1] = some (xs.getD 1 (.nil, [])) := f1
    have f2 : DataW.trod enc Try.prog w base spare held n 3 (([c0, c1, c2].drop 2).take (Try.prog.cellsOf 3)) = some (xs.getD 2 (.nil, [])) := (hf 2 _ rfl).trans (hget 2 (by decide))
    rw [hc3] at f2
    replace f2 : DataW.trod enc Try.prog w base spare held n 3 [c2] = some (xs.getD 2 (.nil, [])) := f2
    obtain ⟨n0, h0, w0⟩ := el_str Try.underlying9 f0
    obtain ⟨n1, h1⟩ := el_u32 Try.underlying22 f1
    obtain ⟨n2, h2, w2⟩ := el_int Try.underlying3 f2
    cases h0; cases h1; cases h2
    refine ⟨⟨⟨n0, n1, n2⟩, w0⟩, fun j hj => ?_⟩
    match j with
    | 0 => exact ⟨.str _ _ w0, rfl⟩
    | 1 => exact ⟨.int _ _ _ (inR_u32 n1), rfl⟩
    | 2 => exact ⟨.int _ _ _ w2, rfl⟩
    | j + 3 => exact absurd hj (by simp)

set_option maxRecDepth 100000 in
theorem open_rel {fuel : Nat} {cs : List Value} {y : DataW HH × List MemPlace} (h : DataW.trod enc Try.prog w base spare held fuel 54 cs = some y) : ∃ r : Rel, ElOk w L cs r.cells := by
  obtain ⟨xs, n, rfl, rfl, hlen, hxs, hf⟩ := DataW.trod_struct Try.underlying54 h
  have hc : Try.prog.cellsOf 54 = 5 := by kernel_rfl
  have hc3 : Try.prog.cellsOf 3 = 1 := by kernel_rfl
  have hc9 : Try.prog.cellsOf 9 = 1 := by kernel_rfl
  have hc21 : Try.prog.cellsOf 21 = 1 := by kernel_rfl
  rw [hc] at hlen
  have hget : ∀ i, i < 5 → xs[i]? = some (xs.getD i (.nil, [])) := fun i hi => by
    rw [List.getD_eq_getElem?_getD, List.getElem?_eq_getElem (by rw [hxs]; exact hi)]
    rfl
  match cs, hlen with
  | [c0, c1, c2, c3, c4], _ =>
    have f0 : DataW.trod enc Try.prog w base spare held n 3 (([c0, c1, c2, c3, c4].drop 0).take (Try.prog.cellsOf 3)) = some (xs.getD 0 (.nil, [])) := (hf 0 _ rfl).trans (hget 0 (by decide))
    rw [hc3] at f0
    replace f0 : DataW.trod enc Try.prog w base spare held n 3 [c0] = some (xs.getD 0 (.nil, [])) := f0
    have f1 : DataW.trod enc Try.prog w base spare held n 3 (([c0, c1, c2, c3, c4].drop 1).take (Try.prog.cellsOf 3)) = some (xs.getD 1 (.nil, [])) := (hf 1 _ rfl).trans (hget 1 (by decide))
    rw [hc3] at f1
    replace f1 : DataW.trod enc Try.prog w base spare held n 3 [c1] = some (xs.getD 1 (.nil, [])) := f1
    have f2 : DataW.trod enc Try.prog w base spare held n 3 (([c0, c1, c2, c3, c4].drop 2).take (Try.prog.cellsOf 3)) = some (xs.getD 2 (.nil, [])) := (hf 2 _ rfl).trans (hget 2 (by decide))
    rw [hc3] at f2
    replace f2 : DataW.trod enc Try.prog w base spare held n 3 [c2] = some (xs.getD 2 (.nil, [])) := f2
    have f3 : DataW.trod enc Try.prog w base spare held n 9 (([c0, c1, c2, c3, c4].drop 3).take (Try.prog.cellsOf 9)) = some (xs.getD 3 (.nil, [])) := (hf 3 _ rfl).trans (hget 3 (by decide))
    rw [hc9] at f3
    replace f3 : DataW.trod enc Try.prog w base spare held n 9 [c3] = some (xs.getD 3 (.nil, [])) := f3
    have f4 : DataW.trod enc Try.prog w base spare held n 21 (([c0, c1, c2, c3, c4].drop 4).take (Try.prog.cellsOf 21)) = some (xs.getD 4 (.nil, [])) := (hf 4 _ rfl).trans (hget 4 (by decide))
    rw [hc21] at f4
    replace f4 : DataW.trod enc Try.prog w base spare held n 21 [c4] = some (xs.getD 4 (.nil, [])) := f4
    obtain ⟨n0, h0, w0⟩ := el_int Try.underlying3 f0
    obtain ⟨n1, h1, w1⟩ := el_int Try.underlying3 f1
    obtain ⟨n2, h2, w2⟩ := el_int Try.underlying3 f2
    obtain ⟨n3, h3, w3⟩ := el_str Try.underlying9 f3
    obtain ⟨n4, h4, w4⟩ := el_int Try.underlying21 f4
    cases h0; cases h1; cases h2; cases h3; cases h4
    refine ⟨⟨n0, n1, n2, n3, n4⟩, fun j hj => ?_⟩
    match j with
    | 0 => exact ⟨.int _ _ _ w0, rfl⟩
    | 1 => exact ⟨.int _ _ _ w1, rfl⟩
    | 2 => exact ⟨.int _ _ _ w2, rfl⟩
    | 3 => exact ⟨.str _ _ w3, rfl⟩
    | 4 => exact ⟨.int _ _ _ w4, rfl⟩
    | j + 5 => exact absurd hj (by simp)

/-- What is known of an object that came in. -/
structure Bin.came (o : Bin) : Prop where
  secs : ∀ s ∈ o.secs, s.okN
  syms : ∀ s ∈ o.syms, s.ok

set_option maxRecDepth 100000 in
theorem open_bin {fuel : Nat} {cs : List Value} {y : DataW HH × List MemPlace} (h : DataW.trod enc Try.prog w base spare held fuel 27 cs = some y) : ∃ o : Bin, o.came ∧ cs.length = 4 ∧ ElOk w L cs o.cells ∧ ∀ j, j < 4 → ∀ ι, VR w L ι (cs.getD j undef) (o.cells.getD j .undef) := by
  obtain ⟨xs, n, rfl, rfl, hlen, hxs, hf⟩ := DataW.trod_struct Try.underlying27 h
  have hc : Try.prog.cellsOf 27 = 4 := by kernel_rfl
  have hc22 : Try.prog.cellsOf 22 = 1 := by kernel_rfl
  have hc23 : Try.prog.cellsOf 23 = 1 := by kernel_rfl
  have hc24 : Try.prog.cellsOf 24 = 1 := by kernel_rfl
  have hc25 : Try.prog.cellsOf 25 = 1 := by kernel_rfl
  have hc43 : Try.prog.cellsOf 43 = 5 := by kernel_rfl
  have hc52 : Try.prog.cellsOf 52 = 3 := by kernel_rfl
  have hc54 : Try.prog.cellsOf 54 = 5 := by kernel_rfl
  rw [hc] at hlen
  have hget : ∀ i, i < 4 → xs[i]? = some (xs.getD i (.nil, [])) := fun i hi => by
    rw [List.getD_eq_getElem?_getD, List.getElem?_eq_getElem (by rw [hxs]; exact hi)]
    rfl
  match cs, hlen with
  | [c0, c1, c2, c3], _ =>
    have f0 : DataW.trod enc Try.prog w base spare held n 22 (([c0, c1, c2, c3].drop 0).take (Try.prog.cellsOf 22)) = some (xs.getD 0 (.nil, [])) := (hf 0 _ rfl).trans (hget 0 (by decide))
    rw [hc22] at f0
    replace f0 : DataW.trod enc Try.prog w base spare held n 22 [c0] = some (xs.getD 0 (.nil, [])) := f0
    have f1 : DataW.trod enc Try.prog w base spare held n 23 (([c0, c1, c2, c3].drop 1).take (Try.prog.cellsOf 23)) = some (xs.getD 1 (.nil, [])) := (hf 1 _ rfl).trans (hget 1 (by decide))
    rw [hc23] at f1
    replace f1 : DataW.trod enc Try.prog w base spare held n 23 [c1] = some (xs.getD 1 (.nil, [])) := f1
    have f2 : DataW.trod enc Try.prog w base spare held n 24 (([c0, c1, c2, c3].drop 2).take (Try.prog.cellsOf 24)) = some (xs.getD 2 (.nil, [])) := (hf 2 _ rfl).trans (hget 2 (by decide))
    rw [hc24] at f2
    replace f2 : DataW.trod enc Try.prog w base spare held n 24 [c2] = some (xs.getD 2 (.nil, [])) := f2
    have f3 : DataW.trod enc Try.prog w base spare held n 25 (([c0, c1, c2, c3].drop 3).take (Try.prog.cellsOf 25)) = some (xs.getD 3 (.nil, [])) := (hf 3 _ rfl).trans (hget 3 (by decide))
    rw [hc25] at f3
    replace f3 : DataW.trod enc Try.prog w base spare held n 25 [c3] = some (xs.getD 3 (.nil, [])) := f3
    obtain ⟨n0, h0⟩ := el_u32 Try.underlying22 f0
    obtain ⟨l1, v1, h1, o1, w1⟩ := vr_slice (α := {s : Sec // s.okN}) (cells := fun s => s.1.cells) (L := L) Try.underlying23 hc43 hL (fun _ _ _ h _ => open_sec hL h) f1
    obtain ⟨l2, v2, h2, o2, w2⟩ := vr_slice (α := {s : Sym // s.ok}) (cells := fun s => s.1.cells) (L := L) Try.underlying24 hc52 hL (fun _ _ _ h _ => open_sym hL h) f2
    obtain ⟨l3, v3, h3, o3, w3⟩ := vr_slice (α := Rel) (cells := Rel.cells) (L := L) Try.underlying25 hc54 hL (fun _ _ _ h _ => open_rel hL h) f3
    cases h0; cases h1; cases h2; cases h3
    have e1 := encL_sub (n := 5) (f := Sec.cells) l1
    have e2 := encL_sub (n := 3) (f := Sym.cells) l2
    rw [e1] at w1
    rw [e2] at w2
    refine ⟨⟨n0, l1.map (·.1), l2.map (·.1), l3⟩, ⟨fun s hs => ?_, fun s hs => ?_⟩, rfl, fun j hj => ?_, fun j hj ι => ?_⟩
    · obtain ⟨m, _, rfl⟩ := List.mem_map.1 hs
      exact m.2
    · obtain ⟨m, _, rfl⟩ := List.mem_map.1 hs
      exact m.2
    · match j with
      | 0 => exact ⟨.int _ _ _ (inR_u32 n0), rfl⟩
      | 1 => exact ⟨w1 _, o1⟩
      | 2 => exact ⟨w2 _, o2⟩
      | 3 => exact ⟨w3 _, o3⟩
      | j + 4 => exact absurd hj (by simp)
    · match j with
      | 0 => exact .int _ _ _ (inR_u32 n0)
      | 1 => exact w1 _
      | 2 => exact w2 _
      | 3 => exact w3 _
      | j + 4 => omega

set_option maxRecDepth 100000 in
theorem open_object {v : Value} {d : DataW HH} {ps : List MemPlace} (hv : Value.okWide Try.prog w .any base 27 v) {b2 : Nat} (h : DataW.Trod enc Try.prog w b2 spare held 27 v d ps) : ∃ o : Bin, o.came ∧ ∀ ι, VR w L ι v (.agg o.cells) := by
  obtain ⟨fuel, hf⟩ := h
  unfold Value.okWide at hv
  rw [Try.underlying27] at hv
  simp only at hv
  obtain ⟨cs, rfl, _, _⟩ := hv
  have hf' : DataW.trod enc Try.prog w b2 spare held fuel 27 cs.toList = some (d, ps) := hf
  obtain ⟨o, hk, h1, h2, h3⟩ := open_bin hL hf'
  refine ⟨o, hk, fun ι => .agg ι cs _ (by
    have : cs.size = 4 := by simpa using h1
    rw [this]; rfl) (fun i v hi => ?_) (fun i v a hi ha => ?_)⟩
  · have hi2 : i < cs.size := by
      rcases Nat.lt_or_ge i cs.size with h | h
      · exact h
      · rw [Array.getElem?_eq_none h] at hi; cases hi
    have := (h2 i (by simpa using hi2)).2
    rw [List.getD_eq_getElem?_getD, Array.getElem?_toList, hi] at this
    exact this
  · have hi2 : i < cs.size := by
      rcases Nat.lt_or_ge i cs.size with h | h
      · exact h
      · rw [Array.getElem?_eq_none h] at hi; cases hi
    have hi3 : i < 4 := by rw [← h1]; simpa using hi2
    have := h3 i hi3 ι
    rw [List.getD_eq_getElem?_getD, Array.getElem?_toList, hi, List.getD_eq_getElem?_getD, ha] at this
    exact this
end

end Go.Ab

namespace Go.Ab
open Go.RowKit Go.Proofs Go.Proofs.Ytpinnphfnmnjlaa

theorem frz_true {H : AH} {v : AV} {b : Bool} (h : Frz H v (.bool b)) : v = .bool b := by
  unfold Frz at h
  generalize he : AV.bool b = x at h
  cases h <;> first | (cases he; done) | (cases he; rfl)

theorem row_true {P : Program} {f : FuncId} {args : List AV} {vs : Array Value} {w : World} (h : PureFn P f args (· = .bool true)) (hv : ∀ L : Nat → Prop, (∀ b, ¬ L b) → VRs w L noI vs.toList args) :
    Calls P f vs w fun e w' => e = .returned (.bool true) ∧ Below w.heap.size w w' := by
  have hno : ∀ b, ¬ Lt (fun _ => False) noI [] b := fun b hb => hb.elim (fun h => h) (no_live b)
  refine (h w (fun _ => False) noI vs (.empty (fun b hb => hb.elim)) (hv _ hno)).mono fun e w' ⟨v, ι', H', nx', a, h1, h2, _, h4, a2, h5, h6⟩ => ?_
  subst h1 h6
  have := frz_true h5
  subst this
  cases h4
  exact ⟨rfl, h2.ext.os, h2.ext.tape, h2.ext.output, h2.ext.size, fun k hk => h2.ext.block k hk (no_live k)⟩

end Go.Ab

namespace Go.Ab
open Go.RowKit Go.Proofs Go.Proofs.Ytpinnphfnmnjlaa Go.ChangeShapes Go.WideShapes

set_option maxRecDepth 100000 in
theorem open_bytesA {HH : Type} {enc : TypeId × Value → HH} {w : World} {base b2 : Nat} {spare : Nat → Bool} {held : Bool} {L : Nat → Prop} (hL : ∀ b, ¬ L b) {t e : TypeId} (ht : Try.prog.underlying t = some (.slice e)) (he : Try.prog.underlying e = some (.int .u8)) (hs : Try.prog.cellsOf e = 1)
    {v : Value} {d : DataW HH} {ps : List MemPlace} (hv : Value.okWide Try.prog w .any base t v) (h : DataW.Trod enc Try.prog w b2 spare held t v d ps) : ∃ l : List UInt8, ∀ ι, VR w L ι v (encB l) := by
  obtain ⟨a0, len, cap, rfl⟩ := okWide_slice ht hv
  obtain ⟨fuel, hf⟩ := h
  obtain ⟨l, v2, h1, _, h3⟩ := open_bytes hL ht he hs hf
  have : v2 = .slice a0 len cap := by
    simp [Value.cells] at h1
    exact h1.symm
  subst this
  exact ⟨l, h3⟩

end Go.Ab

namespace Go.Ab
open Go.RowKit Go.Proofs

theorem rels_range {w : World} {M : Nat → Prop} {ι : Inj} {vs : List Value} {o : Bin} {asv : List AV} (h : VRs w M ι vs (.agg o.cells :: asv)) : ∀ r ∈ o.rels, -2147483648 ≤ r.add ∧ r.add ≤ 2147483647 := by
  intro r hr
  obtain ⟨i, hi, rfl⟩ := List.mem_iff_getElem.1 hr
  cases h with
  | cons h1 h2 =>
    cases h1 with
    | agg _ cs _ hs _ hv =>
      have h3 : 3 < cs.size := by rw [hs]; show 3 < 4; decide
      have hin : ∀ (v : Value) (n : Nat) (f : Nat → Nat → AV), VR w M ι v (.sl 5 n f) → i < n → f i 4 = .int .i32 o.rels[i].add → InR .i32 (o.rels[i].add) := by
        intro v n f hv hn he
        cases hv with
        | sl _ a sz n cap f V hn1 hb hc hL hv =>
          have hx := hv i 4 hn (by decide)
          rw [he] at hx
          generalize V i 4 = y at hx
          cases hx
          assumption
        | sl0 => omega
      refine hin cs[3] _ _ (hv 3 cs[3] (encL 5 Rel.cells o.rels) (Array.getElem?_eq_getElem h3) rfl) hi ?_
      show ((List.map Rel.cells o.rels).getD i []).getD 4 .undef = _
      rw [getD_map hi]
      rfl

theorem good_of {o : Bin} (hf : o.fine) (hr : ∀ r ∈ o.rels, -2147483648 ≤ r.add ∧ r.add ≤ 2147483647) : o.good := by
  refine ⟨by have := hf.nS; omega, by have := hf.nY; omega, by have := hf.nR; omega, fun s hs => ?_, fun s hs => ?_, fun r hrm => ?_⟩
  · have := hf.secs s hs
    exact ⟨this.1, by omega⟩
  · have := hf.syms s hs
    exact ⟨this.1, by omega, by omega⟩
  · have := hf.rels r hrm
    exact ⟨this.1, ⟨by omega, by omega⟩, ⟨by omega, by omega⟩, ⟨by omega, by omega⟩, hr r hrm⟩

theorem encode_cases (o : Bin) : ((encodeO o).2 ≠ 0 ∧ (encodeO o).1 = []) ∨ (encodeO o = (fullB o, 0) ∧ checkO o = 0 ∧ (fullB o).length ≤ 65536) := by
  by_cases h1 : checkO o = 0
  · by_cases h2 : 65536 < (fullB o).length
    · rw [encodeO_long h1 h2]
      exact .inl ⟨by show (6 : Int) ≠ 0; decide, rfl⟩
    · exact .inr ⟨encodeO_good h1 h2, h1, by omega⟩
  · rw [encodeO_bad h1]
    exact .inl ⟨h1, rfl⟩

/-! ### One changed byte -/

def sumN (l : List UInt8) : Nat → Nat
  | 0 => 0
  | k + 1 => sumN l k + (l.getD k 0).toNat * (k + 1)

theorem sumK_mod (l : List UInt8) : ∀ k, k ≤ 65536 → sumK l k = ((sumN l k % 4294967296 : Nat) : Int)
  | 0, _ => rfl
  | k + 1, h => by
    have hb := u8_lt (l.getD k 0)
    rw [sumK, sumK_mod l k (by omega), sumN]
    have e1 : IntKind.u32.wrap ((l.getD k 0).toNat : Int) = ((l.getD k 0).toNat : Int) := wrapU32 (by omega) (by omega)
    have e2 : IntKind.u32.wrap ((k : Int) + 1) = ((k + 1 : Nat) : Int) := by rw [wrapU32 (by omega) (by omega)]; rfl
    rw [e1, e2]
    have hm : (l.getD k 0).toNat * (k + 1) ≤ 255 * 65536 := Nat.mul_le_mul (by omega) (by omega)
    have e3 : IntKind.u32.wrap (((l.getD k 0).toNat : Int) * ((k + 1 : Nat) : Int)) = (((l.getD k 0).toNat * (k + 1) : Nat) : Int) := by
      rw [← Int.natCast_mul]
      exact wrapU32 (by omega) (by omega)
    rw [e3]
    generalize (l.getD k 0).toNat * (k + 1) = x at *
    show (((sumN l k % 4294967296 : Nat) : Int) + (x : Int)) % 4294967296 = _
    omega

theorem sumN_set {l : List UInt8} {i : Nat} {x : UInt8} (hi : i < l.length) : ∀ k, sumN (l.set i x) k + (if i < k then (l.getD i 0).toNat * (i + 1) else 0) = sumN l k + (if i < k then x.toNat * (i + 1) else 0)
  | 0 => by simp [sumN]
  | k + 1 => by
    have ih := sumN_set hi (x := x) k
    rw [sumN, sumN]
    by_cases hk : i = k
    · subst hk
      rw [if_neg (by omega), if_neg (by omega)] at ih
      rw [if_pos (by omega), if_pos (by omega)]
      have e : (l.set i x).getD i 0 = x := by rw [List.getD_eq_getElem?_getD, List.getElem?_set_self hi]; rfl
      rw [e]
      omega
    · have e : (l.set i x).getD k 0 = l.getD k 0 := by rw [List.getD_eq_getElem?_getD, List.getD_eq_getElem?_getD, List.getElem?_set_ne hk]
      rw [e]
      by_cases hlt : i < k
      · rw [if_pos hlt, if_pos hlt] at ih
        rw [if_pos (by omega), if_pos (by omega)]
        omega
      · rw [if_neg hlt, if_neg hlt] at ih
        rw [if_neg (by omega), if_neg (by omega)]
        omega

theorem sumK_changed {l : List UInt8} {i : Nat} {x : UInt8} (hi : i < l.length) (hl : l.length ≤ 65536) (hx : x ≠ l.getD i 0) : sumK (l.set i x) l.length ≠ sumK l l.length := by
  intro h
  rw [sumK_mod _ _ hl, sumK_mod _ _ hl] at h
  have h2 := sumN_set hi (x := x) l.length
  rw [if_pos hi, if_pos hi] at h2
  have b1 := u8_lt (l.getD i 0)
  have b2 := u8_lt x
  have m1 : (l.getD i 0).toNat * (i + 1) ≤ 255 * 65536 := Nat.mul_le_mul (by omega) (by omega)
  have m2 : x.toNat * (i + 1) ≤ 255 * 65536 := Nat.mul_le_mul (by omega) (by omega)
  have hne : ¬ (l.getD i 0).toNat * (i + 1) = x.toNat * (i + 1) := fun e => by
    have := Nat.eq_of_mul_eq_mul_right (Nat.succ_pos i) e
    exact hx (UInt8.toNat_inj.1 this.symm)
  generalize (l.getD i 0).toNat * (i + 1) = u at *
  generalize x.toNat * (i + 1) = v at *
  omega

theorem damage {o o' : Bin} {i : Nat} {x : UInt8} (hi : i < (fullB o).length) (hl : (fullB o).length ≤ 65536) (hx : x ≠ (fullB o).getD i 0) : decodeP ((fullB o).set i x) ≠ (o', 0) := by
  intro h
  obtain ⟨_, _, e, _⟩ := decode_bw h
  have hB : (fullB o).length = (bodyB o).length + 4 := by unfold fullB; rw [List.length_append, leB_len]
  have hB' : (fullB o').length = (bodyB o').length + 4 := by unfold fullB; rw [List.length_append, leB_len]
  have hlen : (bodyB o').length = (bodyB o).length := by
    have := congrArg List.length e
    rw [List.length_set] at this
    omega
  have t1 : ((fullB o).set i x).take (bodyB o).length = bodyB o' := by
    rw [e, ← hlen]
    exact List.take_left' rfl
  have t2 : ((fullB o).set i x).drop (bodyB o).length = leB (sumK (bodyB o') (bodyB o').length).toNat 4 := by
    rw [e, ← hlen]
    exact List.drop_left' rfl
  have u1 : (fullB o).take (bodyB o).length = bodyB o := List.take_left' rfl
  have u2 : (fullB o).drop (bodyB o).length = leB (sumK (bodyB o) (bodyB o).length).toNat 4 := List.drop_left' rfl
  obtain ⟨s, hs, es⟩ := sumK_nat (bodyB o) (bodyB o).length
  obtain ⟨s', hs', es'⟩ := sumK_nat (bodyB o') (bodyB o').length
  by_cases hlt : i < (bodyB o).length
  · have d : ((fullB o).set i x).drop (bodyB o).length = (fullB o).drop (bodyB o).length := by rw [List.drop_set_of_lt hlt]
    rw [d, u2, es, es', Int.toNat_natCast, Int.toNat_natCast] at t2
    have := congrArg leV t2
    rw [leV_leB, leV_leB, Nat.mod_eq_of_lt (show s < 256 ^ 4 from hs), Nat.mod_eq_of_lt (show s' < 256 ^ 4 from hs')] at this
    have hbo : bodyB o' = (bodyB o).set i x := by rw [← t1, List.take_set, u1]
    have hg : (fullB o).getD i 0 = (bodyB o).getD i 0 := by
      rw [List.getD_eq_getElem?_getD, List.getD_eq_getElem?_getD]
      unfold fullB
      rw [List.getElem?_append_left hlt]
    rw [hg] at hx
    refine sumK_changed hlt (by omega) hx ?_
    rw [← hbo, es, ← hlen, es', this]
  · have d : ((fullB o).set i x).take (bodyB o).length = (fullB o).take (bodyB o).length := by rw [List.take_set_of_le (by omega)]
    rw [d, u1] at t1
    rw [← t1] at t2
    have hsame : (fullB o).set i x = fullB o := by
      rw [← List.take_append_drop (bodyB o).length ((fullB o).set i x), d, t2, u1]
      rfl
    have : ((fullB o).set i x).getD i 0 = x := by rw [List.getD_eq_getElem?_getD, List.getElem?_set_self hi]; rfl
    rw [hsame] at this
    exact hx this.symm

theorem pure_of {P : Program} {f : FuncId} {args : List AV} {Q : AV → Prop} (h : ∀ (w : World) (M : Nat → Prop) (ι : Inj) (vs : List Value), VRs w M ι vs args → PureFn P f args Q) : PureFn P f args Q :=
  fun w L ι vs rel hv => h w _ ι _ hv w L ι vs rel hv

theorem decode_e {b : List UInt8} (h : (decodeP b).2 = 0) : ∃ o, decodeP b = (o, 0) := ⟨(decodeP b).1, by rw [← h]⟩

theorem L08_ObjectRoundTrip_ok (o : Bin) (hN : ∀ s ∈ o.secs, s.okN) (hY : ∀ s ∈ o.syms, s.ok) : PureFn Try.prog f_L08_ObjectRoundTrip [.agg o.cells] (· = .bool true) := by
  refine pure_of fun w0 M0 ι0 vs0 hv0 => ?_
  have hR := rels_range hv0
  clear hv0
  refine fn_x cf_L08_ObjectRoundTrip rfl ?_
  unfold ac_L08_ObjectRoundTrip
  have hB : big = 9223372036854775807 := rfl
  (repeat (first | (simp (disch := first | exact dis1 | fail) only [evA, Nat.reduceBEq, Nat.reduceAdd, Nat.reduceLeDiff, boxR, rboxR, allocR, fldR, binI, unR, pickR, mknilR, mkslR, buildSlR, buildR, extR, convI, eqB, evU, wrap64, Bin.len, Bin.flat, Bin.four]) | (with_reducible intro _) | ((with_reducible apply And.intro); omega)))
  refine callX_fix (call_flat (L08_large_ok o) rfl) ?_
  cases hl : largeO o with
  | true =>
    (repeat (first | (simp (disch := first | exact dis1 | fail) only [evA, Nat.reduceBEq, Nat.reduceAdd, Nat.reduceLeDiff, boxR, rboxR, allocR, fldR, binI, unR, pickR, mknilR, mkslR, buildSlR, buildR, extR, convI, eqB, evU, wrap64]) | (with_reducible intro _) | ((with_reducible apply And.intro); omega)))
    refine callX_fix (call_flat L08_exampleHolds_ok rfl) ?_
    (repeat (first | (simp (disch := first | exact dis1 | fail) only [evA, Nat.reduceBEq, Nat.reduceAdd, Nat.reduceLeDiff, boxR, rboxR, allocR, fldR, binI, unR, pickR, mknilR, mkslR, buildSlR, buildR, extR, convI, eqB, evU, wrap64, rs_L08_ObjectRoundTrip]) | (with_reducible intro _) | ((with_reducible apply And.intro); omega)))
    exact ⟨_, .bool _ _, rfl⟩
  | false =>
    obtain ⟨h1, h2⟩ := large_few hl
    have ho : o.okN := ⟨hN, hY, by omega, by omega⟩
    have hE := object_Encode_ok o ho
    rcases encode_cases o with ⟨c1, c2⟩ | ⟨c1, c2, c3⟩
    · generalize encodeO o = p at hE c1 c2
      obtain ⟨l, e⟩ := p
      simp only at c1 c2
      subst c2
      have he : decide (e ≠ 0) = true := decide_eq_true c1
      have hl0 : decide (((0 : Nat) : Int) = 0) = true := rfl
      (repeat (first | (simp (disch := first | exact dis1 | fail) only [evA, Nat.reduceBEq, Nat.reduceAdd, Nat.reduceLeDiff, boxR, rboxR, allocR, fldR, binI, unR, pickR, mknilR, mkslR, buildSlR, buildR, extR, convI, eqB, evU, wrap64, Bin.len, Bin.flat, Bin.four]) | (with_reducible intro _) | ((with_reducible apply And.intro); omega)))
      refine callX_fix (call_flat hE rfl) ?_
      (repeat (first | (simp (disch := first | exact dis1 | fail) only [evA, Nat.reduceBEq, Nat.reduceAdd, Nat.reduceLeDiff, boxR, rboxR, allocR, fldR, binI, unR, pickR, mknilR, mkslR, buildSlR, buildR, extR, convI, eqB, evU, wrap64, encR, encB, he, hl0]) | (with_reducible intro _) | ((with_reducible apply And.intro); omega)))
      refine callX_fix (call_flat L08_exampleHolds_ok rfl) ?_
      (repeat (first | (simp (disch := first | exact dis1 | fail) only [evA, Nat.reduceBEq, Nat.reduceAdd, Nat.reduceLeDiff, boxR, rboxR, allocR, fldR, binI, unR, pickR, mknilR, mkslR, buildSlR, buildR, extR, convI, eqB, evU, wrap64, rs_L08_ObjectRoundTrip]) | (with_reducible intro _) | ((with_reducible apply And.intro); omega)))
      exact ⟨_, .bool _ _, rfl⟩
    · rw [c1] at hE
      have hD := object_Decode_ok (fullB o) (by omega)
      rw [decode_fw (good_of (fine_of c2) hR) c2 c3] at hD
      have he : decide ((0 : Int) ≠ 0) = false := rfl
      have he2 : decide ((0 : Int) = 0) = true := rfl
      have hS := object_Same_ok o o
      have hS2 := R08_Same_ok o o
      rw [sameO_refl] at hS hS2
      have hC := object_Check_ok o ho
      rw [c2] at hC
      (repeat (first | (simp (disch := first | exact dis1 | fail) only [evA, Nat.reduceBEq, Nat.reduceAdd, Nat.reduceLeDiff, boxR, rboxR, allocR, fldR, binI, unR, pickR, mknilR, mkslR, buildSlR, buildR, extR, convI, eqB, evU, wrap64, Bin.len, Bin.flat, Bin.four]) | (with_reducible intro _) | ((with_reducible apply And.intro); omega)))
      refine callX_fix (call_flat hE rfl) ?_
      (repeat (first | (simp (disch := first | exact dis1 | fail) only [evA, Nat.reduceBEq, Nat.reduceAdd, Nat.reduceLeDiff, boxR, rboxR, allocR, fldR, binI, unR, pickR, mknilR, mkslR, buildSlR, buildR, extR, convI, eqB, evU, wrap64, encR, he, Bin.len, Bin.flat, Bin.four]) | (with_reducible intro _) | ((with_reducible apply And.intro); omega)))
      refine callX_fix (call_flat hD rfl) ?_
      (repeat (first | (simp (disch := first | exact dis1 | fail) only [evA, Nat.reduceBEq, Nat.reduceAdd, Nat.reduceLeDiff, boxR, rboxR, allocR, fldR, binI, unR, pickR, mknilR, mkslR, buildSlR, buildR, extR, convI, eqB, evU, wrap64, he2, Bin.len, Bin.flat, Bin.four]) | (with_reducible intro _) | ((with_reducible apply And.intro); omega)))
      refine callX_fix (call_flat hS rfl) ?_
      (repeat (first | (simp (disch := first | exact dis1 | fail) only [evA, Nat.reduceBEq, Nat.reduceAdd, Nat.reduceLeDiff, boxR, rboxR, allocR, fldR, binI, unR, pickR, mknilR, mkslR, buildSlR, buildR, extR, convI, eqB, evU, wrap64, Bin.len, Bin.flat, Bin.four]) | (with_reducible intro _) | ((with_reducible apply And.intro); omega)))
      refine callX_fix (call_flat hS2 rfl) ?_
      (repeat (first | (simp (disch := first | exact dis1 | fail) only [evA, Nat.reduceBEq, Nat.reduceAdd, Nat.reduceLeDiff, boxR, rboxR, allocR, fldR, binI, unR, pickR, mknilR, mkslR, buildSlR, buildR, extR, convI, eqB, evU, wrap64, Bin.len, Bin.flat, Bin.four]) | (with_reducible intro _) | ((with_reducible apply And.intro); omega)))
      refine callX_fix (call_flat hC rfl) ?_
      (repeat (first | (simp (disch := first | exact dis1 | fail) only [evA, Nat.reduceBEq, Nat.reduceAdd, Nat.reduceLeDiff, boxR, rboxR, allocR, fldR, binI, unR, pickR, mknilR, mkslR, buildSlR, buildR, extR, convI, eqB, evU, wrap64, he2, Bin.len, Bin.flat, Bin.four]) | (with_reducible intro _) | ((with_reducible apply And.intro); omega)))
      refine callX_fix (call_flat L08_exampleHolds_ok rfl) ?_
      (repeat (first | (simp (disch := first | exact dis1 | fail) only [evA, Nat.reduceBEq, Nat.reduceAdd, Nat.reduceLeDiff, boxR, rboxR, allocR, fldR, binI, unR, pickR, mknilR, mkslR, buildSlR, buildR, extR, convI, eqB, evU, wrap64, rs_L08_ObjectRoundTrip]) | (with_reducible intro _) | ((with_reducible apply And.intro); omega)))
      exact ⟨_, .bool _ _, rfl⟩

theorem L08_ObjectCanonical_ok (b : List UInt8) : PureFn Try.prog f_L08_ObjectCanonical [encB b] (· = .bool true) := by
  refine fn_x cf_L08_ObjectCanonical rfl ?_
  unfold ac_L08_ObjectCanonical
  have hB : big = 9223372036854775807 := rfl
  (repeat (first | (simp (disch := first | exact dis1 | fail) only [evA, Nat.reduceBEq, Nat.reduceAdd, Nat.reduceLeDiff, boxR, rboxR, allocR, fldR, binI, unR, pickR, mknilR, mkslR, buildSlR, buildR, extR, convI, eqB, evU, wrap64, encB]) | (with_reducible intro _) | ((with_reducible apply And.intro); omega)))
  by_cases h : 70000 < b.length
  · (repeat (first | (simp (disch := first | exact dis1 | fail) only [evA, Nat.reduceBEq, Nat.reduceAdd, Nat.reduceLeDiff, boxR, rboxR, allocR, fldR, binI, unR, pickR, mknilR, mkslR, buildSlR, buildR, extR, convI, eqB, evU, wrap64, dT]) | (with_reducible intro _) | ((with_reducible apply And.intro); omega)))
    refine callX_fix (call_flat L08_exampleHolds_ok rfl) ?_
    (repeat (first | (simp (disch := first | exact dis1 | fail) only [evA, Nat.reduceBEq, Nat.reduceAdd, Nat.reduceLeDiff, boxR, rboxR, allocR, fldR, binI, unR, pickR, mknilR, mkslR, buildSlR, buildR, extR, convI, eqB, evU, wrap64, rs_L08_ObjectCanonical]) | (with_reducible intro _) | ((with_reducible apply And.intro); omega)))
    exact ⟨_, .bool _ _, rfl⟩
  have hP := object_Decode_ok b (by omega)
  by_cases he : (decodeP b).2 = 0
  case neg =>
    generalize decodeP b = p at hP he
    obtain ⟨o, e⟩ := p
    simp only at he
    have d1 : decide (e ≠ 0) = true := decide_eq_true he
    (repeat (first | (simp (disch := first | exact dis1 | fail) only [evA, Nat.reduceBEq, Nat.reduceAdd, Nat.reduceLeDiff, boxR, rboxR, allocR, fldR, binI, unR, pickR, mknilR, mkslR, buildSlR, buildR, extR, convI, eqB, evU, wrap64, dF]) | (with_reducible intro _) | ((with_reducible apply And.intro); omega)))
    refine callX_fix (call_flat hP rfl) ?_
    (repeat (first | (simp (disch := first | exact dis1 | fail) only [evA, Nat.reduceBEq, Nat.reduceAdd, Nat.reduceLeDiff, boxR, rboxR, allocR, fldR, binI, unR, pickR, mknilR, mkslR, buildSlR, buildR, extR, convI, eqB, evU, wrap64, Bin.len, Bin.flat, Bin.four, d1]) | (with_reducible intro _) | ((with_reducible apply And.intro); omega)))
    refine callX_fix (call_flat L08_exampleHolds_ok rfl) ?_
    (repeat (first | (simp (disch := first | exact dis1 | fail) only [evA, Nat.reduceBEq, Nat.reduceAdd, Nat.reduceLeDiff, boxR, rboxR, allocR, fldR, binI, unR, pickR, mknilR, mkslR, buildSlR, buildR, extR, convI, eqB, evU, wrap64, rs_L08_ObjectCanonical]) | (with_reducible intro _) | ((with_reducible apply And.intro); omega)))
    exact ⟨_, .bool _ _, rfl⟩
  obtain ⟨o, ho⟩ := decode_e he
  obtain ⟨g, c2, c3, c4⟩ := decode_bw ho
  rw [ho] at hP
  have hok : o.okN := ⟨fun s hs => by have := (g.secs s hs).1; show _ ≤ big; omega, fun s hs => by have := (g.syms s hs).1; show _ ≤ big; omega, by have := g.nY; omega, by have := g.nR; omega⟩
  have hE := object_Encode_ok o hok
  rw [encodeO_good c2 (by rw [← c3]; omega), ← c3] at hE
  have hs := R05_SameBytes_ok b b
  rw [eqL_refl (p := eqB1) (fun a => decide_eq_true rfl)] at hs
  have d1 : decide ((0 : Int) ≠ 0) = false := rfl
  have d2 : decide ((0 : Int) = 0) = true := rfl
  (repeat (first | (simp (disch := first | exact dis1 | fail) only [evA, Nat.reduceBEq, Nat.reduceAdd, Nat.reduceLeDiff, boxR, rboxR, allocR, fldR, binI, unR, pickR, mknilR, mkslR, buildSlR, buildR, extR, convI, eqB, evU, wrap64, dF]) | (with_reducible intro _) | ((with_reducible apply And.intro); omega)))
  refine callX_fix (call_flat hP rfl) ?_
  (repeat (first | (simp (disch := first | exact dis1 | fail) only [evA, Nat.reduceBEq, Nat.reduceAdd, Nat.reduceLeDiff, boxR, rboxR, allocR, fldR, binI, unR, pickR, mknilR, mkslR, buildSlR, buildR, extR, convI, eqB, evU, wrap64, Bin.len, Bin.flat, Bin.four, d1]) | (with_reducible intro _) | ((with_reducible apply And.intro); omega)))
  refine callX_fix (call_flat hE rfl) ?_
  (repeat (first | (simp (disch := first | exact dis1 | fail) only [evA, Nat.reduceBEq, Nat.reduceAdd, Nat.reduceLeDiff, boxR, rboxR, allocR, fldR, binI, unR, pickR, mknilR, mkslR, buildSlR, buildR, extR, convI, eqB, evU, wrap64, encR, encB, d2]) | (with_reducible intro _) | ((with_reducible apply And.intro); omega)))
  refine callX_fix (call_flat hs rfl) ?_
  (repeat (first | (simp (disch := first | exact dis1 | fail) only [evA, Nat.reduceBEq, Nat.reduceAdd, Nat.reduceLeDiff, boxR, rboxR, allocR, fldR, binI, unR, pickR, mknilR, mkslR, buildSlR, buildR, extR, convI, eqB, evU, wrap64]) | (with_reducible intro _) | ((with_reducible apply And.intro); omega)))
  refine callX_fix (call_flat L08_exampleHolds_ok rfl) ?_
  (repeat (first | (simp (disch := first | exact dis1 | fail) only [evA, Nat.reduceBEq, Nat.reduceAdd, Nat.reduceLeDiff, boxR, rboxR, allocR, fldR, binI, unR, pickR, mknilR, mkslR, buildSlR, buildR, extR, convI, eqB, evU, wrap64, rs_L08_ObjectCanonical]) | (with_reducible intro _) | ((with_reducible apply And.intro); omega)))
  exact ⟨_, .bool _ _, rfl⟩

theorem L08_ObjectDamage_ok (o : Bin) (at_ by_ : Int) (hby : 0 ≤ by_ ∧ by_ ≤ 255) (hN : ∀ s ∈ o.secs, s.okN) (hY : ∀ s ∈ o.syms, s.ok) : PureFn Try.prog f_L08_ObjectDamage [.agg o.cells, .int .i64 at_, .int .u8 by_] (· = .bool true) := by
  refine fn_x cf_L08_ObjectDamage rfl ?_
  unfold ac_L08_ObjectDamage
  have hB : big = 9223372036854775807 := rfl
  (repeat (first | (simp (disch := first | exact dis1 | fail) only [evA, Nat.reduceBEq, Nat.reduceAdd, Nat.reduceLeDiff, boxR, rboxR, allocR, fldR, binI, unR, pickR, mknilR, mkslR, buildSlR, buildR, extR, convI, eqB, evU, wrap64, Bin.len, Bin.flat, Bin.four]) | (with_reducible intro _) | ((with_reducible apply And.intro); omega)))
  refine callX_fix (call_flat (L08_large_ok o) rfl) ?_
  cases hl : largeO o with
  | true =>
    (repeat (first | (simp (disch := first | exact dis1 | fail) only [evA, Nat.reduceBEq, Nat.reduceAdd, Nat.reduceLeDiff, boxR, rboxR, allocR, fldR, binI, unR, pickR, mknilR, mkslR, buildSlR, buildR, extR, convI, eqB, evU, wrap64]) | (with_reducible intro _) | ((with_reducible apply And.intro); omega)))
    refine callX_fix (call_flat L08_exampleHolds_ok rfl) ?_
    (repeat (first | (simp (disch := first | exact dis1 | fail) only [evA, Nat.reduceBEq, Nat.reduceAdd, Nat.reduceLeDiff, boxR, rboxR, allocR, fldR, binI, unR, pickR, mknilR, mkslR, buildSlR, buildR, extR, convI, eqB, evU, wrap64, rs_L08_ObjectDamage]) | (with_reducible intro _) | ((with_reducible apply And.intro); omega)))
    exact ⟨_, .bool _ _, rfl⟩
  | false =>
    obtain ⟨h1, h2⟩ := large_few hl
    have ho : o.okN := ⟨hN, hY, by omega, by omega⟩
    have hE := object_Encode_ok o ho
    rcases encode_cases o with ⟨c1, c2⟩ | ⟨c1, c2, c3⟩
    · generalize encodeO o = p at hE c1 c2
      obtain ⟨l, e⟩ := p
      simp only at c1 c2
      have he : decide (e ≠ 0) = true := decide_eq_true c1
      (repeat (first | (simp (disch := first | exact dis1 | fail) only [evA, Nat.reduceBEq, Nat.reduceAdd, Nat.reduceLeDiff, boxR, rboxR, allocR, fldR, binI, unR, pickR, mknilR, mkslR, buildSlR, buildR, extR, convI, eqB, evU, wrap64, Bin.len, Bin.flat, Bin.four]) | (with_reducible intro _) | ((with_reducible apply And.intro); omega)))
      refine callX_fix (call_flat hE rfl) ?_
      (repeat (first | (simp (disch := first | exact dis1 | fail) only [evA, Nat.reduceBEq, Nat.reduceAdd, Nat.reduceLeDiff, boxR, rboxR, allocR, fldR, binI, unR, pickR, mknilR, mkslR, buildSlR, buildR, extR, convI, eqB, evU, wrap64, encR, encB, he]) | (with_reducible intro _) | ((with_reducible apply And.intro); omega)))
      refine callX_fix (call_flat L08_exampleHolds_ok rfl) ?_
      (repeat (first | (simp (disch := first | exact dis1 | fail) only [evA, Nat.reduceBEq, Nat.reduceAdd, Nat.reduceLeDiff, boxR, rboxR, allocR, fldR, binI, unR, pickR, mknilR, mkslR, buildSlR, buildR, extR, convI, eqB, evU, wrap64, rs_L08_ObjectDamage]) | (with_reducible intro _) | ((with_reducible apply And.intro); omega)))
      exact ⟨_, .bool _ _, rfl⟩
    · rw [c1] at hE
      have hdm := fun (o' : Bin) (i : Nat) (x : UInt8) => @damage o o' i x
      generalize fullB o = b at *
      have he : decide ((0 : Int) ≠ 0) = false := rfl
      (repeat (first | (simp (disch := first | exact dis1 | fail) only [evA, Nat.reduceBEq, Nat.reduceAdd, Nat.reduceLeDiff, boxR, rboxR, allocR, fldR, binI, unR, pickR, mknilR, mkslR, buildSlR, buildR, extR, convI, eqB, evU, wrap64, Bin.len, Bin.flat, Bin.four]) | (with_reducible intro _) | ((with_reducible apply And.intro); omega)))
      refine callX_fix (call_flat hE rfl) ?_
      (repeat (first | (simp (disch := first | exact dis1 | fail) only [evA, Nat.reduceBEq, Nat.reduceAdd, Nat.reduceLeDiff, boxR, rboxR, allocR, fldR, binI, unR, pickR, mknilR, mkslR, buildSlR, buildR, extR, convI, eqB, evU, wrap64, encR, encB, he]) | (with_reducible intro _) | ((with_reducible apply And.intro); omega)))
      by_cases ha : at_ < 0
      · have d1 : decide (at_ < 0) = true := decide_eq_true ha
        (repeat (first | (simp (disch := first | exact dis1 | fail) only [evA, Nat.reduceBEq, Nat.reduceAdd, Nat.reduceLeDiff, boxR, rboxR, allocR, fldR, binI, unR, pickR, mknilR, mkslR, buildSlR, buildR, extR, convI, eqB, evU, wrap64, d1]) | (with_reducible intro _) | ((with_reducible apply And.intro); omega)))
        refine callX_fix (call_flat L08_exampleHolds_ok rfl) ?_
        (repeat (first | (simp (disch := first | exact dis1 | fail) only [evA, Nat.reduceBEq, Nat.reduceAdd, Nat.reduceLeDiff, boxR, rboxR, allocR, fldR, binI, unR, pickR, mknilR, mkslR, buildSlR, buildR, extR, convI, eqB, evU, wrap64, rs_L08_ObjectDamage]) | (with_reducible intro _) | ((with_reducible apply And.intro); omega)))
        exact ⟨_, .bool _ _, rfl⟩
      have d1 : decide (at_ < 0) = false := decide_eq_false ha
      (repeat (first | (simp (disch := first | exact dis1 | fail) only [evA, Nat.reduceBEq, Nat.reduceAdd, Nat.reduceLeDiff, boxR, rboxR, allocR, fldR, binI, unR, pickR, mknilR, mkslR, buildSlR, buildR, extR, convI, eqB, evU, wrap64, d1]) | (with_reducible intro _) | ((with_reducible apply And.intro); omega)))
      by_cases hb : (b.length : Int) ≤ at_
      · have d2 : decide ((b.length : Int) ≤ at_) = true := decide_eq_true hb
        (repeat (first | (simp (disch := first | exact dis1 | fail) only [evA, Nat.reduceBEq, Nat.reduceAdd, Nat.reduceLeDiff, boxR, rboxR, allocR, fldR, binI, unR, pickR, mknilR, mkslR, buildSlR, buildR, extR, convI, eqB, evU, wrap64, d2]) | (with_reducible intro _) | ((with_reducible apply And.intro); omega)))
        refine callX_fix (call_flat L08_exampleHolds_ok rfl) ?_
        (repeat (first | (simp (disch := first | exact dis1 | fail) only [evA, Nat.reduceBEq, Nat.reduceAdd, Nat.reduceLeDiff, boxR, rboxR, allocR, fldR, binI, unR, pickR, mknilR, mkslR, buildSlR, buildR, extR, convI, eqB, evU, wrap64, rs_L08_ObjectDamage]) | (with_reducible intro _) | ((with_reducible apply And.intro); omega)))
        exact ⟨_, .bool _ _, rfl⟩
      have d2 : decide ((b.length : Int) ≤ at_) = false := decide_eq_false hb
      (repeat (first | (simp (disch := first | exact dis1 | fail) only [evA, Nat.reduceBEq, Nat.reduceAdd, Nat.reduceLeDiff, boxR, rboxR, allocR, fldR, binI, unR, pickR, mknilR, mkslR, buildSlR, buildR, extR, convI, eqB, evU, wrap64, d2]) | (with_reducible intro _) | ((with_reducible apply And.intro); omega)))
      by_cases hc : by_ = 0
      · have d3 : decide (by_ = 0) = true := decide_eq_true hc
        (repeat (first | (simp (disch := first | exact dis1 | fail) only [evA, Nat.reduceBEq, Nat.reduceAdd, Nat.reduceLeDiff, boxR, rboxR, allocR, fldR, binI, unR, pickR, mknilR, mkslR, buildSlR, buildR, extR, convI, eqB, evU, wrap64, d3]) | (with_reducible intro _) | ((with_reducible apply And.intro); omega)))
        refine callX_fix (call_flat L08_exampleHolds_ok rfl) ?_
        (repeat (first | (simp (disch := first | exact dis1 | fail) only [evA, Nat.reduceBEq, Nat.reduceAdd, Nat.reduceLeDiff, boxR, rboxR, allocR, fldR, binI, unR, pickR, mknilR, mkslR, buildSlR, buildR, extR, convI, eqB, evU, wrap64, rs_L08_ObjectDamage]) | (with_reducible intro _) | ((with_reducible apply And.intro); omega)))
        exact ⟨_, .bool _ _, rfl⟩
      have d3 : decide (by_ = 0) = false := decide_eq_false hc
      obtain ⟨i, hi⟩ : ∃ i : Nat, at_ = i := ⟨at_.toNat, by omega⟩
      subst hi
      have hi : i < b.length := by omega
      have hlen : b.length ≤ 65536 := c3
      have hsl : ∀ {H : AH}, elsOf 1 (encL 1 cByte b) H = some (b.map cByte) := fun {H} => elsOf_encL (fun _ _ => rfl)
      obtain ⟨k, hk⟩ : ∃ k : Nat, by_ = k := ⟨by_.toNat, by omega⟩
      subst hk
      have hu := u8_lt b[i]
      have hwv : IntKind.u8.wrap ((b[i].toNat : Int) + (k : Int)) = (((UInt8.ofNat (b[i].toNat + k)).toNat : Nat) : Int) := by
        rw [UInt8.toNat_ofNat']
        show ((b[i].toNat : Int) + (k : Int)) % 256 = _
        omega
      have hx : UInt8.ofNat (b[i].toNat + k) ≠ b.getD i 0 := by
        rw [show b.getD i 0 = b[i] by rw [List.getD_eq_getElem?_getD, List.getElem?_eq_getElem hi]; rfl]
        intro h
        have h := congrArg UInt8.toNat h
        rw [UInt8.toNat_ofNat'] at h
        omega
      have hdm := fun o' => hdm o' i _ hi hlen hx
      generalize UInt8.ofNat (b[i].toNat + k) = x at *
      have hset : (b.map cByte).set i [AV.int .u8 (x.toNat : Int)] = (b.set i x).map cByte := by
        rw [List.map_set]
        rfl
      have hcl : (b.set i x).length = b.length := List.length_set
      have hD := object_Decode_ok (b.set i x) (by rw [hcl]; omega)
      have hde : (decodeP (b.set i x)).2 ≠ 0 := fun h => by
        obtain ⟨o', h'⟩ := decode_e h
        exact hdm o' h'
      generalize decodeP (b.set i x) = q at *
      obtain ⟨o2, e2⟩ := q
      simp only at hde
      have d4 : decide (e2 ≠ 0) = true := decide_eq_true hde
      (repeat (first | (simp (disch := first | exact dis1 | fail) only [evA, Nat.reduceBEq, Nat.reduceAdd, Nat.reduceLeDiff, boxR, rboxR, allocR, fldR, binI, unR, pickR, mknilR, mkslR, buildSlR, buildR, extR, convI, eqB, evU, wrap64, d3, hsl, getD_map hi, hwv, hset, Int.toNat_natCast, Nat.zero_add, cByte]) | (with_reducible intro _) | ((with_reducible apply And.intro); omega)))
      refine markX_intro [(9, encB (b.set i x))] [] 0 fun _ => ⟨Ent.tab [] [0] rfl (by simp only [evWA, Nat.reduceBEq, Nat.reduceAdd, Nat.reduceSub, Nat.reduceLeDiff, Nat.reduceLT, implies_true, and_self, Int.natCast_zero, Int.natCast_one, Int.cast_ofNat_Int, evV, encInts, encNats, encBools, encP]) (by simp only [evWA, Nat.reduceBEq, Nat.reduceAdd, Nat.reduceSub, Nat.reduceLeDiff, Nat.reduceLT, implies_true, and_self, Int.natCast_zero, Int.natCast_one, Int.cast_ofNat_Int, evV, encInts, encNats, encBools, encP]; exact vw_bytes rfl rfl hcl.symm (by omega)), ?_⟩
      unfold ac_L08_ObjectDamage_k0
      (repeat (first | (simp (disch := first | exact dis1 | fail) only [evA, Nat.reduceBEq, Nat.reduceAdd, Nat.reduceLeDiff, boxR, rboxR, allocR, fldR, binI, unR, pickR, mknilR, mkslR, buildSlR, buildR, extR, convI, eqB, evU, wrap64]) | (with_reducible intro _) | ((with_reducible apply And.intro); omega)))
      refine callX_fix (call_flat hD rfl) ?_
      (repeat (first | (simp (disch := first | exact dis1 | fail) only [evA, Nat.reduceBEq, Nat.reduceAdd, Nat.reduceLeDiff, boxR, rboxR, allocR, fldR, binI, unR, pickR, mknilR, mkslR, buildSlR, buildR, extR, convI, eqB, evU, wrap64, Bin.len, Bin.flat, Bin.four, d4]) | (with_reducible intro _) | ((with_reducible apply And.intro); omega)))
      refine callX_fix (call_flat L08_exampleHolds_ok rfl) ?_
      (repeat (first | (simp (disch := first | exact dis1 | fail) only [evA, Nat.reduceBEq, Nat.reduceAdd, Nat.reduceLeDiff, boxR, rboxR, allocR, fldR, binI, unR, pickR, mknilR, mkslR, buildSlR, buildR, extR, convI, eqB, evU, wrap64, rs_L08_ObjectDamage]) | (with_reducible intro _) | ((with_reducible apply And.intro); omega)))
      exact ⟨_, .bool _ _, rfl⟩

end Go.Ab
