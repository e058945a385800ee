/-
  Part 5 of the proof: how the calls of this program run, over values instead of memory, and what each function computes.
-/
import Derived.Test.YtmlhipilbnjhiaaGreatProg
import Derived.Shelf.SlIterI.Nil
import Derived.Shelf.SortM.Plain
import Derived.Shelf.SortM.SortNone
import Derived.Test.YtmlhipilbnjhiaaGreatKd
set_option maxRecDepth 100000
set_option linter.unusedVariables false
set_option linter.unusedSimpArgs false
set_option linter.unnecessarySimpa false
set_option linter.unusedSectionVars false

namespace Go.Ab
open Go.RowKit
section
variable {P : Program}
theorem zwu {ops : Array Oper} {bs : List AOper} {Qc : Exit → Act → World → Prop} (hlen : bs.length = ops.size) (J : List Bool → Act → World → Prop)
    (hend : ∀ l a w, l.length = bs.length → J l a w → (∀ i, i < bs.length → zcr (ops.toList.map zcF) l i = false) → Qc .normal a w)
    (hstep : ∀ l i a w, l.length = bs.length → i < bs.length → zcr (ops.toList.map zcF) l i = true → J l a w → ∀ o, ops[i]? = some o →
      if Region.wanted o (yielded ops a.tmps) then o.wp P a w (J (l.set i true)) Qc else J (l.set i true) (a.put o.dst undef) w) :
    ∀ (fuel : Nat) (l : List Bool) (a : Act) (w : World), l.length = bs.length → zgx l ≤ fuel → J l a w → wpAny P .any ops Qc fuel l.toArray a w
  | 0, l, a, w, hl, hc, hj => by
    have hno : ∀ i, i < bs.length → zcr (ops.toList.map zcF) l i = false := fun i hi => by
      have := zjX (l := l) (by omega) i (by omega)
      unfold zcr
      rw [this]
      rfl
    refine ⟨?_, hend l a w hl hj hno⟩
    rw [List.eq_nil_iff_forall_not_mem]
    intro j hj
    obtain ⟨h1, h2⟩ := (zgP (by omega)).1 hj
    rw [hno j (by omega)] at h2
    cases h2
  | fuel + 1, l, a, w, hl, hc, hj => by
    refine ⟨fun h0 => hend l a w hl hj fun i hi => ?_, fun i hi => ?_⟩
    · cases hb : zcr (ops.toList.map zcF) l i with
      | false => rfl
      | true =>
        have : i ∈ Region.ready .any ops l.toArray := (zgP (by omega)).2 ⟨by omega, hb⟩
        rw [h0] at this
        simp at this
    · obtain ⟨h1, h2⟩ := (zgP (by omega)).1 hi
      have ho : ops[i]? = some ops[i] := Array.getElem?_eq_getElem h1
      have hset := zk3 (l := l) (i := i) (by omega) (zbx.1 h2).1
      have next : ∀ a w, J (l.set i true) a w → wpAny P .any ops Qc fuel (l.toArray.setIfInBounds i true) a w := fun a w hj => by
        have := zwu hlen J hend hstep fuel (l.set i true) a w (by simpa using hl) (by omega) hj
        simpa using this
      have := hstep l i a w hl (by omega) h2 hj ops[i] ho
      unfold wpOp
      rw [ho]
      simp only
      split
      · rename_i hw
        rw [if_pos hw] at this
        exact .inl (Oper.wp_mono (fun a w h => next a w h) this)
      · rename_i hw
        rw [if_neg hw] at this
        exact next _ _ this
def valX (P : Program) (call : zba) (o : AOper) (ρ : Nat → AV) (H : AH) (nx : Nat) : Option (AV × AH × Nat) :=
  match o.guard with
  | none => znC P call o.op ρ H nx
  | some (t, want) => match grd want (ρ t) with
    | some true => znC P call o.op ρ H nx
    | some false => some (.tup [], H, nx)
    | none => none
theorem zvH {call : zba} (hs : call.Sound P) {o : AOper} {ρ ρ2 : Nat → AV} (hl : ∀ t ∈ o.looks, ρ2 t = ρ t) {H : AH} {nx : Nat} {r : AV × AH × Nat} (h : valX P call o ρ H nx = some r) {k : (Nat → AV) → AH → Nat → Prop} (hk : k (upd ρ2 o.dst r.1) r.2.1 r.2.2) : ExF P false o ρ2 H nx k := by
  have body : znC P call o.op ρ H nx = some r → zbX P false o.op ρ2 H nx (fun v H' nx' => k (upd ρ2 o.dst v) H' nx') := fun h => by
    rw [zmI (P := P) (fx := false) (ρ' := ρ) fun t ht => hl t (zmq ht)]
    exact zpn hs h hk
  unfold valX at h
  unfold ExF
  cases hg : o.guard with
  | none => rw [hg] at h; exact body h
  | some p =>
    obtain ⟨t, want⟩ := p
    rw [hg] at h
    simp only at h ⊢
    rw [hl t (zjY hg)]
    cases hw : grd want (ρ t) with
    | none => rw [hw] at h; cases h
    | some b =>
      rw [hw] at h
      cases b with
      | true => exact ⟨fun _ => body h, fun hf => (by cases hf)⟩
      | false => cases h; exact ⟨fun hf => (by cases hf), fun _ => hk⟩
def seqV (P : Program) (call : zba) : List AOper → Kn → AH → Nat → Option (List (Nat × AV) × List (Nat × Nat) × Nat)
  | [], _, _, nx => some ([], [], nx)
  | o :: os, K, H, nx => match valX P call o K.get H nx with
    | some (v, H', nx') => match seqV P call os (setO K o.dst v) H' nx' with
      | some (vs, rs, top) => some ((match o.dst with
        | some d => (d, v) :: vs
        | none => vs), (nx, nx' - nx) :: rs, top)
      | none => none
    | none => none
def zzN : List (List Nat) → List (List Nat) → List (List Nat)
  | acc, [] => acc
  | acc, ds :: r => zzN (acc ++ [(ds ++ ds.flatMap fun d => acc.getD d []).eraseDups]) r
def renV (ρ : Nat → Nat) : Nat → AV → AV
  | 0, v => v
  | d + 1, v => match v with
    | .ptr r q g i f => .ptr (ρ r) q g i f
    | .own r q g off n => .own (ρ r) q g off n
    | .fn f caps => .fn f (caps.map (renV ρ d))
    | .agg l => .agg (l.map (renV ρ d))
    | .tup l => .tup (l.map (renV ρ d))
    | .mp r => .mp (ρ r)
    | .it r => .it (ρ r)
    | v => v
def renH (ρ : Nat → Nat) : AH → AH
  | [] => []
  | (r, o) :: t => (ρ r, match o with
    | .row sz els g => .row sz (els.map fun c => c.map (renV ρ 30)) g
    | .fam sz ins => .fam sz ins) :: renH ρ t
abbrev STab := List (List Nat × AH)
def zkP : STab → List Nat → AH
  | [], _ => []
  | (S, H) :: t, S' => bif beqL S S' then H else zkP t S'
def zqZ (ops : List AOper) (A : List (List Nat)) (i : Nat) : List Nat :=
  (List.range ops.length).filterMap fun j => bif Nat.beq j i || memN (A.getD j []) i then (ops.getD j default).dst else none
def zr4 (ops : List AOper) (A : List (List Nat)) (K0 Kf : Kn) (i : Nat) : Kn := zbq Kf ((zqZ ops A i).map fun t => (t, K0.get t))
def zAj (P : Program) (call : zba) (ops : List AOper) (Ls : List Nat) (A : List (List Nat)) (K0 Kf : Kn) (rs : List (Nat × Nat)) (top : Nat) (S : List Nat) (H : AH) : List Nat → STab → List (List Nat) → Option (STab × List (List Nat))
  | [], tab, todo => some (tab, todo)
  | i :: r, tab, todo =>
    bif zfr Ls A i S && !memS (tab.map (·.1)) (zma Ls i S) then
      match valX P call (ops.getD i default) (zr4 ops A K0 Kf i).get H top with
      | some (_, H', _) => zAj P call ops Ls A K0 Kf rs top S H r (tab ++ [(zma Ls i S, renH (fun x => bif Nat.blt x top then x else x - top + (rs.getD i (0, 0)).1) H')]) (todo ++ [zma Ls i S])
      | none => none
    else zAj P call ops Ls A K0 Kf rs top S H r tab todo
def growT (P : Program) (call : zba) (ops : List AOper) (Ls : List Nat) (A : List (List Nat)) (K0 Kf : Kn) (rs : List (Nat × Nat)) (top : Nat) : Nat → List (List Nat) → STab → Option STab
  | 0, _, tab => some tab
  | _ + 1, [], tab => some tab
  | n + 1, S :: todo, tab => match zAj P call ops Ls A K0 Kf rs top S (zkP tab S) Ls tab todo with
    | some (tab', todo') => growT P call ops Ls A K0 Kf rs top n todo' tab'
    | none => none
def idS : Sg := fun r => some r
def dstB (σ : Sg) (Kf : Kn) : Option Nat → AV → Bool
  | none, _ => true
  | some d, v => vwB σ 30 v (Kf.get d)
def chkE (P : Program) (call : zba) (ops : List AOper) (A : List (List Nat)) (K0 Kf : Kn) (rs : List (Nat × Nat)) (nx top : Nat) (tab : STab) (e : Nat × List Nat × List Nat) : Bool :=
  match valX P call (ops.getD e.1 default) (zr4 ops A K0 Kf e.1).get (zkP tab e.2.1) top with
  | some (v, H', _) =>
    bif (ops.getD e.1 default).fixed then dstB idS Kf (ops.getD e.1 default).dst v
    else Nat.ble nx (rs.getD e.1 (0, 0)).1 && (Nat.ble ((rs.getD e.1 (0, 0)).1 + (rs.getD e.1 (0, 0)).2) top &&
      (zuP (sgR (rs.getD e.1 (0, 0)).1 (rs.getD e.1 (0, 0)).2 top top) top H' (zkP tab e.2.2) &&
      (dstB (sgR (rs.getD e.1 (0, 0)).1 (rs.getD e.1 (0, 0)).2 top top) Kf (ops.getD e.1 default).dst v &&
      ((Kf.all fun p => memN (zqZ ops A e.1) p.1 || okB (sgR (rs.getD e.1 (0, 0)).1 (rs.getD e.1 (0, 0)).2 top top) 30 p.2) &&
      K0.all fun p => okB (sgR (rs.getD e.1 (0, 0)).1 (rs.getD e.1 (0, 0)).2 top top) 30 p.2))))
  | none => false
def planX (ops : List AOper) (Ls : List Nat) (A : List (List Nat)) (St : List (List Nat)) : Plan :=
  (List.range ops.length).flatMap fun i =>
    bif memN Ls i then (St.filter (zfr Ls A i)).map fun S => (i, S, zma Ls i S)
    else bif (ops.getD i default).sees then (St.filter (zfr Ls A i)).map fun S => (i, S, S)
    else ((St.filter (zfr Ls A i)).take 1).map fun S => (i, S, S)
structure DR where
  Kf : Kn
  H : AH
  top : Nat
def zzV (ops : List AOper) (A : List (List Nat)) (i t : Nat) : Bool :=
  ((A.getD i []).any fun j => match (ops.getD j default).dst with | some d => Nat.beq d t | none => false) ||
  allB ops.length fun j => match (ops.getD j default).dst with | some d => !Nat.beq d t || (Nat.beq j i || memN (A.getD j []) i) | none => true
def znd (o : AOper) : AOper := { o with op := bif o.fixed && !o.sees then .mov (.c .undef) else .mknil 0, guard := none }
def zwB (ops : List AOper) (deps : List (List Nat)) (Ls : List Nat) (A : List (List Nat)) (St : List (List Nat)) (plan : Plan) (ks : List Nat) : Bool :=
  zwO (ops.map znd) deps Ls A St plan ks
def drawR (P : Program) (call : zba) (ops : List AOper) (deps : List (List Nat)) (Ls : List Nat) (A : List (List Nat)) (vs : List (Nat × AV)) (rs : List (Nat × Nat)) (tab : STab) (K : Kn) (nx top : Nat) : Option (Kn × AH × Nat) :=
  bif Nat.ble nx top && (zwB ops deps Ls A (tab.map (·.1)) (planX ops Ls A (tab.map (·.1))) (vs.map (·.1)) && ((allB ops.length fun i => (ops.getD i default).looks.all (zzV ops A i)) && (planX ops Ls A (tab.map (·.1))).all (chkE P call ops A K (zbq K vs) rs nx top tab)))
  then some (zbq K vs, zkP tab Ls, top) else none
def zzY (P : Program) (call : zba) (ops : List AOper) (deps : List (List Nat)) (K : Kn) (H : AH) (nx : Nat) : Option (Kn × AH × Nat) :=
  match seqV P call ops K H nx with
  | some (vs, rs, top) =>
    match growT P call ops ((List.range ops.length).filter fun i => !(ops.getD i default).fixed) (zzN [] deps) K (zbq K vs) rs top 5000 [[]] [([], H)] with
    | some tab0 => drawR P call ops deps ((List.range ops.length).filter fun i => !(ops.getD i default).fixed) (zzN [] deps) vs rs (([], H) :: tab0.tail) K nx top
    | none => none
  | none => none
theorem zxV (H : AH) (ι : Inj) : zc7 H idS.two ι = ι := by
  funext r q g
  simp [zc7, Sg.two, idS]
theorem vr_id {w : World} {L : Nat → Prop} {ι : Inj} {H : AH} {nx : Nat} (rel : RelH w L ι H nx) {a b : AV} (h : Vw H H idS.two noD true a b) {v : Value} (hv : VR w (Lt L ι H) ι v a) : VR w (Lt L ι H) ι v b := by
  have := h.sound rel (M := Lt L ι H) (fun _ h => h) (fun _ _ _ _ _ _ h => h.elim) v hv
  rw [zxV] at this
  exact this
theorem RelH.up {w : World} {L : Nat → Prop} {ι : Inj} {H : AH} {nx nx' : Nat} (rel : RelH w L ι H nx) (h : nx ≤ nx') : RelH w L ι H nx' :=
  ⟨rel.row, rel.apart, rel.out, fun r q g l hi => Nat.lt_of_lt_of_le (rel.idx r q g l hi) h, fun r o hi => Nat.lt_of_lt_of_le (rel.dom r o hi) h, rel.gen, rel.Lsz⟩
def vsD (ops : List AOper) (Kf : Kn) (l : List Bool) : List (Nat × AV) := (List.range ops.length).filterMap fun i => bif getB l i then (ops.getD i default).dst.map fun d => (d, Kf.get d) else none
theorem zrL {ops : List AOper} {Kf : Kn} {l : List Bool} {p : Nat × AV} : p ∈ vsD ops Kf l ↔ ∃ i, i < ops.length ∧ getB l i = true ∧ (ops.getD i default).dst = some p.1 ∧ p.2 = Kf.get p.1 := by
  unfold vsD
  rw [List.mem_filterMap]
  constructor
  · rintro ⟨i, hi, h⟩
    refine ⟨i, List.mem_range.1 hi, ?_⟩
    cases hb : getB l i with
    | false => rw [hb] at h; cases h
    | true =>
      rw [hb] at h
      obtain ⟨d, hd, rfl⟩ := Option.map_eq_some_iff.1 h
      exact ⟨rfl, hd, rfl⟩
  · rintro ⟨i, hi, hb, h, he⟩
    exact ⟨i, List.mem_range.2 hi, by rw [hb, cond_true, h, Option.map_some, ← he]⟩
theorem zk9 : ∀ {vs : List (Nat × AV)} {K : Kn} {t : Nat} {v : AV}, (∀ p ∈ vs, p.1 = t → p.2 = v) → t ∈ vs.map (·.1) → (zbq K vs).get t = v
  | [], _, _, _, _, h => by simp at h
  | (d, u) :: r, K, t, v, h, hm => by
    rw [zbq]
    by_cases hr : t ∈ r.map (·.1)
    · exact zk9 (fun p hp => h p (List.mem_cons_of_mem _ hp)) hr
    · rw [zfg hr, Kn.get_set]
      simp only [List.map_cons, List.mem_cons] at hm
      rcases hm with hm | hm
      · subst hm
        rw [if_pos rfl]
        exact h (t, u) (by simp) rfl
      · exact absurd hm hr
def zhZ (ops : List AOper) (K0 Kf : Kn) (l : List Bool) : Kn := zbq K0 (vsD ops Kf l)
theorem zgF {ops : List AOper} {K0 Kf : Kn} {l : List Bool} {i t : Nat} (hi : i < ops.length) (hb : getB l i = true) (hd : (ops.getD i default).dst = some t) : (zhZ ops K0 Kf l).get t = Kf.get t := by
  unfold zhZ
  refine zk9 (fun p hp e => ?_) (List.mem_map.2 ⟨(t, Kf.get t), zrL.2 ⟨i, hi, hb, hd, rfl⟩, rfl⟩)
  obtain ⟨_, _, _, _, h⟩ := zrL.1 hp
  rw [h, e]
theorem ziV {ops : List AOper} {K0 Kf : Kn} {l : List Bool} {t : Nat} (h : ∀ i, i < ops.length → getB l i = true → (ops.getD i default).dst ≠ some t) : (zhZ ops K0 Kf l).get t = K0.get t := by
  unfold zhZ
  refine zfg fun hm => ?_
  obtain ⟨p, hp, e⟩ := List.mem_map.1 hm
  obtain ⟨i, hi, hb, hd, _⟩ := zrL.1 hp
  exact h i hi hb (by rw [hd, e])
theorem zm8 {ops : List AOper} {A : List (List Nat)} {i t : Nat} (h : t ∈ zqZ ops A i) : ∃ j, j < ops.length ∧ (j = i ∨ i ∈ A.getD j []) ∧ (ops.getD j default).dst = some t := by
  unfold zqZ at h
  obtain ⟨j, hj, h⟩ := List.mem_filterMap.1 h
  refine ⟨j, List.mem_range.1 hj, ?_⟩
  cases hb : Nat.beq j i || memN (A.getD j []) i with
  | false => rw [hb] at h; cases h
  | true =>
    rw [hb] at h
    refine ⟨?_, h⟩
    rcases Bool.or_eq_true_iff.1 hb with hb | hb
    · exact .inl (zl hb)
    · exact .inr ((zas _ _).1 hb)
theorem Kn.get_mem {K : Kn} {t : Nat} : K.get t = .undef ∨ (t, K.get t) ∈ K := by
  induction K with
  | nil => exact .inl rfl
  | cons p r ih =>
    obtain ⟨j, u⟩ := p
    simp only [Kn.get]
    cases hb : Nat.beq j t with
    | true => rw [zl hb]; exact .inr (by simp)
    | false =>
      rcases ih with h | h
      · exact .inl h
      · exact .inr (List.mem_cons_of_mem _ h)
theorem zwa {ops : List AOper} {A : List (List Nat)} {K0 Kf : Kn} {i t : Nat} (h : t ∈ zqZ ops A i) : (zr4 ops A K0 Kf i).get t = K0.get t := by
  unfold zr4
  refine zk9 (fun p hp e => ?_) ?_
  · obtain ⟨x, _, rfl⟩ := List.mem_map.1 hp
    simp only at e
    subst e
    rfl
  · rw [List.map_map]
    exact List.mem_map.2 ⟨t, h, rfl⟩
theorem zs0 {ops : List AOper} {A : List (List Nat)} {K0 Kf : Kn} {i t : Nat} (h : t ∉ zqZ ops A i) : (zr4 ops A K0 Kf i).get t = Kf.get t := by
  unfold zr4
  refine zfg fun hm => ?_
  rw [List.map_map] at hm
  obtain ⟨x, hx, rfl⟩ := List.mem_map.1 hm
  exact h hx
theorem zyH {ops : List AOper} {A : List (List Nat)} {i j t : Nat} (hj : j < ops.length) (h : j = i ∨ i ∈ A.getD j []) (hd : (ops.getD j default).dst = some t) : t ∈ zqZ ops A i := by
  unfold zqZ
  refine List.mem_filterMap.2 ⟨j, List.mem_range.2 hj, ?_⟩
  have : (Nat.beq j i || memN (A.getD j []) i) = true := by
    rcases h with h | h
    · rw [h, zbC]; rfl
    · rw [(zas _ _).2 h, Bool.or_true]
  rw [this]
  exact hd
structure DOk (ops : List AOper) (deps : List (List Nat)) (Ls : List Nat) (A : List (List Nat)) (St : List (List Nat)) (plan : Plan) (ks : List Nat) : Prop where
  low : ∀ (i : Nat), i < ops.length → ∀ j ∈ deps.getD i [], j < i
  clo : ∀ (i : Nat), i < ops.length → ∀ j ∈ A.getD i [], j ∈ deps.getD i [] ∨ ∃ d ∈ deps.getD i [], j ∈ A.getD d []
  one : ∀ (i j d : Nat), i < ops.length → j < ops.length → (ops.getD i default).dst = some d → (ops.getD j default).dst = some d → i = j
  keys : ∀ k ∈ ks, ∃ j, j < ops.length ∧ (ops.getD j default).dst = some k
  look : ∀ (i : Nat), i < ops.length → ∀ t ∈ (ops.getD i default).looks, (∃ j ∈ A.getD i [], (ops.getD j default).dst = some t) ∨ ∀ j, j < ops.length → (ops.getD j default).dst = some t → j = i ∨ i ∈ A.getD j []
  lin : ∀ i ∈ Ls, i < ops.length
  st0 : [] ∈ St
  stc : ∀ S ∈ St, ∀ i ∈ Ls, zfr Ls A i S = true → zma Ls i S ∈ St
  plan : ∀ (i : Nat), i < ops.length → ((ops.getD i default).fixed = true ∧ (ops.getD i default).sees = false ∧ i ∉ Ls ∧ anyP plan i = true) ∨
    (i ∉ Ls ∧ ∀ S ∈ St, zfr Ls A i S = true → memP plan i S S = true) ∨ (i ∈ Ls ∧ ∀ S ∈ St, zfr Ls A i S = true → memP plan i S (zma Ls i S) = true)
theorem zob {ops : List AOper} {i : Nat} (hi : i < ops.length) : (ops.map znd).getD i default = znd (ops.getD i default) := by
  rw [List.getD_eq_getElem?_getD, List.getElem?_map, List.getD_eq_getElem?_getD, List.getElem?_eq_getElem hi]
  rfl
theorem zjL {ops : List AOper} {i : Nat} : ((ops.map znd).getD i default).dst = (ops.getD i default).dst := by
  by_cases hi : i < ops.length
  · rw [zob hi]; rfl
  · rw [List.getD_eq_getElem?_getD, List.getElem?_eq_none (by rw [List.length_map]; omega), List.getD_eq_getElem?_getD, List.getElem?_eq_none (by omega)]
theorem dok_of {ops : List AOper} {deps : List (List Nat)} {Ls : List Nat} {A : List (List Nat)} {St : List (List Nat)} {plan : Plan} {ks : List Nat} (h : zwB ops deps Ls A St plan ks = true) (h2 : (allB ops.length fun i => (ops.getD i default).looks.all (zzV ops A i)) = true) : DOk ops deps Ls A St plan ks := by
  have ok := zv9 h
  have hl : (ops.map znd).length = ops.length := List.length_map _
  refine ⟨fun i hi => ok.low i (by omega), fun i hi => ok.clo i (by omega), fun i j d hi hj h1 h2 => ok.one i j d (by omega) (by omega) (by rw [zjL]; exact h1) (by rw [zjL]; exact h2), fun k hk => ?_, fun i hi t ht => ?_, fun i hi => by have := ok.lin i hi; omega, ok.st0, ok.stc, fun i hi => ?_⟩
  · obtain ⟨o, ho, hd⟩ := ok.keys k hk
    obtain ⟨j, hj, he⟩ := List.mem_iff_getElem.1 ho
    refine ⟨j, by omega, ?_⟩
    rw [← zjL, List.getD_eq_getElem?_getD, List.getElem?_eq_getElem hj, he]
    exact hd
  · have := List.all_eq_true.1 (zaV h2 hi) t ht
    unfold zzV at this
    rcases Bool.or_eq_true_iff.1 this with this | this
    · obtain ⟨j, hj, hd⟩ := List.any_eq_true.1 this
      refine .inl ⟨j, hj, ?_⟩
      cases e : (ops.getD j default).dst with
      | none => rw [e] at hd; cases hd
      | some d => rw [e] at hd; rw [zl hd]
    · refine .inr fun j hj hd => ?_
      have := zaV this hj
      rw [hd] at this
      simp only [zbC, Bool.not_true, Bool.false_or, Bool.or_eq_true] at this
      rcases this with this | this
      · exact .inl (zl this)
      · exact .inr ((zas _ _).1 this)
  · rcases ok.plan i (by omega) with ⟨h1, h2, h3, h4⟩ | h | h
    · rw [zob hi] at h1 h2
      refine .inl ⟨?_, ?_, h3, h4⟩
      · cases hf : (ops.getD i default).fixed with
        | true => rfl
        | false => unfold znd at h1; rw [hf] at h1; cases h1
      · cases hs : (ops.getD i default).sees with
        | false => rfl
        | true => unfold znd at h1; rw [hs, Bool.not_true, Bool.and_false] at h1; cases h1
    · exact .inr (.inl h)
    · exact .inr (.inr h)
theorem zkd {ops : List AOper} {deps : List (List Nat)} {Ls : List Nat} {A : List (List Nat)} {St : List (List Nat)} {plan : Plan} {ks : List Nat} (ok : DOk ops deps Ls A St plan ks) {l : List Bool}
    (hc : ∀ i, i < ops.length → getB l i = true → ∀ j ∈ deps.getD i [], getB l j = true) : ∀ (i : Nat), i < ops.length → (∀ j ∈ deps.getD i [], getB l j = true) → ∀ j ∈ A.getD i [], getB l j = true := by
  intro i
  induction i using Nat.strongRecOn with
  | _ i ih =>
    intro hi hd j hj
    rcases ok.clo i hi j hj with h | ⟨d, h1, h2⟩
    · exact hd j h
    · have hlt := ok.low i hi d h1
      exact ih d hlt (by omega) (hc d (by omega) (hd d h1)) j h2
structure DX (P : Program) (call : zba) (ops : List AOper) (deps : List (List Nat)) (Ls : List Nat) (A : List (List Nat)) (St : List (List Nat)) (plan : Plan) (ks : List Nat) (K0 Kf : Kn) (rs : List (Nat × Nat)) (nx top : Nat) (tab : STab) : Prop where
  ok : DOk ops deps Ls A St plan ks
  chk : ∀ e ∈ plan, chkE P call ops A K0 Kf rs nx top tab e = true
  lsF : ∀ i, i ∈ Ls → (ops.getD i default).fixed = false
  lsT : ∀ i, i < ops.length → i ∉ Ls → (ops.getD i default).fixed = true
theorem zs1 : ∀ {l : Plan} {a : Nat}, anyP l a = true → ∃ S, (a, S, S) ∈ l
  | [], _, h => by cases h
  | (i, k, k') :: r, a, h => by
    simp only [anyP, Bool.or_eq_true, Bool.and_eq_true] at h
    rcases h with ⟨h1, h2⟩ | h
    · rw [← zl h1, ← zix h2]; exact ⟨k, by simp⟩
    · obtain ⟨S, hS⟩ := zs1 h
      exact ⟨S, List.mem_cons_of_mem _ hS⟩
theorem zoY : ∀ {l : Plan} {a : Nat} {b c : List Nat}, memP l a b c = true → (a, b, c) ∈ l
  | [], _, _, _, h => by cases h
  | (i, k, k') :: r, a, b, c, h => by
    simp only [memP, Bool.or_eq_true, Bool.and_eq_true] at h
    rcases h with ⟨h1, h2, h3⟩ | h
    · rw [← zl h1, ← zix h2, ← zix h3]; simp
    · exact List.mem_cons_of_mem _ (zoY h)
theorem zsg {K : Kn} {d : Option Nat} {v : AV} {t : Nat} (h : d ≠ some t) : (setO K d v).get t = K.get t := by
  rw [zmr]
  exact zkH h
theorem zrp {K : Kn} {d : Option Nat} {v : AV} {t : Nat} (h : d = some t) : (setO K d v).get t = v := by
  subst h
  simp [setO, Kn.get_set]
theorem upd_eq {ρ : Nat → AV} {d : Option Nat} {v : AV} {t : Nat} (h : d = some t) : upd ρ d v t = v := by
  subst h
  simp [upd]
theorem DX.sound {call : zba} (hs : call.Sound P) {nt : Nat} {w0 : World} {L : Nat → Prop} {ι0 : Inj} {H0 : AH} {B : Nat} (base : RelH w0 L ι0 H0 B) {id : Nat} {ops : Array Oper} {bs : List AOper} (hlen : bs.length = ops.size)
    (hrel : ∀ (i : Nat) (o : Oper) (ao : AOper), ops.toList[i]? = some o → bs[i]? = some ao → OpRel P nt ops o ao) (hfol : P.follows .mixedOrders = true)
    {Ls : List Nat} {A St : List (List Nat)} {plan : Plan} {vs : List (Nat × AV)} {rs : List (Nat × Nat)} {tab : STab} {K : Kn} {H : AH} {nx top : Nat} (htop : nx ≤ top) (htab : zkP tab [] = H)
    (dx : DX P call bs (ops.toList.map zcF) Ls A St plan (vs.map (·.1)) K (zbq K vs) rs nx top tab) {w : World} {ι : Inj} {a : Act} (hin : In nt w0 L ι0 H0 B w ι K.get H nx a) {Q : QT} (hq : Q .normal (zbq K vs) (zkP tab Ls) top) :
    (Code.region id ops true).wp P (QQ nt w0 L ι0 H0 B Q) a w := by
  obtain ⟨ok, hchk, hlsF, hlsT⟩ := dx
  have hBnx := hin.le
  refine wp_region_any hfol ?_
  have main := zwu (P := P) (Qc := QQ nt w0 L ι0 H0 B Q) hlen (fun l a w => ∃ ι, In nt w0 L ι0 H0 B w ι (zhZ bs K (zbq K vs) l).get (zkP tab (Ls.filter (getB l))) top a ∧ (∀ i, i < bs.length → getB l i = true → ∀ j ∈ (ops.toList.map zcF).getD i [], getB l j = true) ∧ Ls.filter (getB l) ∈ St) ?_ ?_ bs.length (List.replicate bs.length false) a { w with drawn := w.drawn + 1 } (by simp) (by
    have : ∀ n, zgx (List.replicate n false) = n := fun n => by
      induction n with
      | zero => rfl
      | succ n ih => rw [List.replicate_succ, zgx, ih]; simp; omega
    rw [this]
    exact Nat.le_refl _) ?_
  · rw [hlen] at main
    simpa using main
  ·
    rintro l a w hl ⟨ι, hin, hclo, hst⟩ hnone
    have hall : ∀ i, i < bs.length → getB l i = true := by
      intro i
      induction i using Nat.strongRecOn with
      | _ i ih =>
        intro hi
        have := hnone i hi
        cases hb : getB l i with
        | true => rfl
        | false =>
          have hr : zcr (ops.toList.map zcF) l i = true := zbx.2 ⟨hb, fun j hj => ih j (ok.low i hi j hj) (by have := ok.low i hi j hj; omega)⟩
          rw [this] at hr
          cases hr
    have hcnt : Ls.filter (getB l) = Ls := List.filter_eq_self.2 (fun m hm => hall m (ok.lin m hm))
    rw [hcnt] at hin
    have e : (zhZ bs K (zbq K vs) l).get = (zbq K vs).get := funext fun t => by
      by_cases h : ∃ i, i < bs.length ∧ (bs.getD i default).dst = some t
      · obtain ⟨i, hi, hd⟩ := h
        exact zgF hi (hall i hi) hd
      · rw [ziV fun i hi _ hd => h ⟨i, hi, hd⟩]
        exact (zfg fun hk => h (ok.keys t hk)).symm
    rw [e] at hin
    exact ⟨ι, _, _, _, hin, hq⟩
  ·
    rintro l i a w hl hi hr ⟨ι, hin, hclo, hst⟩ o ho
    obtain ⟨hun, hdeps⟩ := zbx.1 hr
    have hA := zkd ok hclo i hi hdeps
    have hlt : ∀ j, getB l j = true → j < bs.length := fun j hj => by
      apply Classical.byContradiction
      intro hcon
      unfold getB at hj
      rw [List.getD_eq_getElem?_getD, List.getElem?_eq_none (by omega)] at hj
      cases hj
    have hgetD : ∀ {t : Nat} {o : AOper}, o ∈ bs → o.dst = some t → ∃ j, j < bs.length ∧ (bs.getD j default).dst = some t := fun {t o} ho hd => by
      obtain ⟨j, hj, he⟩ := List.mem_iff_getElem.1 ho
      exact ⟨j, hj, by rw [List.getD_eq_getElem?_getD, List.getElem?_eq_getElem hj, he]; exact hd⟩
    have hcomp : zfr Ls A i (Ls.filter (getB l)) = true := by
      unfold zfr
      simp only [Bool.and_eq_true, Bool.not_eq_true', List.all_eq_true, Bool.or_eq_true]
      refine ⟨?_, fun m hm => ?_, fun m hm => ?_⟩
      · cases hb : memN (Ls.filter (getB l)) i with
        | false => rfl
        | true =>
          have := (List.mem_filter.1 ((zas _ _).1 hb)).2
          rw [hun] at this
          cases this
      · cases hb : memN (A.getD i []) m with
        | false => exact .inl rfl
        | true => exact .inr ((zas _ _).2 (List.mem_filter.2 ⟨hm, hA m ((zas _ _).1 hb)⟩))
      · obtain ⟨hmL, hml⟩ := List.mem_filter.1 hm
        cases hb : memN (A.getD m []) i with
        | false => rfl
        | true =>
          have := zkd ok hclo m (ok.lin m hmL) (hclo m (ok.lin m hmL) hml) i ((zas _ _).1 hb)
          rw [hun] at this
          cases this
    have hlk : ∀ t ∈ (bs.getD i default).looks, (zhZ bs K (zbq K vs) l).get t = (zr4 bs A K (zbq K vs) i).get t := fun t ht => by
      rcases ok.look i hi t ht with ⟨j, hj, hd⟩ | h
      · have hdone := hA j hj
        have hjn := hlt j hdone
        rw [zgF hjn hdone hd, zs0 fun hf => ?_]
        obtain ⟨j', hj', hc, hd'⟩ := zm8 hf
        have := ok.one j' j t hj' hjn hd' hd
        subst this
        rcases hc with hc | hc
        · subst hc; rw [hun] at hdone; cases hdone
        · have := zkd ok hclo j' hjn (hclo j' hjn hdone) i hc
          rw [hun] at this
          cases this
      · rw [ziV fun j hj hb hd => ?_]
        · by_cases he : ∃ j, j < bs.length ∧ (bs.getD j default).dst = some t
          · obtain ⟨j, hj, hd⟩ := he
            rw [zwa (zyH hj (h j hj hd) hd)]
          · rw [zs0 fun hf => (by obtain ⟨j, hj, _, hd⟩ := zm8 hf; exact he ⟨j, hj, hd⟩)]
            exact (zfg fun hk => he (ok.keys t hk)).symm
        · rcases h j hj hd with hc | hc
          · subst hc; rw [hun] at hb; cases hb
          · have := zkd ok hclo j hj (hclo j hj hb) i hc
            rw [hun] at this
            cases this
    have hclo' : ∀ j, j < bs.length → getB (l.set i true) j = true → ∀ m ∈ (ops.toList.map zcF).getD j [], getB (l.set i true) m = true := by
      intro j hj hjl m hm
      rw [zhp (by omega)] at hjl ⊢
      by_cases hmi : m = i
      · rw [if_pos hmi]
      · rw [if_neg hmi]
        by_cases hji : j = i
        · subst hji; exact hdeps m hm
        · rw [if_neg hji] at hjl; exact hclo j hj hjl m hm
    have hset : ∀ j, getB (l.set i true) j = if j = i then true else getB l j := fun j => zhp (by omega)
    have hsame : ∀ t, (bs.getD i default).dst ≠ some t → (zhZ bs K (zbq K vs) (l.set i true)).get t = (zhZ bs K (zbq K vs) l).get t := fun t ht => by
      by_cases h : ∃ j, j < bs.length ∧ getB l j = true ∧ (bs.getD j default).dst = some t
      · obtain ⟨j, hj, hb, hd⟩ := h
        rw [zgF hj hb hd, zgF hj (by rw [hset]; split <;> first | rfl | exact hb) hd]
      · rw [ziV fun j hj hb hd => h ⟨j, hj, hb, hd⟩, ziV fun j hj hb hd => ?_]
        rw [hset] at hb
        by_cases e : j = i
        · subst e; exact ht hd
        · rw [if_neg e] at hb; exact h ⟨j, hj, hb, hd⟩
    have hself : ∀ t, (bs.getD i default).dst = some t → (zhZ bs K (zbq K vs) (l.set i true)).get t = (zbq K vs).get t := fun t ht => zgF hi (by rw [hset, if_pos rfl]) ht
    have notin : i ∉ Ls → Ls.filter (getB (l.set i true)) = Ls.filter (getB l) := fun hni => by
      refine List.filter_congr fun m hm => ?_
      rw [zhp (by omega), if_neg (fun e : m = i => hni (by rw [← e]; exact hm))]
    have hro := hrel i o (bs.getD i default) (by simp [ho]) (by rw [List.getD_eq_getElem?_getD, List.getElem?_eq_getElem hi]; rfl)
    have entry : ∃ e ∈ plan, e.1 = i ∧ ((i ∉ Ls ∧ ((bs.getD i default).sees = false ∨ e.2.1 = Ls.filter (getB l))) ∨ (i ∈ Ls ∧ e.2.1 = Ls.filter (getB l) ∧ e.2.2 = Ls.filter (getB (l.set i true)) ∧ Ls.filter (getB (l.set i true)) ∈ St)) := by
      rcases ok.plan i hi with ⟨hf, hse, hni, ha⟩ | ⟨hni, hk⟩ | ⟨hin', hk⟩
      · obtain ⟨S, hS⟩ := zs1 ha
        exact ⟨_, hS, rfl, .inl ⟨hni, .inl hse⟩⟩
      · exact ⟨_, zoY (hk _ hst hcomp), rfl, .inl ⟨hni, .inr rfl⟩⟩
      · have hnx : zma Ls i (Ls.filter (getB l)) = Ls.filter (getB (l.set i true)) := by
          unfold zma
          refine List.filter_congr fun m hm => ?_
          rw [zhp (by omega)]
          by_cases hmi : m = i
          · subst hmi; simp [zbC]
          · rw [if_neg hmi, zdU hmi, Bool.false_or]
            cases hb : getB l m with
            | true => exact (zas _ _).2 (List.mem_filter.2 ⟨hm, hb⟩)
            | false =>
              cases hb2 : memN (Ls.filter (getB l)) m with
              | false => rfl
              | true =>
                have := (List.mem_filter.1 ((zas _ _).1 hb2)).2
                rw [hb] at this
                cases this
        have h2 := ok.stc _ hst i hin' hcomp
        rw [hnx] at h2
        exact ⟨_, zoY (hk _ hst hcomp), rfl, .inr ⟨hin', rfl, hnx, h2⟩⟩
    obtain ⟨e, hep, he1, hcase⟩ := entry
    have hc := hchk e hep
    unfold chkE at hc
    rw [he1] at hc
    split at hc
    · rename_i v H' nx' hv
      rcases hcase with ⟨hni, hsee⟩ | ⟨hil, hS, hS', hst'⟩
      ·
        have hf := hlsT i hi hni
        rw [hf] at hc
        simp only [cond_true] at hc
        have hex0 : ExF P false (bs.getD i default) (zhZ bs K (zbq K vs) l).get (zkP tab e.2.1) top (fun ρ' _ _ => ρ' = upd (zhZ bs K (zbq K vs) l).get (bs.getD i default).dst v) := zvH hs hlk hv rfl
        obtain ⟨v1, hy, hv1⟩ := znq hf hex0
        have hy' : Yld P (bs.getD i default) (zhZ bs K (zbq K vs) l).get (zkP tab (Ls.filter (getB l))) top v1 := by
          rcases hsee with hse | hse
          · exact zsV hse hy
          · rw [← hse]; exact hy
        have hex : ExF P false (bs.getD i default) (zhZ bs K (zbq K vs) l).get (zkP tab (Ls.filter (getB l))) top (fun ρ' H2 nx2 => ρ' = upd (zhZ bs K (zbq K vs) l).get (bs.getD i default).dst v ∧ H2 = zkP tab (Ls.filter (getB l)) ∧ nx2 = top) := zj3 hy' ⟨hv1, rfl, rfl⟩
        refine zj7 hro hin hex fun w' ι' ρ' H2 nx2 a' hin' ⟨e1, e2, e3⟩ => ?_
        subst e1 e2 e3
        refine ⟨ι', ?_, hclo', by rw [notin hni]; exact hst⟩
        rw [notin hni]
        refine ⟨hin'.size, hin'.defers, hin'.st, hin'.le, fun t => ?_⟩
        by_cases hd : (bs.getD i default).dst = some t
        · have h1 := hin'.kn t
          rw [upd_eq hd] at h1
          rw [hd] at hc
          rw [hself t hd]
          exact vr_id hin'.st.rel (zsY 30 _ _ hc) h1
        · have h1 := hin'.kn t
          rw [zkH hd] at h1
          rw [hsame t hd]
          exact h1
      ·
        have hf := hlsF i hil
        rw [hf] at hc
        simp only [cond_false, Bool.and_eq_true] at hc
        obtain ⟨hc1, hc2, hc3, hc4, hc5, hc6⟩ := hc
        rw [hS] at hv
        rw [hS'] at hc3
        have hex : ExF P false (bs.getD i default) (zhZ bs K (zbq K vs) l).get (zkP tab (Ls.filter (getB l))) top (fun ρ' H2 nx2 => ρ' = upd (zhZ bs K (zbq K vs) l).get (bs.getD i default).dst v ∧ H2 = H' ∧ nx2 = nx') := zvH hs hlk hv ⟨rfl, rfl, rfl⟩
        refine zj7 hro hin hex fun w' ι' ρ' H2 nx2 a' hin' ⟨e1, e2, e3⟩ => ?_
        subst e1 e2 e3
        have hB := hin.le
        have hlo := bleT hc1
        have hle := bleT hc2
        have vw := zyF (B := B) (top := top) (nx2 := top) (H := H2) (H2 := zkP tab (Ls.filter (getB (l.set i true)))) (Nat.le_trans hBnx hlo) hB hB hle hc3
        rw [← zmr] at hin'
        obtain ⟨ι2, hin2⟩ := hin'.ent base (K2 := zhZ bs K (zbq K vs) (l.set i true)) (Ent.view _ _ vw fun t => by
          by_cases hd : (bs.getD i default).dst = some t
          · rw [zrp hd, hself t hd]
            rw [hd] at hc4
            exact zsY 30 _ _ hc4
          · rw [zsg hd, hsame t hd]
            by_cases h : ∃ j, j < bs.length ∧ getB l j = true ∧ (bs.getD j default).dst = some t
            · obtain ⟨j, hj, hb, hdj⟩ := h
              rw [zgF hj hb hdj]
              rcases Kn.get_mem (K := zbq K vs) (t := t) with h | h
              · rw [h]; exact .undef _ _
              · have := List.all_eq_true.1 hc5 _ h
                rcases Bool.or_eq_true_iff.1 this with h2 | h2
                · exfalso
                  obtain ⟨j', hj', hji, hdj'⟩ := zm8 ((zas _ _).1 h2)
                  have := ok.one j' j t hj' hj hdj' hdj
                  subst this
                  rcases hji with hji | hji
                  · subst hji; exact hd hdj
                  · have := zkd ok hclo j' hj (hclo j' hj hb) i hji
                    rw [hun] at this
                    cases this
                · exact zwK 30 _ h2
            · rw [ziV fun j hj hb hdj => h ⟨j, hj, hb, hdj⟩]
              rcases Kn.get_mem (K := K) (t := t) with h | h
              · rw [h]; exact .undef _ _
              · exact zwK 30 _ (List.all_eq_true.1 hc6 _ h))
        exact ⟨ι2, hin2, hclo', hst'⟩
    · cases hc
  ·
    refine ⟨ι, ?_, fun i hi h => ?_, ?_⟩
    · have h0 : Ls.filter (getB (List.replicate bs.length false)) = [] := by
        rw [List.filter_eq_nil_iff]
        intro i _
        have : getB (List.replicate bs.length false) i = false := by
          unfold getB
          rw [List.getD_eq_getElem?_getD, List.getElem?_replicate]
          split <;> rfl
        rw [this]
        simp
      rw [h0, htab]
      have hd := hin.drewW
      refine ⟨hd.size, hd.defers, ⟨hd.st.ext, hd.st.inj, hd.st.rel.up htop, hd.st.lv⟩, Nat.le_trans hd.le htop, fun t => ?_⟩
      rw [ziV fun i hi hb _ => ?_]
      · exact hd.kn t
      · have : getB (List.replicate bs.length false) i = false := by
          unfold getB
          rw [List.getD_eq_getElem?_getD, List.getElem?_replicate]
          split <;> rfl
        rw [this] at hb
        cases hb
    · have : getB (List.replicate bs.length false) i = false := by
        unfold getB
        rw [List.getD_eq_getElem?_getD, List.getElem?_replicate]
        split <;> rfl
      rw [this] at h
      cases h
    · have h0 : Ls.filter (getB (List.replicate bs.length false)) = [] := by
        rw [List.filter_eq_nil_iff]
        intro i _
        have : getB (List.replicate bs.length false) i = false := by
          unfold getB
          rw [List.getD_eq_getElem?_getD, List.getElem?_replicate]
          split <;> rfl
        rw [this]
        simp
      rw [h0]
      exact ok.st0
theorem zx2 {call : zba} (hs : call.Sound P) {nt : Nat} {w0 : World} {L : Nat → Prop} {ι0 : Inj} {H0 : AH} {B : Nat} (base : RelH w0 L ι0 H0 B) {id : Nat} {ops : Array Oper} {bs : List AOper} (hlen : bs.length = ops.size)
    (hrel : ∀ (i : Nat) (o : Oper) (ao : AOper), ops.toList[i]? = some o → bs[i]? = some ao → OpRel P nt ops o ao) (hfol : P.follows .mixedOrders = true)
    {K : Kn} {H : AH} {nx : Nat} {w : World} {ι : Inj} {a : Act} (hin : In nt w0 L ι0 H0 B w ι K.get H nx a) {r : Kn × AH × Nat} (h : zzY P call bs (ops.toList.map zcF) K H nx = some r) {Q : QT} (hq : Q .normal r.1 r.2.1 r.2.2) :
    (Code.region id ops true).wp P (QQ nt w0 L ι0 H0 B Q) a w := by
  unfold zzY at h
  split at h
  · rename_i vs rs top _
    split at h
    · rename_i tab htab
      unfold drawR at h
      generalize hb : (Nat.ble nx top && _) = b at h
      cases b with
      | false => cases h
      | true =>
        simp only [cond_true, Option.some.injEq] at h
        subst h
        simp only [Bool.and_eq_true] at hb
        obtain ⟨h1, h3, h5, h4⟩ := hb
        refine DX.sound hs base hlen hrel hfol (bleT h1) rfl ⟨dok_of h3 h5, fun e he => List.all_eq_true.1 h4 e he, fun i hi => ?_, fun i hi hni => ?_⟩ hin hq
        · have := (List.mem_filter.1 hi).2
          simpa using this
        · cases hf : (bs.getD i default).fixed with
          | true => rfl
          | false => exact (hni (List.mem_filter.2 ⟨List.mem_range.2 hi, by rw [hf]; rfl⟩)).elim
    · cases h
  · cases h
end
def zmT (nx : Nat) : Nat → AV → List Nat
  | 0, _ => []
  | d + 1, v => match v with
    | .own r _ _ _ _ => bif Nat.blt r nx then [] else [r]
    | .ptr r _ _ _ _ => bif Nat.blt r nx then [] else [r]
    | .mp r => bif Nat.blt r nx then [] else [r]
    | .it r => bif Nat.blt r nx then [] else [r]
    | .agg l => l.flatMap (zmT nx d)
    | .tup l => l.flatMap (zmT nx d)
    | .fn _ l => l.flatMap (zmT nx d)
    | _ => []
def zmQ (nx : Nat) : List AV → List Nat → List Nat
  | [], acc => acc
  | v :: t, acc => match v with
    | .int _ _ => zmQ nx t acc
    | .sl _ _ _ => zmQ nx t acc
    | .nilsl => zmQ nx t acc
    | v => zmQ nx t (zmT nx 30 v ++ acc)
def zri (nx : Nat) : List (List AV) → List Nat → List Nat
  | [], acc => acc
  | c :: t, acc => zri nx t (zmQ nx c acc)
def zwv (nx : Nat) : Option AObj → List Nat → List Nat
  | some (.row _ els _), acc => zri nx els acc
  | some (.fam _ ins), acc => ins.foldl (fun acc p => zri nx p.1 acc) acc
  | none, acc => acc
def zvR (nx : Nat) (H : AH) : Nat → List Nat → Nat → Nat
  | 0, _, seen => seen
  | _ + 1, [], seen => seen
  | n + 1, r :: todo, seen => bif Nat.testBit seen r then zvR nx H n todo seen else zvR nx H n (zwv nx (H.look r) todo) (Nat.lor seen (Nat.shiftLeft 1 r))
def oldR (nx : Nat) : AH → List Nat → List Nat
  | [], acc => acc
  | (r, o) :: t, acc => bif Nat.blt r nx then oldR nx t (zwv nx (some o) acc) else oldR nx t acc
def zzK (nx : Nat) (v : AV) (H : AH) : Nat := zvR nx H 3000 (oldR nx H (zmT nx 30 v)) 0
def AH.keepM (nx m : Nat) : AH → AH
  | [] => []
  | (r, o) :: t => bif Nat.blt r nx || Nat.testBit m r then (r, o) :: AH.keepM nx m t else AH.keepM nx m t
theorem AH.look_keepM (nx m : Nat) (H : AH) (r : Nat) : (H.keepM nx m).look r = bif Nat.blt r nx || Nat.testBit m r then H.look r else none := by
  induction H with
  | nil => simp only [AH.keepM, AH.look]; cases (Nat.blt r nx || Nat.testBit m r) <;> rfl
  | cons p t ih =>
    obtain ⟨j, o⟩ := p
    simp only [AH.keepM]
    cases hm : (Nat.blt j nx || Nat.testBit m j) with
    | true =>
      simp only [cond_true, AH.look, ih]
      cases hb : Nat.beq j r with
      | true => rw [← zl hb, hm]; rfl
      | false => rfl
    | false =>
      simp only [cond_false, ih, AH.look]
      cases hb : Nat.beq j r with
      | true => rw [← zl hb, hm]; rfl
      | false => rfl
theorem AH.get_keepM (nx m : Nat) (H : AH) (r q : Nat) : (H.keepM nx m).get r q = bif Nat.blt r nx || Nat.testBit m r then H.get r q else none := by
  unfold AH.get
  rw [AH.look_keepM]
  cases (Nat.blt r nx || Nat.testBit m r) <;> rfl
def gcH (nx : Nat) (v : AV) (H : AH) (nx' : Nat) : AH := bif Nat.ble nx' (nx + 4) then H else H.keepM nx (zzK nx v H)
theorem zzL {nx : Nat} {v : AV} {H : AH} {nx' r q : Nat} {o : AObj} (h : (gcH nx v H nx').get r q = some o) : H.get r q = some o := by
  unfold gcH at h
  cases hb : Nat.ble nx' (nx + 4) with
  | true => rw [hb] at h; exact h
  | false =>
    rw [hb] at h
    simp only [cond_false, AH.get_keepM] at h
    cases hm : (Nat.blt r nx || Nat.testBit (zzK nx v H) r) with
    | true => rw [hm] at h; exact h
    | false => rw [hm] at h; cases h
theorem zyh {nx : Nat} {v : AV} {H : AH} {nx' r : Nat} {o : AObj} (h : (gcH nx v H nx').look r = some o) : H.look r = some o := by
  unfold gcH at h
  cases hb : Nat.ble nx' (nx + 4) with
  | true => rw [hb] at h; exact h
  | false =>
    rw [hb] at h
    simp only [cond_false, AH.look_keepM] at h
    cases hm : (Nat.blt r nx || Nat.testBit (zzK nx v H) r) with
    | true => rw [hm] at h; exact h
    | false => rw [hm] at h; cases h
section
variable {P : Program}
theorem RelH.sub {w : World} {L : Nat → Prop} {ι : Inj} {H H' : AH} {nx : Nat} (rel : RelH w L ι H nx) (hg : ∀ r q o, H'.get r q = some o → H.get r q = some o) (hd : ∀ r o, H'.look r = some o → r < nx) :
    (∀ b, live ι H' b → live ι H b) ∧ RelH w L ι H' nx := by
  have hl : ∀ b, live ι H' b → live ι H b := fun b ⟨r, q, sz, els, g, l, h1, h2, h3, h4⟩ => ⟨r, q, sz, els, g, l, hg _ _ _ h1, h2, h3, h4⟩
  have hLt : ∀ b, Lt L ι H' b → Lt L ι H b := fun b h => h.elim .inl fun h => .inr (hl b h)
  refine ⟨hl, fun r q sz els g h => ?_, fun r1 q1 r2 q2 s1 e1 g1 l1 s2 e2 g2 l2 h1 h2 => rel.apart _ _ _ _ _ _ _ _ _ _ _ _ (hg _ _ _ h1) (hg _ _ _ h2), fun b hb => rel.out b (hl b hb), rel.idx, hd, fun r q sz els g h => rel.gen _ _ _ _ _ (hg _ _ _ h), rel.Lsz⟩
  obtain ⟨l, h1, ok⟩ := rel.row _ _ _ _ _ (hg _ _ _ h)
  exact ⟨l, h1, ok.trans (fun _ => rfl) fun v a hv => hv.anti hLt⟩
theorem zzB {f : FuncId} {args : List AV} {H : AH} {nx : Nat} {k : AV → AH → Nat → Prop} (h : zaf P f args H nx (fun v H' nx' => k v (gcH nx v H' nx') nx')) : zaf P f args H nx k := by
  intro w L ι vs h1 h2
  refine (h w L ι vs h1 h2).mono fun e w' ⟨v, ι', H', nx', a, h3, h4, h5, h6, h7⟩ => ?_
  obtain ⟨hl, hr⟩ := h4.rel.sub (fun r q o h => zzL h) (fun r o h => h4.rel.dom r o (zyh h))
  exact ⟨v, ι', _, nx', a, h3, ⟨h4.ext, h4.inj, hr, fun b hb => h4.lv b (hl b hb)⟩, h5, h6.anti fun b hb => hb.elim .inl fun hb => .inr (hl b hb), h7⟩
def zuk (P : Program) (qf : FuncId → Nat → List Nat) (orc : zba) (ex : Nat → (Nat → List Nat) → Code → Kn → AH → Nat → Option Out) : zba := fun f args H nx =>
  match orc f args H nx with
  | some r => some r
  | none => match P.funcs[f]? with
    | some fn => match fn.body with
      | some c => match fn.results.toList.mapM (cret P) with
        | some rs => bif Nat.ble args.length fn.ntmps then
            match ex fn.ntmps (qf f) c (zh5 0 args) H nx with
            | some (e, K, H', nx') => match e with
              | .exit _ => none
              | .goto _ => none
              | _ => bif retS K H' rs then some (zgQ (zaB K H' nx' rs), gcH nx (zgQ (zaB K H' nx' rs)) H' nx', nx') else none
            | none => none
          else none
        | none => none
      | none => none
    | none => none
def znf : Nat → Kn → Kn
  | _, [] => []
  | m, (j, v) :: t => bif Nat.testBit m j then (j, v) :: znf (Nat.xor m (Nat.shiftLeft 1 j)) t else znf m t
theorem zyq {m j i : Nat} : Nat.testBit (Nat.xor m (Nat.shiftLeft 1 j)) i = (Nat.testBit m i ^^ Nat.beq j i) := by
  have h : Nat.shiftLeft 1 j = 2 ^ j := by
    show 1 <<< j = 2 ^ j
    rw [Nat.shiftLeft_eq, Nat.one_mul]
  rw [h]
  have h2 : Nat.xor m (2 ^ j) = m ^^^ 2 ^ j := rfl
  rw [h2, Nat.testBit_xor, Nat.testBit_two_pow]
  congr 1
  cases hb : Nat.beq j i with
  | true => exact decide_eq_true (zl hb)
  | false => exact decide_eq_false fun e => by rw [e, zbC] at hb; cases hb
theorem zmB : ∀ (K : Kn) (m : Nat) (i : Nat), (znf m K).get i = bif Nat.testBit m i then K.get i else .undef
  | [], m, i => by simp only [znf, Kn.get]; cases Nat.testBit m i <;> rfl
  | (j, v) :: t, m, i => by
    unfold znf
    cases hj : Nat.testBit m j with
    | true =>
      simp only [cond_true, Kn.get]
      cases hji : Nat.beq j i with
      | true =>
        rw [← zl hji, hj]
        rfl
      | false =>
        simp only [cond_false]
        rw [zmB t, zyq, hji, Bool.xor_false]
    | false =>
      simp only [cond_false, Kn.get]
      rw [zmB t]
      cases hji : Nat.beq j i with
      | true => rw [← zl hji, hj]; rfl
      | false => rfl
def zAk : List Nat → Nat
  | m :: _ => m
  | [] => 0
def outR (r : ORes) : AV × AH × Nat := (r.v, r.H, r.nx)
def zAp (P : Program) (call : zba) (op : AOp) (ρ : Nat → AV) (H : AH) (nx : Nat) : Option (AV × AH × Nat) :=
  match op with
  | .mov x => some (ev ρ x, H, nx)
  | .load g n p => bif zw3 n (ev ρ p) H then some (outR (zcx g n (ev ρ p) H nx)) else none
  | .store n p v => bif zsB n (ev ρ p) (ev ρ v) H then some (outR (zdi n (ev ρ p) (ev ρ v) H nx)) else none
  | .idx sz x i => bif idxS sz (ev ρ x) (ev ρ i) H then some (outR (idxR sz (ev ρ x) (ev ρ i) H nx)) else none
  | .fldaddr off n x => bif zoK off n (ev ρ x) then some (outR (zbz off n (ev ρ x) H nx)) else none
  | .fld off n g x => bif fldS off n (ev ρ x) then some (outR (fldR off n g (ev ρ x) H nx)) else none
  | .len x => bif lenS (ev ρ x) then some (outR (lenR (ev ρ x) H nx)) else none
  | .bin o x y => bif binS o (ev ρ x) (ev ρ y) then some (outR (binI o (ev ρ x) (ev ρ y) H nx)) else none
  | .un o x => bif unS o (ev ρ x) then some (outR (unR o (ev ρ x) H nx)) else none
  | .pick c a b => bif zzv (ev ρ c) then some (outR (zhk (ev ρ c) (ev ρ a) (ev ρ b) H nx)) else none
  | .append sz bytes x y => bif zou sz bytes (ev ρ x) (ev ρ y) H then some (outR (zc8 sz bytes (ev ρ x) (ev ρ y) H nx)) else none
  | .ext i x => bif extS i (ev ρ x) then some (outR (extR i (ev ρ x) H nx)) else none
  | op => znC P call op ρ H nx
theorem zyy {P : Program} {call : zba} {op : AOp} {ρ : Nat → AV} {H : AH} {nx : Nat} : zAp P call op ρ H nx = znC P call op ρ H nx := by
  cases op <;> rfl
def valS (P : Program) (call : zba) (o : AOper) (ρ : Nat → AV) (H : AH) (nx : Nat) : Option (AV × AH × Nat) :=
  match o.guard with
  | none => zAp P call o.op ρ H nx
  | some (t, want) => match grd want (ρ t) with
    | some true => zAp P call o.op ρ H nx
    | some false => some (.tup [], H, nx)
    | none => none
theorem zAc {P : Program} {call : zba} {o : AOper} {ρ : Nat → AV} {H : AH} {nx : Nat} : valS P call o ρ H nx = valX P call o ρ H nx := by
  unfold valS valX
  simp only [zyy] <;> rcases o.guard with _ | ⟨t, want⟩ <;> first | rfl | (rcases hg : grd want (ρ t) with _ | (_ | _) <;> simp only [hg])
def zu3 (K : Kn) : Option Nat → AV → Kn
  | none, _ => K
  | some d, v => (d, v) :: K
theorem znt {K1 K : Kn} (h : K.get = K1.get) (d : Option Nat) (v : AV) : (setO K d v).get = (zu3 K1 d v).get := by
  cases d with
  | none => exact h
  | some d =>
    funext i
    simp only [setO, zu3, Kn.get_set, Kn.get]
    by_cases hi : i = d
    · rw [if_pos hi, hi, zbC]; rfl
    · rw [if_neg hi, zdU (Ne.symm hi), h]; rfl
def opsP (P : Program) (call : zba) : List AOper → Kn → AH → Nat → Option St3
  | [], K, H, nx => some (K, H, nx)
  | o :: os, K, H, nx => match valS P call o K.get H nx with
    | some (v, H', nx') => opsP P call os (zu3 K o.dst v) H' nx'
    | none => none
def ztx (P : Program) (call : zba) : DTree → Kn → AH → Nat → Option St3
  | .done, K, H, nx => some (K, H, nx)
  | .stop, _, _, _ => none
  | .step o t, K, H, nx => match valS P call o K.get H nx with
    | some (v, H', nx') => ztx P call t (zu3 K o.dst v) H' nx'
    | none => none
  | .alt o t .stop, K, H, nx => match valS P call o K.get H nx with
    | some (v, H', nx') => ztx P call t (zu3 K o.dst v) H' nx'
    | none => none
  | .alt _ _ _, _, _, _ => none
theorem zpg {call : zba} {o : AOper} {K K1 : Kn} (hk : K.get = K1.get) {H : AH} {nx : Nat} {v : AV} {H' : AH} {nx' : Nat} (h : valS P call o K1.get H nx = some (v, H', nx')) : oneX P call o K H nx = some (setO K o.dst v, H', nx') := by
  rw [zAc] at h
  unfold valX at h
  unfold oneX
  rw [hk]
  cases hg : o.guard with
  | none =>
    rw [hg] at h
    simp only at h ⊢
    rw [h]
  | some p =>
    obtain ⟨t, want⟩ := p
    rw [hg] at h
    simp only at h ⊢
    split at h
    · rename_i e
      simp only [e, h]
    · rename_i e
      cases h
      simp only [e]
    · cases h
theorem zvQ {call : zba} : ∀ {os : List AOper} {K1 K : Kn} {H : AH} {nx : Nat} {r : St3}, opsP P call os K1 H nx = some r → K.get = K1.get → ∃ K', zv2 P call os K H nx = some (K', r.2) ∧ K'.get = r.1.get
  | [], K1, K, H, nx, r, h, hk => by
    cases h
    exact ⟨K, rfl, hk⟩
  | o :: os, K1, K, H, nx, r, h, hk => by
    simp only [opsP] at h
    split at h
    · rename_i v H' nx' e
      obtain ⟨K', h1, h2⟩ := zvQ h (znt hk o.dst v)
      refine ⟨K', ?_, h2⟩
      simp only [zv2, zpg hk e]
      exact h1
    · cases h
theorem zo3 {call : zba} : ∀ {t : DTree} {K1 K : Kn} {H : AH} {nx : Nat} {r : St3}, ztx P call t K1 H nx = some r → K.get = K1.get → ∃ K', zl1 P call t K H nx = some (K', r.2) ∧ K'.get = r.1.get
  | .done, K1, K, H, nx, r, h, hk => by
    cases h
    exact ⟨K, rfl, hk⟩
  | .stop, _, _, _, _, _, h, _ => by cases h
  | .step o t, K1, K, H, nx, r, h, hk => by
    simp only [ztx] at h
    split at h
    · rename_i v H' nx' e
      obtain ⟨K', h1, h2⟩ := zo3 h (znt hk o.dst v)
      refine ⟨K', ?_, h2⟩
      simp only [zl1, zpg hk e]
      exact h1
    · cases h
  | .alt o t .stop, K1, K, H, nx, r, h, hk => by
    simp only [ztx] at h
    split at h
    · rename_i v H' nx' e
      obtain ⟨K', h1, h2⟩ := zo3 h (znt hk o.dst v)
      refine ⟨K', ?_, h2⟩
      simp only [zl1, zpg hk e]
      exact h1
    · cases h
  | .alt _ _ .done, _, _, _, _, _, h, _ => by cases h
  | .alt _ _ (.step _ _), _, _, _, _, _, h, _ => by cases h
  | .alt _ _ (.alt _ _ _), _, _, _, _, _, h, _ => by cases h
def outK (l : Nat) : Option St3 → Option Out
  | some (K, H, nx) => some (.normal, znf l K, H, nx)
  | none => none
def regX (P : Program) (call : zba) (nt : Nat) (q : Nat → List Nat) (id : Nat) (ops : Array Oper) (draw : Bool) (K : Kn) (H : AH) (nx : Nat) : Option Out :=
  match ops.toList.mapM (zwX P nt ops) with
  | none => none
  | some as' => bif draw then
      (bif P.follows .mixedOrders && (List.range ops.size).all (fun j => ((ops.toList.map zcF).getD j []).all fun i => Nat.blt i j) then
        match ztx P call (zky ((zd3 (q id) 0 as').map (AOper.ro (q 999999))) (ops.toList.map zcF) ops.size (List.replicate ops.size false)) K H nx with
        | some r => outK (zAk (q 999998)) (some r)
        | none => outK (zAk (q 999998)) (zzY P call ((zd3 (q id) 0 as').map (AOper.ro (q 999999))) (ops.toList.map zcF) K H nx)
      else none)
    else outK (zAk (q 999998)) (opsP P call (as'.map (AOper.ro (q 999999))) K H nx)
def zza (l : Nat) (ex : Kn → AH → Nat → Option Out) : Nat → Option Out → Option Out
  | 0, _ => none
  | m + 1, r => match r with
    | some (.goto l', K, H, nx) => bif Nat.beq l' l then zza l ex m (ex K H nx) else none
    | r => r
def zey (P : Program) (qf : FuncId → Nat → List Nat) (orc : zba) : Nat → Nat → (Nat → List Nat) → Code → Kn → AH → Nat → Option Out
  | 0, _, _, _, _, _, _ => none
  | n + 1, nt, q, c, K, H, nx => match c with
    | .skip => some (.normal, K, H, nx)
    | .region id ops draw => regX P (zuk P qf orc (zey P qf orc n)) nt q id ops draw K H nx
    | .seq a b => match zey P qf orc n nt q a K H nx with
      | some (.normal, K', H', nx') => zey P qf orc n nt q b K' H' nx'
      | r => r
    | .cond c a b => match copd c with
      | some x => match ev K.get x with
        | .bool true => zey P qf orc n nt q a K H nx
        | .bool false => zey P qf orc n nt q b K H nx
        | _ => none
      | none => none
    | .block id c => match zey P qf orc n nt q c K H nx with
      | some (.exit j, K', H', nx') => bif Nat.beq j id then some (.normal, K', H', nx') else some (.exit j, K', H', nx')
      | r => r
    | .loop c => match zey P qf orc n nt q c K H nx with
      | some (.normal, K', H', nx') => zey P qf orc n nt q (.loop c) K' H' nx'
      | r => r
    | .exit id => some (.exit id, K, H, nx)
    | .ret => some (.ret, K, H, nx)
    | .scope c => match zey P qf orc n nt q c K H nx with
      | some (.goto l, K', H', nx') => match findLabel c l with
        | some rest => zza l (zey P qf orc n nt q rest) n (zey P qf orc n nt q rest K' H' nx')
        | none => none
      | r => r
    | .label _ => some (.normal, K, H, nx)
    | .goto l => some (.goto l, K, H, nx)
    | _ => none
variable {qf : FuncId → Nat → List Nat} {orc : zba}
def RunC (P : Program) (qf : FuncId → Nat → List Nat) (orc : zba) (n : Nat) : Prop :=
  ∀ (nt : Nat) (L : Nat → Prop) (w0 : World) (ι0 : Inj) (H0 : AH) (B : Nat), RelH w0 L ι0 H0 B → ∀ (q : Nat → List Nat) (c : Code) (w : World) (ι : Inj) (K : Kn) (H : AH) (nx : Nat) (a : Act) (r : Out),
    In nt w0 L ι0 H0 B w ι K.get H nx a → zey P qf orc n nt q c K H nx = some r → c.wp P (QQ nt w0 L ι0 H0 B (QX r)) a w
def zta (P : Program) (qf : FuncId → Nat → List Nat) (orc : zba) (n : Nat) : Prop :=
  ∀ (nt : Nat) (L : Nat → Prop) (w0 : World) (ι0 : Inj) (H0 : AH) (B : Nat), RelH w0 L ι0 H0 B → ∀ (q : Nat → List Nat) (c : Code) (w : World) (ι : Inj) (K : Kn) (H : AH) (nx : Nat) (a : Act) (r : Out),
    In nt w0 L ι0 H0 B w ι K.get H nx a → zey P qf orc n nt q (.loop c) K H nx = some r → Code.rounds P c (QQ nt w0 L ι0 H0 B (QX r)) n a w
theorem zzx {f : FuncId} {fn : Func} {c : Code} {rs : List ARet} (hf : P.funcs[f]? = some fn) (hb : fn.body = some c) (hr : fn.results.toList.mapM (cret P) = some rs) {args : List AV} {H : AH} {nx : Nat} {Post : AV → AH → Nat → Prop} (hn : args.length ≤ fn.ntmps)
    (h : ∀ (w : World) (L : Nat → Prop) (ι : Inj) (a : Act), RelH w L ι H nx → In fn.ntmps w L ι H nx w ι (zh5 0 args).get H nx a → c.wp P (QQ fn.ntmps w L ι H nx (retK rs Post)) a w) : zaf P f args H nx Post := by
  intro w L ι vs rel hv
  have hlen : vs.size = args.length := by simpa using hv.length
  refine calls_of_wp hf hb ?_
  have hin : In fn.ntmps w L ι H nx w ι (zh5 0 args).get H nx { tmps := vs ++ Array.replicate (fn.ntmps - vs.size) undef, defers := [] } := by
    refine ⟨by simp; omega, rfl, .refl rel, Nat.le_refl _, fun i => ?_⟩
    rw [znu, if_pos (Nat.zero_le _), Nat.sub_zero]
    rcases Nat.lt_or_ge i args.length with hi | hi
    · have h1 : i < vs.size := by omega
      refine hv.get i _ _ ?_ (by simp [List.getD, List.getElem?_eq_getElem hi])
      simp [Array.getD_eq_getD_getElem?, Array.getElem?_append, h1]
    · rw [show args.getD i .undef = .undef by simp [List.getD, List.getElem?_eq_none hi]]
      exact .undef _ _
  refine wp_mono (h w L ι _ rel hin) fun e a' w' ⟨ι', K, H', nx', hin', hq⟩ => ?_
  have fin : zby K H' nx' rs ∧ Post (zgQ (zaB K H' nx' rs)) H' nx' → a'.defers = [] ∧ ∃ v, (results fn a'.tmps).run P w' = .ok v w' ∧ ∃ v_1 ι' H' nx' a, Ending.returned v = .returned v_1 ∧ Step w L ι H nx w' ι' H' nx' ∧ nx ≤ nx' ∧ VR w' (Lt L ι' H') ι' v_1 a ∧ Post a H' nx' := by
    intro ⟨h1, h2⟩
    obtain ⟨us, h3, h4⟩ := zsK hin'.st.rel hin'.kn _ _ hr h1
    obtain ⟨v, h5, h6⟩ := zn9 h3 h4
    exact ⟨hin'.defers, v, h5, v, ι', H', nx', _, rfl, hin'.st, hin'.le, h6, h2⟩
  cases e with
  | normal => exact fin hq
  | ret => exact fin hq
  | exit id => exact hq.elim
  | _ => exact hq.elim
theorem znx (ho : orc.Sound P) {n : Nat} (hr : RunC P qf orc n) : (zuk P qf orc (zey P qf orc n)).Sound P := by
  intro f args H nx r h
  unfold zuk at h
  split at h
  · rename_i r' e
    cases h
    exact ho f args H nx _ e
  · split at h
    · rename_i fn hf
      split at h
      · rename_i c hb
        split at h
        · rename_i rs hrs
          cases hble : Nat.ble args.length fn.ntmps with
          | false => rw [hble] at h; cases h
          | true =>
            rw [hble] at h
            simp only [cond_true] at h
            split at h
            · rename_i e K H' nx' he
              have key : (∀ id, e ≠ .exit id) → (∀ l, e ≠ .goto l) → (bif retS K H' rs then some (zgQ (zaB K H' nx' rs), gcH nx (zgQ (zaB K H' nx' rs)) H' nx', nx') else none) = some r → zaf P f args H nx (fun v H' nx' => (v, H', nx') = r) := by
                intro hne hng h
                cases hs : retS K H' rs with
                | false => rw [hs] at h; cases h
                | true =>
                  rw [hs] at h
                  simp only [cond_true, Option.some.injEq] at h
                  subst h
                  refine zzB (zzx hf hb hrs (bleT hble) fun w L ι a rel hin => ?_)
                  refine wp_mono (hr fn.ntmps L w ι H nx rel (qf f) c w ι _ H nx a _ hin he) fun e' a' w' ⟨ι', K', H2, nx2, hin', hq⟩ => ⟨ι', K', H2, nx2, hin', ?_⟩
                  have hk : retK rs (fun v H'' nx'' => (v, gcH nx v H'' nx'', nx'') = (zgQ (zaB K H' nx' rs), gcH nx (zgQ (zaB K H' nx' rs)) H' nx', nx')) e K H' nx' := by
                    cases e with
                    | exit id => exact absurd rfl (hne id)
                    | goto l => exact absurd rfl (hng l)
                    | normal => exact ⟨zoG hs, rfl⟩
                    | ret => exact ⟨zoG hs, rfl⟩
                  cases e' with
                  | normal => cases hq; exact hk
                  | exit id => cases hq; exact absurd rfl (hne id)
                  | ret => cases hq; exact hk
                  | goto l => cases hq; exact absurd rfl (hng l)
                  | _ => exact hq.elim
              cases e with
              | exit id => cases h
              | goto l => cases h
              | normal => exact key (by intro id e; cases e) (by intro id e; cases e) h
              | ret => exact key (by intro id e; cases e) (by intro id e; cases e) h
            · cases h
        · cases h
      · cases h
    · cases h
theorem Kn.drop_nil : ∀ K : Kn, K.drop [] = K
  | [] => rfl
  | (j, v) :: t => by
    show (j, v) :: Kn.drop t [] = (j, v) :: t
    rw [Kn.drop_nil t]
theorem zso {l : Nat} {r : Option St3} {o : Out} (h : outK l r = some o) : ∃ s, r = some s ∧ o = (.normal, znf l s.1, s.2.1, s.2.2) := by
  cases r with
  | none => cases h
  | some s => obtain ⟨K, H, nx⟩ := s; cases h; exact ⟨_, rfl, rfl⟩
theorem In.less {nt : Nat} {w0 : World} {L : Nat → Prop} {ι0 : Inj} {H0 : AH} {B : Nat} {w : World} {ι : Inj} {ρ ρ2 : Nat → AV} {H : AH} {nx : Nat} {a : Act} (h : In nt w0 L ι0 H0 B w ι ρ H nx a) (hr : ∀ i, ρ2 i = .undef ∨ ρ2 i = ρ i) : In nt w0 L ι0 H0 B w ι ρ2 H nx a :=
  ⟨h.size, h.defers, h.st, h.le, fun i => by rcases hr i with e | e <;> rw [e]; exact .undef _ _; exact h.kn i⟩
theorem ztS {l : Nat} {K K' : Kn} (h : K'.get = K.get) (i : Nat) : (znf l K).get i = .undef ∨ (znf l K).get i = K'.get i := by
  rw [zmB, h]
  cases Nat.testBit l i
  · exact .inl rfl
  · exact .inr rfl
theorem zru {c : Code} {nt : Nat} {w0 : World} {L : Nat → Prop} {ι0 : Inj} {H0 : AH} {B : Nat} {l : Nat} {K K' : Kn} {H : AH} {nx : Nat} {a : Act} {w : World} (hk : K'.get = K.get)
    (h : c.wp P (QQ nt w0 L ι0 H0 B (QX (.normal, K', H, nx))) a w) : c.wp P (QQ nt w0 L ι0 H0 B (QX (.normal, znf l K, H, nx))) a w := by
  refine wp_mono h fun e' a' w' ⟨ι', K1, H1, nx1, hin', hq⟩ => ?_
  cases e' with
  | normal => cases hq; exact ⟨ι', znf l K, _, _, hin'.less (ztS hk), rfl⟩
  | exit id => cases hq
  | ret => cases hq
  | goto l => cases hq
  | _ => exact hq.elim
theorem zAg {call : zba} (hs : call.Sound P) {nt : Nat} {w0 : World} {L : Nat → Prop} {ι0 : Inj} {H0 : AH} {B : Nat} (base : RelH w0 L ι0 H0 B) {q : Nat → List Nat} {id : Nat} {ops : Array Oper} {draw : Bool} {K : Kn} {H : AH} {nx : Nat} {w : World} {ι : Inj} {a : Act} {r : Out}
    (hin : In nt w0 L ι0 H0 B w ι K.get H nx a) (h : regX P call nt q id ops draw K H nx = some r) : (Code.region id ops draw).wp P (QQ nt w0 L ι0 H0 B (QX r)) a w := by
  unfold regX at h
  split at h
  · cases h
  · rename_i as' hm
    obtain ⟨h1, h2⟩ := zpt hm
    cases draw with
    | false =>
      simp only [cond_false] at h
      obtain ⟨s, e0, rfl⟩ := zso h
      obtain ⟨K', e, hk⟩ := zvQ e0 rfl
      refine zru hk ?_
      refine wp_region_list (zlc _ _ (by simpa using h1) (fun i o ao h3 h4 => ?_) hin (zs2 (drop := []) hs e ?_))
      · rw [List.getElem?_map] at h4
        obtain ⟨b, h5, rfl⟩ := Option.map_eq_some_iff.1 h4
        exact (h2 i o b h3 h5).ro
      · have : K'.drop [] = K' := Kn.drop_nil _
        rw [this]
        rfl
    | true =>
      simp only [cond_true] at h
      generalize hg : (P.follows .mixedOrders && _) = b at h
      cases b with
      | false => cases h
      | true =>
        simp only [Bool.and_eq_true] at hg
        simp only [cond_true] at h
        have hlen : ((zd3 (q id) 0 as').map (AOper.ro (q 999999))).length = ops.size := by rw [List.length_map, zgn, h1]; simp
        have hrel : ∀ (i : Nat) (o : Oper) (ao : AOper), ops.toList[i]? = some o → ((zd3 (q id) 0 as').map (AOper.ro (q 999999)))[i]? = some ao → OpRel P nt ops o ao := fun i o ao h3 h4 => by
          rw [List.getElem?_map] at h4
          obtain ⟨b0, h40, rfl⟩ := Option.map_eq_some_iff.1 h4
          obtain ⟨b, h5, h6⟩ := zjR _ _ _ _ _ h40
          rcases h6 with rfl | rfl
          · exact (h2 i o _ h3 h5).ro
          · exact (h2 i o _ h3 h5).quiet.ro
        split at h
        · rename_i s e0
          obtain ⟨s2, e', rfl⟩ := zso h
          cases e'
          obtain ⟨K', e, hk⟩ := zo3 e0 rfl
          refine zru hk ?_
          refine zog nt w0 L ι0 H0 B id ops _ [] _ hlen hrel hg.1 hg.2 w ι K H nx a hin (zns hs e ?_)
          rw [Kn.drop_nil]
          rfl
        · obtain ⟨s, e, rfl⟩ := zso h
          exact zru rfl (zx2 hs base hlen hrel hg.1 hin e rfl)
theorem zxa (ho : orc.Sound P) : ∀ n, RunC P qf orc n ∧ zta P qf orc n
  | 0 => ⟨fun _ _ _ _ _ _ _ _ _ _ _ _ _ _ _ _ _ h => (by cases h), fun _ _ _ _ _ _ _ _ _ _ _ _ _ _ _ _ _ h => (by cases h)⟩
  | n + 1 => by
    obtain ⟨ihR, ihL⟩ := zxa ho n
    have hcall := znx ho ihR
    have loopStep : zta P qf orc (n + 1) := by
      intro nt L w0 ι0 H0 B base q c w ι K H nx a r hin h
      rw [rounds_succ]
      simp only [zey] at h
      split at h
      · rename_i K' H' nx' e
        refine wp_mono (ihR nt L w0 ι0 H0 B base q c w ι K H nx a _ hin e) fun e' a' w' ⟨ι', K1, H1, nx1, hin', hq⟩ => ?_
        cases e' with
        | normal => cases hq; exact ihL nt L w0 ι0 H0 B base q c w' ι' _ _ _ a' r hin' h
        | exit id => cases hq
        | ret => cases hq
        | goto l => cases hq
        | _ => exact hq.elim
      · rename_i r' hne
        refine wp_mono (ihR nt L w0 ι0 H0 B base q c w ι K H nx a r hin h) fun e' a' w' ⟨ι', K1, H1, nx1, hin', hq⟩ => ?_
        cases e' with
        | normal => cases hq; exact absurd h (hne K1 H1 nx1)
        | exit id => exact ⟨ι', K1, H1, nx1, hin', hq⟩
        | ret => exact ⟨ι', K1, H1, nx1, hin', hq⟩
        | goto l => exact ⟨ι', K1, H1, nx1, hin', hq⟩
        | _ => exact hq.elim
    refine ⟨?_, loopStep⟩
    intro nt L w0 ι0 H0 B base q c w ι K H nx a r hin h
    cases c with
    | skip => cases h; exact wp_skip ⟨ι, K, H, nx, hin, rfl⟩
    | label l => cases h; exact wp_label ⟨ι, K, H, nx, hin, rfl⟩
    | goto l => cases h; exact wp_goto ⟨ι, K, H, nx, hin, rfl⟩
    | exit id => cases h; exact wp_exit ⟨ι, K, H, nx, hin, rfl⟩
    | ret => cases h; exact wp_ret ⟨ι, K, H, nx, hin, rfl⟩
    | region id ops draw => exact zAg hcall base hin h
    | seq c1 c2 =>
      simp only [zey] at h
      split at h
      · rename_i K' H' nx' e
        refine wp_seq (wp_mono (ihR nt L w0 ι0 H0 B base q c1 w ι K H nx a _ hin e) fun e' a' w' ⟨ι', K1, H1, nx1, hin', hq⟩ => ?_)
        cases e' with
        | normal => cases hq; exact ihR nt L w0 ι0 H0 B base q c2 w' ι' _ _ _ a' r hin' h
        | exit id => cases hq
        | ret => cases hq
        | goto l => cases hq
        | _ => exact hq.elim
      · rename_i r' hne
        refine wp_seq (wp_mono (ihR nt L w0 ι0 H0 B base q c1 w ι K H nx a r hin h) fun e' a' w' ⟨ι', K1, H1, nx1, hin', hq⟩ => ?_)
        cases e' with
        | normal => cases hq; exact absurd h (hne K1 H1 nx1)
        | exit id => exact ⟨ι', K1, H1, nx1, hin', hq⟩
        | ret => exact ⟨ι', K1, H1, nx1, hin', hq⟩
        | goto l => exact ⟨ι', K1, H1, nx1, hin', hq⟩
        | _ => exact hq.elim
    | cond x1 c1 c2 =>
      simp only [zey] at h
      split at h
      · rename_i x' hx
        have hv := zr hin.kn hx
        split at h
        · rename_i hev
          rw [hev] at hv
          generalize hu : a.eval x1 = u at hv
          cases hv
          exact wp_cond_true hu (ihR nt L w0 ι0 H0 B base q c1 w ι K H nx a r hin h)
        · rename_i hev
          rw [hev] at hv
          generalize hu : a.eval x1 = u at hv
          cases hv
          exact wp_cond_false hu (ihR nt L w0 ι0 H0 B base q c2 w ι K H nx a r hin h)
        · cases h
      · cases h
    | block id c1 =>
      simp only [zey] at h
      split at h
      · rename_i j K' H' nx' e
        refine wp_block (wp_mono (ihR nt L w0 ι0 H0 B base q c1 w ι K H nx a _ hin e) fun e' a' w' ⟨ι', K1, H1, nx1, hin', hq⟩ => ?_)
        cases e' with
        | normal => cases hq
        | exit j' =>
          cases hq
          simp only [Exit.inBlock]
          by_cases hj : j = id
          · subst hj
            rw [if_pos rfl]
            rw [zbC] at h
            cases h
            exact ⟨ι', _, _, _, hin', rfl⟩
          · rw [if_neg hj]
            rw [zdU hj] at h
            cases h
            exact ⟨ι', _, _, _, hin', rfl⟩
        | ret => cases hq
        | goto l => cases hq
        | _ => exact hq.elim
      · rename_i r' hne
        refine wp_block (wp_mono (ihR nt L w0 ι0 H0 B base q c1 w ι K H nx a r hin h) fun e' a' w' ⟨ι', K1, H1, nx1, hin', hq⟩ => ?_)
        cases e' with
        | normal => exact ⟨ι', K1, H1, nx1, hin', hq⟩
        | exit j' => cases hq; exact absurd h (hne j' K1 H1 nx1)
        | ret => exact ⟨ι', K1, H1, nx1, hin', hq⟩
        | goto l => exact ⟨ι', K1, H1, nx1, hin', hq⟩
        | _ => exact hq.elim
    | loop c1 => exact wp_loop_rounds (n + 1) (loopStep nt L w0 ι0 H0 B base q c1 w ι K H nx a r hin h)
    | scope c1 =>
      simp only [zey] at h
      split at h
      · rename_i l K' H' nx' e
        split at h
        · rename_i rest hrest
          let G : Nat → Act → World → Prop := fun m a w => ∃ ι K H nx, In nt w0 L ι0 H0 B w ι (Kn.get K) H nx a ∧ zza l (zey P qf orc n nt q rest) m (zey P qf orc n nt q rest K H nx) = some r
          have jm : ∀ {Q : Exit → Act → World → Prop} {J J' : Act → World → Prop} {cz : Code} {a : Act} {w : World}, (∀ a w, J a w → J' a w) → cz.wp P (Exit.jump l J Q) a w → cz.wp P (Exit.jump l J' Q) a w := by
            intro Q J J' cz a w hJ h
            refine wp_mono h fun e' a' w' hq => ?_
            cases e' with
            | goto l' => exact ⟨hq.1, hJ _ _ hq.2⟩
            | _ => exact hq
          refine wp_scope_jumps l (fun a w => ∃ m, G m a w) (zg5 G) hrest ?_ ?_
          · refine wp_mono (ihR nt L w0 ι0 H0 B base q c1 w ι K H nx a _ hin e) fun e' a' w' ⟨ι', K1, H1, nx1, hin', hq⟩ => ?_
            cases e' with
            | goto l' => cases hq; exact ⟨rfl, n, ι', _, _, _, hin', h⟩
            | normal => cases hq
            | exit id => cases hq
            | ret => cases hq
            | _ => exact hq.elim
          · intro a' w' hJ
            obtain ⟨ι', K1, H1, nx1, hin', hex⟩ := zlw hJ
            cases hm0 : zg5 G a' w' with
            | zero => rw [hm0] at hex; cases hex
            | succ m =>
              rw [hm0] at hex
              cases hz : zey P qf orc n nt q rest K1 H1 nx1 with
              | none => rw [hz] at hex; cases hex
              | some o =>
                obtain ⟨e1, K2, H2, nx2⟩ := o
                refine jm (fun a2 w2 (h : G m a2 w2) => ⟨⟨_, h⟩, Nat.lt_succ_of_le (zoj h)⟩) (wp_mono (ihR nt L w0 ι0 H0 B base q rest w' ι' K1 H1 nx1 a' _ hin' hz) fun e' a2 w2 ⟨ι2, K3, H3, nx3, hin2, hq⟩ => ?_)
                rw [hz] at hex
                cases e' with
                | goto l' =>
                  cases hq
                  simp only [zza] at hex
                  cases hb : Nat.beq l' l with
                  | false => rw [hb] at hex; cases hex
                  | true =>
                    rw [hb] at hex
                    exact ⟨zl hb, ι2, _, _, _, hin2, hex⟩
                | normal => cases hq; cases hex; exact ⟨ι2, _, _, _, hin2, rfl⟩
                | exit id => cases hq; cases hex; exact ⟨ι2, _, _, _, hin2, rfl⟩
                | ret => cases hq; cases hex; exact ⟨ι2, _, _, _, hin2, rfl⟩
                | _ => exact hq.elim
        · cases h
      · rename_i r' hne
        refine wp_scope_straight (wp_mono (ihR nt L w0 ι0 H0 B base q c1 w ι K H nx a r hin h) fun e' a' w' ⟨ι', K1, H1, nx1, hin', hq⟩ => ?_)
        cases e' with
        | normal => exact ⟨ι', K1, H1, nx1, hin', hq⟩
        | exit id => exact ⟨ι', K1, H1, nx1, hin', hq⟩
        | ret => exact ⟨ι', K1, H1, nx1, hin', hq⟩
        | goto l => cases hq; exact absurd h (hne l K1 H1 nx1)
        | _ => exact hq.elim
    | _ => cases h
theorem zoc (ho : orc.Sound P) (n : Nat) {f : FuncId} {args : List AV} {H : AH} {nx : Nat} {r : AV × AH × Nat} (h : zuk P qf orc (zey P qf orc n) f args H nx = some r) : zaf P f args H nx (fun v H' nx' => (v, H', nx') = r) :=
  znx ho (zxa ho n).1 f args H nx r h
def zwz (b : Bool) : Option (AV × AH × Nat) → Bool
  | some (.bool c, _, _) => c == b
  | _ => false
theorem ztw (ho : orc.Sound P) (n : Nat) {f : FuncId} {args : List AV} {b : Bool} (h : zwz b (zuk P qf orc (zey P qf orc n) f args [] 0) = true) : zk P f args (· = .bool b) := by
  unfold zwz at h
  split at h
  · rename_i c H' nx' e
    have hb : c = b := by simpa using h
    subst hb
    exact (zoc ho n e).mono fun v H1 nx1 he => by
      cases he
      exact ⟨_, .bool _ _, rfl⟩
  · cases h
def qEx : List (Nat × List Nat) → Nat → List Nat
  | [], _ => List.range 150
  | (j, l) :: t, i => bif Nat.beq j i then (List.range 150).filter (fun x => !memN l x) else qEx t i
def qTabK : List (Nat × List Nat × List Nat × List (Nat × List Nat)) → FuncId → Nat → List Nat
  | [], _ => qAll
  | (g, ro, kp, ex) :: t, f => bif Nat.beq g f then (fun id => bif Nat.beq id 999999 then ro else bif Nat.beq id 999998 then kp else qEx ex id) else qTabK t f
end
section
variable {P : Program} {w : World} {L : Nat → Prop} {ι : Inj} {H : AH} {nx : Nat}
theorem vr_low {w : World} {L : Nat → Prop} {N : Nat} {ι : Inj} {v : Value} {a : AV} (h : VR w L ι v a) : (∀ r q g l, ι r q g = some l → r < N) → a.Below N := by
  induction h with
  | undef => intro _; exact .undef
  | int ι k n h => intro _; exact .int _ _
  | bool => intro _; exact .bool _
  | str => intro _; exact .str _
  | nilp => intro _; exact .nilp
  | ptr ι r q g i f l h hm => intro hi; exact .ptr _ _ _ _ _ (hi _ _ _ _ h)
  | iptr => intro _; exact .iptr _ _
  | sl => intro _; exact .sl _ _ _
  | sl0 => intro _; exact .sl _ _ _
  | nilsl => intro _; exact .nilsl
  | cut => intro _; exact .cut
  | own ι r q g off n a c l h hm hn hc ha => intro hi; exact .own _ _ _ _ _ (hi _ _ _ _ h)
  | mp ι r l h hm => intro hi; exact .mp _ (hi _ _ _ _ h)
  | nilmp => intro _; exact .nilmp
  | it ι r l h hm => intro hi; exact .it _ (hi _ _ _ _ h)
  | fn ι f cs caps hs hv ih =>
    intro hi
    refine .fn _ _ fun a ha => ?_
    obtain ⟨i, hl, rfl⟩ := List.mem_iff_getElem.1 ha
    exact ih i _ _ (Array.getElem?_eq_getElem (show i < cs.size by omega)) (List.getElem?_eq_getElem hl) hi
  | nilfn => intro _; exact .nilfn
  | agg ι cs asv hs h1 hv ih =>
    intro hi
    refine .agg _ fun a ha => ?_
    obtain ⟨i, hl, rfl⟩ := List.mem_iff_getElem.1 ha
    exact ih i _ _ (Array.getElem?_eq_getElem (show i < cs.size by omega)) (List.getElem?_eq_getElem hl) hi
  | tup ι cs asv hs hv ih =>
    intro hi
    refine .tup _ fun a ha => ?_
    obtain ⟨i, hl, rfl⟩ := List.mem_iff_getElem.1 ha
    exact ih i _ _ (Array.getElem?_eq_getElem (show i < cs.size by omega)) (List.getElem?_eq_getElem hl) hi
theorem RelH.below (rel : RelH w L ι H nx) {r q sz g : Nat} {els : List (List AV)} (h : H.get r q = some (.row sz els g)) {c : List AV} (hc : c ∈ els) {a : AV} (ha : a ∈ c) : a.Below nx := by
  obtain ⟨l, _, ok⟩ := rel.row _ _ _ _ _ h
  obtain ⟨i, hi, rfl⟩ := List.mem_iff_getElem.1 hc
  obtain ⟨j, hj, rfl⟩ := List.mem_iff_getElem.1 ha
  obtain ⟨v, _, _, hv⟩ := ok.hold i _ j _ (List.getElem?_eq_getElem hi) (List.getElem?_eq_getElem hj)
  exact vr_low hv fun r q g l h => rel.idx r q g l h
def zqN (H : AH) (nx sz n : Nat) (els : List (List AV)) (v : AV) (H' : AH) : Prop :=
  ∃ r g, nx ≤ r ∧ v = .own r 0 g 0 n ∧ (∀ x q, x < nx → H'.get x q = H.get x q) ∧ H'.get r 0 = some (.row sz els g)
theorem zyA {f : FuncId} {args : List AV} {Q : AV → AH → Nat → Prop} (h : (∀ r o, H.look r = some o → r < nx) → zaf P f args H nx Q) : zaf P f args H nx Q :=
  fun w L ι vs rel hv => h rel.dom w L ι vs rel hv
theorem zwr {f : FuncId} {args : List AV} {sz n : Nat} {els : List (List AV)} (h : zaf P f args H nx (fun v H' _ => zqN H nx sz n els v H'))
    (hb : ∀ w L ι, RelH w L ι H nx → ∀ c ∈ els, ∀ a ∈ c, a.Below nx) : zaf P f args H nx (fun v H' nx' => (v, H', nx') = (.own nx 0 0 0 n, H.set nx 0 (.row sz els 0), nx + 1)) := by
  intro w L ι vs rel hv
  refine (h w L ι vs rel hv).mono fun e w' ⟨v, ι', H', nx', a, h1, st, h3, h4, r, g, hr, ha, hold, hnew⟩ => ?_
  subst ha
  obtain ⟨l, hl, ok⟩ := st.rel.row _ _ _ _ _ hnew
  have hget := AH.get_set (rel.sok sz) els 0
  let ι2 : Inj := fun x q g' => if x < nx then ι' x q g' else if x = nx ∧ q = 0 ∧ g' = 0 then some l else none
  have e1 : ∀ {x q g'}, x < nx → ι2 x q g' = ι' x q g' := fun h => by simp only [ι2, if_pos h]
  have e2 : ι2 nx 0 0 = some l := by simp [ι2]
  have hlive : ∀ b, live ι2 (H.set nx 0 (.row sz els 0)) b → live ι' H' b := by
    rintro b ⟨x, q, s, es, g', l', a1, a2, a3, a4⟩
    rw [hget] at a1
    split at a1
    · rename_i hx
      obtain ⟨rfl, rfl⟩ := hx
      cases a1
      rw [e2] at a2
      cases a2
      exact ⟨r, 0, _, _, _, _, hnew, hl, a3, a4⟩
    · rename_i hx
      have hxn : x < nx := by
        unfold AH.get at a1
        cases hlk : H.look x with
        | none => rw [hlk] at a1; cases a1
        | some o => exact rel.dom _ _ hlk
      rw [e1 hxn] at a2
      exact ⟨x, q, s, es, g', l', by rw [hold x q hxn]; exact a1, a2, a3, a4⟩
  have hLt : ∀ b, Lt L ι2 (H.set nx 0 (.row sz els 0)) b → Lt L ι' H' b := fun b h => h.elim .inl fun h => .inr (hlive b h)
  have move : ∀ {v : Value} {a : AV}, a.Below nx → VR w' (Lt L ι' H') ι' v a → VR w' (Lt L ι2 (H.set nx 0 (.row sz els 0))) ι2 v a := fun hb hv =>
    ((hv.upto hb).anti hLt).mono (fun _ _ h => ⟨rfl, h⟩) fun r q g l h => by
      unfold Inj.upto at h
      split at h
      · rename_i hlt; rw [e1 hlt]; exact h
      · cases h
  have keep : ∀ {s : Nat} {es : List (List AV)} {l : Loc}, (∀ c ∈ es, ∀ a ∈ c, a.Below nx) → RowOk w' (Lt L ι' H') ι' s es l → RowOk w' (Lt L ι2 (H.set nx 0 (.row sz els 0))) ι2 s es l := fun hb ok =>
    ok.view (fun _ => rfl) rfl fun i c hi => ⟨c, hi, rfl, fun j a a' hj hj' v hv => by
      rw [hj] at hj'
      cases hj'
      exact move (hb c (List.mem_of_getElem? hi) a (List.mem_of_getElem? hj)) hv⟩
  have lt_of : ∀ {x q o}, H.get x q = some o → x < nx := fun {x q o} h => by
    unfold AH.get at h
    cases hlk : H.look x with
    | none => rw [hlk] at h; cases h
    | some o => exact rel.dom _ _ hlk
  refine ⟨v, ι2, _, _, _, h1, ⟨st.ext, fun x q g' l' h => ?_, ?_, fun b hb => st.lv b (hlive b hb)⟩, Nat.le_succ _, ?_, rfl⟩
  · rw [e1 (rel.idx _ _ _ _ h)]
    exact st.inj _ _ _ _ h
  · constructor
    · intro x q s es g' hg
      rw [hget] at hg
      split at hg
      · rename_i hx
        obtain ⟨rfl, rfl⟩ := hx
        cases hg
        exact ⟨l, e2, keep (hb w L ι rel) ok⟩
      · have hxn := lt_of hg
        obtain ⟨l', h5, ok'⟩ := st.rel.row x q s es g' (by rw [hold x q hxn]; exact hg)
        exact ⟨l', by rw [e1 hxn]; exact h5, keep (fun c hc a ha => rel.below hg hc ha) ok'⟩
    · intro r1 q1 r2 q2 s1 es1 g1 l1 s2 es2 g2 l2 b1 b2 b3 b4 b5 b6 b7
      rw [hget] at b1 b2
      have nope : ∀ {x q s es g' l'}, H.get x q = some (.row s es g') → ι2 x q g' = some l' → 0 < l'.cap * l'.sz → 0 < l.cap * l.sz → l'.block = l.block → False := fun {x q s es g' l'} c1 c2 c3 c4 c5 => by
        have hxn := lt_of c1
        rw [e1 hxn] at c2
        have := st.rel.apart x q r 0 _ _ _ _ _ _ _ _ (by rw [hold x q hxn]; exact c1) hnew c2 hl c3 c4 c5
        omega
      by_cases h1 : r1 = nx ∧ q1 = 0
      · rw [if_pos h1] at b1
        obtain ⟨rfl, rfl⟩ := h1
        cases b1
        rw [e2] at b3
        cases b3
        by_cases h2 : r2 = r1 ∧ q2 = 0
        · exact ⟨h2.1.symm, h2.2.symm⟩
        · rw [if_neg h2] at b2
          exact (nope b2 b4 b6 b5 b7.symm).elim
      · rw [if_neg h1] at b1
        by_cases h2 : r2 = nx ∧ q2 = 0
        · rw [if_pos h2] at b2
          obtain ⟨rfl, rfl⟩ := h2
          cases b2
          rw [e2] at b4
          cases b4
          exact (nope b1 b3 b5 b6 b7).elim
        · rw [if_neg h2] at b2
          rw [e1 (lt_of b1)] at b3
          rw [e1 (lt_of b2)] at b4
          exact st.rel.apart _ _ _ _ _ _ _ _ _ _ _ _ (by rw [hold _ _ (lt_of b1)]; exact b1) (by rw [hold _ _ (lt_of b2)]; exact b2) b3 b4 b5 b6 b7
    · exact fun b hb => st.rel.out b (hlive b hb)
    · intro x q g' l' h
      simp only [ι2] at h
      split at h
      · omega
      · split at h
        · omega
        · cases h
    · intro x o h
      rcases AH.look_set h with rfl | h
      · omega
      · have := rel.dom _ _ h; omega
    · intro x q s es g' hg g2 l2 h
      rw [hget] at hg
      split at hg
      · rename_i hx
        obtain ⟨rfl, rfl⟩ := hx
        cases hg
        simp only [ι2] at h
        rw [if_neg (by omega)] at h
        split at h
        · omega
        · cases h
      · have hxn := lt_of hg
        rw [e1 hxn] at h
        exact st.rel.gen x q s es g' (by rw [hold x q hxn]; exact hg) g2 l2 h
    · exact st.rel.Lsz
  · have h4' := h4
    cases h4' with
    | own _ _ _ _ _ _ ad c l' hl' hm hn hc ha =>
      rw [hl] at hl'
      cases hl'
      exact .own _ nx 0 0 0 n ad c l e2 hm hn hc ha
def zlk (sz bytes : Nat) (z : List AV) : ACode :=
  .seq (.region [⟨some 2, .mknil sz, none⟩] [2])
  (.seq (.seq (.region [⟨some 3, .mov (.t 0), none⟩, ⟨some 4, .isnil false false (.t 3), none⟩] [3])
    (.cond (.t 4) (.seq (.region [⟨some 2, .mknil sz, none⟩] [0, 4]) .ret) .skip))
  (.seq (.region [⟨some 5, .buildSl sz 0 z [], none⟩, ⟨some 6, .mov (.t 0), none⟩, ⟨some 7, .append sz bytes (.t 5) (.t 6), none⟩, ⟨some 2, .mov (.t 7), none⟩] [0, 4, 5, 6, 7]) .ret))
def zwm (sz : Nat) (x : AV) (H : AH) : Bool :=
  match zdg sz x H, lenV x with
  | some els, some n => Nat.beq n 0 && (Nat.beq els.length 0 && zur H x)
  | _, _ => false
theorem ztV {sz : Nat} {x : AV} (h : zwm sz x H = true) : zdg sz x H = some [] ∧ lenV x = some 0 ∧ fits H x := by
  unfold zwm at h
  split at h
  · rename_i els n h1 h2
    simp only [Bool.and_eq_true] at h
    rw [h1, h2, List.eq_nil_of_length_eq_zero (zl h.2.1), zl h.1]
    exact ⟨rfl, rfl, zj4 h.2.2⟩
  · cases h
theorem zqQ {x : AV} (h : lenV x = some 0) : nilB false x = some none ∨ nilB false x = some (some true) := by
  cases x <;> simp_all [lenV, nilB]
theorem zzo {H' : AH} (hold : ∀ x q, x < nx → H'.get x q = H.get x q) (hd : ∀ r o, H.look r = some o → r < nx) {sz : Nat} {x : AV} {els : List (List AV)} (h : zdg sz x H = some els) (hf : fits H x) : zdg sz x H' = some els ∧ fits H' x := by
  cases x <;> try exact ⟨h, hf⟩
  rename_i r q g off n
  simp only [zdg, fits] at h hf ⊢
  have hr : r < nx := by
    cases hl : H.look r with
    | none => unfold AH.get at hf; rw [hl] at hf; exact hf.elim
    | some o => exact hd _ _ hl
  rw [hold r q hr]
  exact ⟨h, hf⟩
theorem zo6 {f sz bytes nt : Nat} {z : List AV} {q : Nat → List Nat} (hc : zT P f q = some ((zlk sz bytes z).strip, [.tmp 2], nt)) (hnt : 1 ≤ nt) {x : AV} (hx : zwm sz x H = true) :
    zaf P f [x] H nx (fun v H' nx' => (v, H', nx') = (.own nx 0 0 0 0, H.set nx 0 (.row sz [] 0), nx + 1)) := by
  obtain ⟨he, hl, hf⟩ := ztV hx
  refine zwr (zyA fun hd => fn_of hc hnt ?_) (fun _ _ _ _ c hc => by simp at hc)
  have hlook : H.look nx = none := by
    cases h : H.look nx with
    | none => rfl
    | some o => have := hd _ _ h; omega
  have g1 := AH.get_set (H := H) (r := nx) (q := 0) (sz := sz) (.inr ⟨hlook, rfl⟩) [] 0
  generalize hH1 : H.set nx 0 (.row sz [] 0) = H1 at g1
  have hlook1 : H1.look (nx + 1) = none := by
    cases h : H1.look (nx + 1) with
    | none => rfl
    | some o =>
      rw [← hH1] at h
      rcases AH.look_set h with h | h
      · omega
      · have := hd _ _ h; omega
  have g2 := AH.get_set (H := H1) (r := nx + 1) (q := 0) (sz := sz) (.inr ⟨hlook1, rfl⟩) [] 0
  generalize hH2 : H1.set (nx + 1) 0 (.row sz [] 0) = H2 at g2
  have hS1 : zjv (H.look nx) H nx 0 (.row sz [] 0) = H1 := by rw [← hH1]; rfl
  have hS2 : zjv (H1.look (nx + 1)) H1 (nx + 1) 0 (.row sz [] 0) = H2 := by rw [← hH2]; rfl
  have hS3 : zjv (H2.look (nx + 1)) H2 (nx + 1) 0 (.row sz [] 1) = H2.set (nx + 1) 0 (.row sz [] 1) := rfl
  have hnew : H2.get (nx + 1) 0 = some (.row sz [] 0) := by rw [g2, if_pos ⟨rfl, rfl⟩]
  have hold : ∀ x q, x < nx → H2.get x q = H.get x q := fun x q h => by rw [g2, if_neg (by omega), g1, if_neg (by omega)]
  have g3 := AH.get_set (H := H2) (r := nx + 1) (q := 0) (sz := sz) (.inl ⟨_, _, hnew⟩) [] 1
  obtain ⟨he2, hf2⟩ := zzo hold hd he hf
  have isnil : zqN H nx sz 0 [] (.own (nx + 1) 0 0 0 0) H2 := ⟨nx + 1, 0, Nat.le_succ _, rfl, hold, hnew⟩
  have more : zqN H nx sz 0 [] (.own (nx + 1) 0 1 0 0) (H2.set (nx + 1) 0 (.row sz [] 1)) :=
    ⟨nx + 1, 1, Nat.le_succ _, rfl, fun x q h => by rw [g3, if_neg (by omega)]; exact hold x q h, by rw [g3, if_pos ⟨rfl, rfl⟩]⟩
  have yes : wpX P nx (.seq (.region [⟨some 2, .mknil sz, none⟩] [0, 4]) .ret) (retK [.tmp 2] (fun v H' _ => zqN H nx sz 0 [] v H')) [(0, x), (4, .bool true)] H1 (nx + 1) := by
    (repeat (first | (simp (disch := (first | omega | (simp only [evF, evL, implies_true, and_self]; done) | fail)) only [evS, evZ, evX, evK, evB, evL, evR, Nat.reduceBEq, Nat.reduceAdd, Nat.reduceLeDiff, boxR, zjV, zfX, fldR, binI, unR, zhk, zhB, zhi, zbA, zen, extR, ziN, eqB, evU, zl0, hS2]) | (with_reducible intro _) | ((with_reducible apply And.intro); omega)))
    exact isnil
  have no : wpX P nx (.seq (.region [⟨some 5, .buildSl sz 0 z [], none⟩, ⟨some 6, .mov (.t 0), none⟩, ⟨some 7, .append sz bytes (.t 5) (.t 6), none⟩, ⟨some 2, .mov (.t 7), none⟩] [0, 4, 5, 6, 7]) .ret) (retK [.tmp 2] (fun v H' _ => zqN H nx sz 0 [] v H')) [(0, x), (4, .bool false)] H1 (nx + 1) := by
    have hS4 : ((H2.look (nx + 1)).bind fun x => x.part 0) = some (.row sz [] 0) := hnew
    (repeat (first | (simp (disch := (first | omega | (simp only [evF, evL, implies_true, and_self]; done) | fail)) only [evS, evZ, evX, evK, evB, evL, evR, Nat.reduceBEq, Nat.reduceAdd, Nat.reduceLeDiff, boxR, zjV, zfX, fldR, binI, unR, zhk, zhB, zhi, zbA, zen, extR, ziN, eqB, evU, zl0, hS2, hS4, he2, hl, apTo, zwH, and_true, hf2, Nat.zero_mul, List.append_nil]) | (with_reducible intro _) | ((with_reducible apply And.intro); omega)))
    exact more
  show wpX P nx _ _ _ _ _
  unfold zlk
  (repeat (first | (simp (disch := (first | omega | (simp only [evF, evL, implies_true, and_self]; done) | fail)) only [evS, evZ, evX, evK, evB, evL, evR, Nat.reduceBEq, Nat.reduceAdd, Nat.reduceLeDiff, boxR, zjV, zfX, fldR, binI, unR, zhk, zhB, zhi, zbA, zen, extR, ziN, eqB, evU, zl0, hS1]) | (with_reducible intro _) | ((with_reducible apply And.intro); omega)))
  rcases zqQ hl with hn | hn
  · rw [hn]
    (repeat (first | (simp (disch := (first | omega | (simp only [evF, evL, implies_true, and_self]; done) | fail)) only [evS, evZ, evX, evK, evB, evL, evR, Nat.reduceBEq, Nat.reduceAdd, Nat.reduceLeDiff, boxR, zjV, zfX, fldR, binI, unR, zhk, zhB, zhi, zbA, zen, extR, ziN, eqB, evU, zl0, hS1]) | (with_reducible intro _) | ((with_reducible apply And.intro); omega)))
    refine zp (fun hb => ?_) (fun hb => ?_)
    · subst hb
      exact yes
    · subst hb
      exact no
  · rw [hn]
    (repeat (first | (simp (disch := (first | omega | (simp only [evF, evL, implies_true, and_self]; done) | fail)) only [evS, evZ, evX, evK, evB, evL, evR, Nat.reduceBEq, Nat.reduceAdd, Nat.reduceLeDiff, boxR, zjV, zfX, fldR, binI, unR, zhk, zhB, zhi, zbA, zen, extR, ziN, eqB, evU, zl0, hS1, hS2]) | (with_reducible intro _) | ((with_reducible apply And.intro); omega)))
    exact isnil
end
def frB (m : Bool) (H : AH) : Nat → AV → AV → Bool
  | 0, _, _ => false
  | d + 1, b, a => match a with
    | .undef => true
    | .int k n => match b with
      | .int k' n' => decide (k' = k) && decide (n' = n)
      | _ => false
    | .bool x => match b with
      | .bool y => y == x
      | _ => false
    | .str s => match b with
      | .str t => decide (t = s)
      | _ => false
    | .nilp => match b with
      | .nilp => true
      | _ => false
    | .nilfn => match b with
      | .nilfn => true
      | _ => false
    | .cut => match b with
      | .cut => true
      | _ => false
    | .nilsl => match b with
      | .nilsl => true
      | _ => false
    | .sl sz n f => match b with
      | .sl sz' n' f' => Nat.beq sz' sz && (Nat.beq n' n && allB n fun i => allB sz fun j => frB m H d (f' i j) (f i j))
      | .nilsl => Nat.beq n 0
      | .own r q g off n' => m && (match H.get r q with
        | some (.row sz' els g') => Nat.beq sz' sz && (Nat.beq n' n && (Nat.beq g g' && (Nat.ble n big && (Nat.ble (off + n) els.length && allB n fun i => allB sz fun j => frB m H d ((els.getD (off + i) []).getD j .undef) (f i j)))))
        | _ => false)
      | _ => false
    | .agg l => match b with
      | .agg l' => Nat.beq l'.length l.length && allB l.length fun i => frB m H d (l'.getD i .undef) (l.getD i .undef)
      | _ => false
    | .tup l => match b with
      | .tup l' => Nat.beq l'.length l.length && allB l.length fun i => frB m H d (l'.getD i .undef) (l.getD i .undef)
      | _ => false
    | _ => false
theorem zo2 {α : Type} {l : List α} {i : Nat} {a d : α} (h : l[i]? = some a) : l.getD i d = a := by rw [List.getD_eq_getElem?_getD, h]; rfl
theorem zol {H : AH} {m : Bool} {D : Nat → Nat → Prop} (hD : m = true → ∀ r q, D r q) : ∀ (d : Nat) (b a : AV), frB m H d b a = true → Vw H [] nos D false b a
  | 0, _, _, h => by cases h
  | d + 1, b, a, h => by
    unfold frB at h
    split at h
    · exact .undef _ _
    · split at h
      · simp only [Bool.and_eq_true, decide_eq_true_eq] at h
        obtain ⟨rfl, rfl⟩ := h
        exact .int _ _ _
      · cases h
    · split at h
      · simp only [beq_iff_eq] at h
        subst h
        exact .bool _ _
      · cases h
    · split at h
      · simp only [decide_eq_true_eq] at h
        subst h
        exact .str _ _
      · cases h
    · split at h
      · exact .nilp _
      · cases h
    · split at h
      · exact .nilfn _
      · cases h
    · split at h
      · exact .cut _
      · cases h
    · split at h
      · exact .nilsl _
      · cases h
    · split at h
      · rename_i sz' n' f'
        simp only [Bool.and_eq_true] at h
        obtain ⟨h1, h2, h3⟩ := h
        obtain rfl := zl h1
        obtain rfl := zl h2
        exact .slf _ _ _ _ _ fun i j hi hj => zol hD d _ _ (zaV (zaV h3 hi) hj)
      · obtain rfl := zl h
        exact .nil0 _ _ _
      · rename_i r q g off n'
        rw [Bool.and_eq_true] at h
        obtain ⟨hm, h⟩ := h
        split at h
        · rename_i sz' els g' hg
          simp only [Bool.and_eq_true] at h
          obtain ⟨h1, h2, h3, h4, h5, h6⟩ := h
          obtain rfl := zl h1
          obtain rfl := zl h2
          obtain rfl := zl h3
          exact .frz _ r q g off n' sz' els _ (hD hm r q) hg (bleT h4) (bleT h5) fun i j hi hj => zol hD d _ _ (zaV (zaV h6 hi) hj)
        · cases h
      · cases h
    · split at h
      · rename_i l l'
        simp only [Bool.and_eq_true] at h
        obtain ⟨h1, h2⟩ := h
        have hl := zl h1
        refine .agg _ _ _ hl fun i x y hx hy => ?_
        have := zaV h2 (List.getElem?_eq_some_iff.1 hy).1
        rw [zo2 hx, zo2 hy] at this
        exact zol hD d _ _ this
      · cases h
    · split at h
      · rename_i l l'
        simp only [Bool.and_eq_true] at h
        obtain ⟨h1, h2⟩ := h
        have hl := zl h1
        refine .tup _ _ _ hl fun i x y hx hy => ?_
        have := zaV h2 (List.getElem?_eq_some_iff.1 hy).1
        rw [zo2 hx, zo2 hy] at this
        exact zol hD d _ _ this
      · cases h
    · cases h
def frBs (m : Bool) (H : AH) : List AV → List AV → Bool
  | [], [] => true
  | b :: bs, a :: asv => frB m H 30 b a && frBs m H bs asv
  | _, _ => false
theorem zsl {H : AH} {m : Bool} {D : Nat → Nat → Prop} (hD : m = true → ∀ r q, D r q) : ∀ {bs asv : List AV}, frBs m H bs asv = true → Lend H D bs asv
  | [], [], _ => .nil
  | b :: bs, a :: asv, h => by
    rw [frBs, Bool.and_eq_true] at h
    exact .cons (zol hD 30 _ _ h.1) (zsl hD h.2)
  | [], _ :: _, h => by cases h
  | _ :: _, [], h => by cases h
structure Memo where
  f : FuncId
  args : List AV
  res : AV
def zun : List Memo → zba → zba
  | [], orc, f, args, H, nx => orc f args H nx
  | e :: t, orc, f, args, H, nx => bif Nat.beq e.f f && (bif e.res.scal then frBs true H args e.args else frBs false H args e.args) then some (e.res, H, nx) else zun t orc f args H nx
theorem zhc {P : Program} {orc : zba} (ho : orc.Sound P) : ∀ {l : List Memo}, (∀ e ∈ l, zk P e.f e.args (· = e.res)) → (zun l orc).Sound P
  | [], _ => ho
  | e :: t, hl => by
    intro f args H nx r h
    unfold zun at h
    cases hb : Nat.beq e.f f && (bif e.res.scal then frBs true H args e.args else frBs false H args e.args) with
    | false => rw [hb] at h; exact zhc ho (fun e' h' => hl e' (List.mem_cons_of_mem _ h')) f args H nx r h
    | true =>
      rw [hb] at h
      cases h
      rw [Bool.and_eq_true] at hb
      obtain rfl := zl hb.1
      have hb2 := hb.2
      cases hs : e.res.scal with
      | true =>
        rw [hs] at hb2
        exact (z6 (D := allR) (hl e (by simp)) (zsl (fun _ _ _ => trivial) hb2) (.inl hs)).ok rfl
      | false =>
        rw [hs] at hb2
        exact (z6 (D := noR) (hl e (by simp)) (zsl (fun h => by cases h) hb2) (.inr fun _ _ h => h)).ok rfl
def isFrz (a : AV) : Option (AV × AH × Nat) → Bool
  | some (v, H, _) => frB true H 30 v a
  | none => false
theorem zd5 {P : Program} {qf : FuncId → Nat → List Nat} {orc : zba} (ho : orc.Sound P) (n : Nat) {f : FuncId} {args : List AV} {a : AV} (h : isFrz a (zuk P qf orc (zey P qf orc n) f args [] 0) = true) : zk P f args (· = a) := by
  unfold isFrz at h
  split at h
  · rename_i v H' nx' e
    exact (zoc ho n e).mono fun v1 H1 nx1 he => by
      cases he
      exact ⟨a, zol (fun _ _ _ => trivial) 30 _ _ h, rfl⟩
  · cases h
def slL (sz : Nat) (l : List (List AV)) : AV := .sl sz l.length (fun i j => (l.getD i []).getD j .undef)
def oN (d : Nat) (a : AOp) : AOper := ⟨some d, a, none⟩
def oG (d t : Nat) (b : Bool) (a : AOp) : AOper := ⟨some d, a, some (t, b)⟩
theorem evD : type_of% @evA ∧ type_of% @boxR.eq_1 ∧ type_of% @zjV.eq_1 ∧ type_of% @zfX.eq_1 ∧ type_of% @fldR.eq_1 ∧ type_of% @binI.eq_1 ∧ type_of% @binI.eq_2 ∧ type_of% @binI.eq_3 ∧ type_of% @binI.eq_4 ∧ type_of% @binI.eq_5 ∧ type_of% @binI.eq_6 ∧ type_of% @binI.eq_7 ∧ type_of% @binI.eq_8 ∧ type_of% @binI.eq_9 ∧ type_of% @binI.eq_10 ∧ type_of% @binI.eq_11 ∧ type_of% @binI.eq_12 ∧ type_of% @binI.eq_13 ∧ type_of% @binI.eq_14 ∧ type_of% @binI.eq_15 ∧ type_of% @binI.eq_16 ∧ type_of% @binI.eq_17 ∧ type_of% @unR.eq_1 ∧ type_of% @unR.eq_2 ∧ type_of% @zhk.eq_1 ∧ type_of% @zhB.eq_1 ∧ type_of% @zhi.eq_1 ∧ type_of% @zbA.eq_1 ∧ type_of% @zen.eq_1 ∧ type_of% @extR.eq_1 ∧ type_of% @ziN.eq_1 ∧ type_of% @eqB.eq_1 ∧ type_of% @evU ∧ type_of% @zl0 ∧ type_of% @oN.eq_1 ∧ type_of% @oG.eq_1 :=
  ⟨@evA, @boxR.eq_1, @zjV.eq_1, @zfX.eq_1, @fldR.eq_1, @binI.eq_1, @binI.eq_2, @binI.eq_3, @binI.eq_4, @binI.eq_5, @binI.eq_6, @binI.eq_7, @binI.eq_8, @binI.eq_9, @binI.eq_10, @binI.eq_11, @binI.eq_12, @binI.eq_13, @binI.eq_14, @binI.eq_15, @binI.eq_16, @binI.eq_17, @unR.eq_1, @unR.eq_2, @zhk.eq_1, @zhB.eq_1, @zhi.eq_1, @zbA.eq_1, @zen.eq_1, @extR.eq_1, @ziN.eq_1, @eqB.eq_1, @evU, @zl0, @oN.eq_1, @oG.eq_1⟩
theorem evWB : type_of% @evWA ∧ type_of% @and_self ∧ type_of% @Int.natCast_zero ∧ type_of% @Int.natCast_one ∧ type_of% @Int.cast_ofNat_Int ∧ type_of% @evV ∧ type_of% @za.eq_1 ∧ type_of% @zat.eq_1 ∧ type_of% @z8.eq_1 ∧ type_of% @encP.eq_1 :=
  ⟨@evWA, @and_self, @Int.natCast_zero, @Int.natCast_one, @Int.cast_ofNat_Int, @evV, @za.eq_1, @zat.eq_1, @z8.eq_1, @encP.eq_1⟩
theorem dcd : type_of% @decide_eq_true_eq ∧ type_of% @decide_eq_false_iff_not ∧ type_of% @Bool.not_eq_true' ∧ type_of% @Bool.not_eq_false' ∧ type_of% @Bool.and_eq_true ∧ type_of% @Bool.or_eq_true ∧ type_of% @not_true_eq_false ∧ type_of% @not_false_eq_true :=
  ⟨@decide_eq_true_eq, @decide_eq_false_iff_not, @Bool.not_eq_true', @Bool.not_eq_false', @Bool.and_eq_true, @Bool.or_eq_true, @not_true_eq_false, @not_false_eq_true⟩
theorem fin4 {p : Prop} (h : p := by (repeat' with_reducible apply And.intro) <;> first | omega | exact zia rfl rfl (by omega) | exact zbj rfl rfl (by omega) | exact zmt rfl rfl (by omega) | (refine zgI ?_; (repeat' first | exact bytes_flat | exact flat1 | refine flat_app ?_ ?_); done) | exact zr0 (fun _ => rfl) | exact zkn (c := cN) (fun _ => rfl) rfl | exact zgy (fun _ => rfl) (by decide) ⟨rfl, rfl⟩ trivial | exact zgy (fun _ => rfl) (by decide) (fun _ _ => ⟨rfl, rfl⟩) trivial | (simp; done)) : p := h
theorem lb {p : Prop} (h : p := by first | rfl | exact (dT (by omega)).symm | exact (dF (by omega)).symm | exact decide_eq_decide.2 (by omega)) : p := h
theorem hBig : big = 9223372036854775807 := rfl
theorem fin5 {p : Prop} (h : p := by (try simp [subK, Kn.get, zkf]) <;> (repeat' with_reducible apply And.intro) <;> first | rfl | omega | (simp; done)) : p := h
end Go.Ab
namespace Go.Proofs
open Go.RowKit Go.Maps Go.Sort Go.Shelf
def zbe : Go.Shelf.Ren := ⟨fun | 7 => 169 | 10 => 183 | n => n, fun | 23 => 69 | 26 => 3 | 3 => 4 | 28 => 164 | 0 => 0 | 27 => 163 | 33 => 115 | 4 => 4 | n => n, fun | n => n⟩
theorem zst : Go.Proofs.SlLaysZI.n7 Tryz.prog zbe := {
  mixed := by kernel_rfl,
  f7 := ⟨Tryz.f169.name, by decide, Tryz.func169.trans (congrArg some (by kernel_rfl))⟩,
  f10 := ⟨Tryz.f183.name, by decide, Tryz.func183.trans (congrArg some (by kernel_rfl))⟩,
  t0 := Tryz.underlying0,
  a0 := Tryz.isAgg0,
  z0 := Tryz.sizeOf0,
  v0 := Tryz.zeroValue0,
  t4 := Tryz.underlying4,
  a4 := Tryz.isAgg4,
  z4 := Tryz.sizeOf4,
  v4 := Tryz.zeroValue4,
  t23 := Tryz.underlying69,
  a23 := Tryz.isAgg69,
  z23 := Tryz.sizeOf69,
  v23 := Tryz.zeroValue69,
  t26 := Tryz.underlying3,
  a26 := Tryz.isAgg3,
  z26 := Tryz.sizeOf3,
  v26 := Tryz.zeroValue3,
  t27 := Tryz.underlying163,
  a27 := Tryz.isAgg163,
  z27 := Tryz.sizeOf163,
  v27 := Tryz.zeroValue163,
  t28 := Tryz.underlying164,
  a28 := Tryz.isAgg164,
  z28 := Tryz.sizeOf164,
  v28 := Tryz.zeroValue164,
  t33 := Tryz.underlying115,
  a33 := Tryz.isAgg115,
  z33 := Tryz.sizeOf115,
  v33 := Tryz.zeroValue115 }
def zkx : Go.Shelf.Ren := ⟨fun | 6 => 168 | 8 => 182 | 9 => 57 | 11 => 186 | 13 => 106 | 12 => 105 | 23 => 151 | 24 => 152 | 14 => 142 | 15 => 143 | 16 => 144 | 17 => 145 | 18 => 146 | 19 => 147 | 20 => 148 | 21 => 149 | 22 => 150 | 25 => 173 | 26 => 174 | 27 => 175 | 28 => 176 | 29 => 177 | 30 => 178 | 31 => 185 | n => n, fun | 26 => 3 | 28 => 164 | 24 => 36 | 0 => 0 | 3 => 3 | 37 => 120 | 48 => 22 | 50 => 152 | 4 => 4 | 40 => 144 | 39 => 143 | 45 => 148 | 5 => 5 | 9 => 9 | 51 => 167 | 55 => 171 | 57 => 176 | 58 => 177 | 33 => 115 | n => n, fun | n => n⟩
theorem zvq : Go.Proofs.SlLaysZI.n6 Tryz.prog zkx := {
  mixed := by kernel_rfl,
  f6 := ⟨Tryz.f168.name, by decide, Tryz.func168.trans (congrArg some (by kernel_rfl))⟩,
  f8 := ⟨Tryz.f182.name, by decide, Tryz.func182.trans (congrArg some (by kernel_rfl))⟩,
  f11 := ⟨Tryz.f186.name, by decide, Tryz.func186.trans (congrArg some (by kernel_rfl))⟩,
  t0 := Tryz.underlying0,
  a0 := Tryz.isAgg0,
  z0 := Tryz.sizeOf0,
  v0 := Tryz.zeroValue0,
  t24 := Tryz.underlying36,
  a24 := Tryz.isAgg36,
  z24 := Tryz.sizeOf36,
  v24 := Tryz.zeroValue36,
  t26 := Tryz.underlying3,
  a26 := Tryz.isAgg3,
  z26 := Tryz.sizeOf3,
  v26 := Tryz.zeroValue3,
  t28 := Tryz.underlying164,
  a28 := Tryz.isAgg164,
  z28 := Tryz.sizeOf164,
  v28 := Tryz.zeroValue164,
  i26 := by kernel_rfl }
def zsm : Go.Shelf.Ren := ⟨fun | 5 => 57 | 8 => 106 | 7 => 105 | 19 => 151 | 20 => 152 | 10 => 142 | 11 => 143 | 12 => 144 | 13 => 145 | 14 => 146 | 15 => 147 | 16 => 148 | 17 => 149 | 18 => 150 | 30 => 173 | 31 => 174 | 32 => 175 | 33 => 176 | 34 => 177 | 35 => 178 | 40 => 185 | n => n, fun | 23 => 36 | 25 => 3 | 3 => 3 | 32 => 120 | 22 => 36 | 0 => 0 | 44 => 22 | 46 => 152 | 4 => 4 | 36 => 144 | 35 => 143 | 41 => 148 | 5 => 5 | 9 => 9 | 53 => 167 | 57 => 171 | 63 => 176 | 64 => 177 | n => n, fun | n => n⟩
theorem zpv : Go.Proofs.SlLaysM.n5 Tryz.prog zsm := {
  mixed := by kernel_rfl,
  f5 := ⟨Tryz.f57.name, by decide, Tryz.func57.trans (congrArg some (by kernel_rfl))⟩,
  f7 := ⟨Tryz.f105.name, by decide, Tryz.func105.trans (congrArg some (by kernel_rfl))⟩,
  f8 := Tryz.func106.trans (congrArg some (by kernel_rfl)),
  f10 := ⟨Tryz.f142.name, by decide, Tryz.func142.trans (congrArg some (by kernel_rfl))⟩,
  f11 := ⟨Tryz.f143.name, by decide, Tryz.func143.trans (congrArg some (by kernel_rfl))⟩,
  f12 := ⟨Tryz.f144.name, by decide, Tryz.func144.trans (congrArg some (by kernel_rfl))⟩,
  f13 := ⟨Tryz.f145.name, by decide, Tryz.func145.trans (congrArg some (by kernel_rfl))⟩,
  f14 := ⟨Tryz.f146.name, by decide, Tryz.func146.trans (congrArg some (by kernel_rfl))⟩,
  f15 := ⟨Tryz.f147.name, by decide, Tryz.func147.trans (congrArg some (by kernel_rfl))⟩,
  f16 := ⟨Tryz.f148.name, by decide, Tryz.func148.trans (congrArg some (by kernel_rfl))⟩,
  f17 := ⟨Tryz.f149.name, by decide, Tryz.func149.trans (congrArg some (by kernel_rfl))⟩,
  f18 := ⟨Tryz.f150.name, by decide, Tryz.func150.trans (congrArg some (by kernel_rfl))⟩,
  f19 := Tryz.func151.trans (congrArg some (by kernel_rfl)),
  f20 := Tryz.func152.trans (congrArg some (by kernel_rfl)),
  f30 := ⟨Tryz.f173.name, by decide, Tryz.func173.trans (congrArg some (by kernel_rfl))⟩,
  f31 := Tryz.func174.trans (congrArg some (by kernel_rfl)),
  f32 := Tryz.func175.trans (congrArg some (by kernel_rfl)),
  f33 := ⟨Tryz.f176.name, by decide, Tryz.func176.trans (congrArg some (by kernel_rfl))⟩,
  f34 := ⟨Tryz.f177.name, by decide, Tryz.func177.trans (congrArg some (by kernel_rfl))⟩,
  f35 := ⟨Tryz.f178.name, by decide, Tryz.func178.trans (congrArg some (by kernel_rfl))⟩,
  f40 := ⟨Tryz.f185.name, by decide, Tryz.func185.trans (congrArg some (by kernel_rfl))⟩,
  t0 := Tryz.underlying0,
  a0 := Tryz.isAgg0,
  z0 := Tryz.sizeOf0,
  v0 := Tryz.zeroValue0,
  t3 := Tryz.underlying3,
  a3 := Tryz.isAgg3,
  z3 := Tryz.sizeOf3,
  v3 := Tryz.zeroValue3,
  t4 := Tryz.underlying4,
  a4 := Tryz.isAgg4,
  z4 := Tryz.sizeOf4,
  v4 := Tryz.zeroValue4,
  t5 := Tryz.underlying5,
  a5 := Tryz.isAgg5,
  z5 := Tryz.sizeOf5,
  v5 := Tryz.zeroValue5,
  t9 := Tryz.underlying9,
  a9 := Tryz.isAgg9,
  z9 := Tryz.sizeOf9,
  v9 := Tryz.zeroValue9,
  t22 := Tryz.underlying36,
  a22 := Tryz.isAgg36,
  z22 := Tryz.sizeOf36,
  v22 := Tryz.zeroValue36,
  t23 := Tryz.underlying36,
  a23 := Tryz.isAgg36,
  z23 := Tryz.sizeOf36,
  v23 := Tryz.zeroValue36,
  t25 := Tryz.underlying3,
  a25 := Tryz.isAgg3,
  z25 := Tryz.sizeOf3,
  v25 := Tryz.zeroValue3,
  t32 := Tryz.underlying120,
  a32 := Tryz.isAgg120,
  z32 := Tryz.sizeOf120,
  v32 := Tryz.zeroValue120,
  t35 := Tryz.underlying143,
  a35 := Tryz.isAgg143,
  z35 := Tryz.sizeOf143,
  v35 := Tryz.zeroValue143,
  t36 := Tryz.underlying144,
  a36 := Tryz.isAgg144,
  z36 := Tryz.sizeOf144,
  v36 := Tryz.zeroValue144,
  t41 := Tryz.underlying148,
  a41 := Tryz.isAgg148,
  z41 := Tryz.sizeOf148,
  v41 := Tryz.zeroValue148,
  t44 := Tryz.underlying22,
  a44 := Tryz.isAgg22,
  z44 := Tryz.sizeOf22,
  v44 := Tryz.zeroValue22,
  t46 := Tryz.underlying152,
  a46 := Tryz.isAgg152,
  z46 := Tryz.sizeOf152,
  v46 := Tryz.zeroValue152,
  t53 := Tryz.underlying167,
  a53 := Tryz.isAgg167,
  z53 := Tryz.sizeOf167,
  v53 := Tryz.zeroValue167,
  t57 := Tryz.underlying171,
  a57 := Tryz.isAgg171,
  z57 := Tryz.sizeOf171,
  v57 := Tryz.zeroValue171,
  t63 := Tryz.underlying176,
  a63 := Tryz.isAgg176,
  z63 := Tryz.sizeOf176,
  v63 := Tryz.zeroValue176,
  t64 := Tryz.underlying177,
  a64 := Tryz.isAgg177,
  z64 := Tryz.sizeOf177,
  v64 := Tryz.zeroValue177 }
theorem zqq : ∀ args w, (callFunc 57 args).run Tryz.prog w = .ok (.enter 57 args) w := enters_of Tryz.func57 (by kernel_rfl) rfl
theorem zpb : ∀ args w, (callFunc 183 args).run Tryz.prog w = .ok (.enter 183 args) w := enters_of Tryz.func183 (by kernel_rfl) rfl
end Go.Proofs
namespace Go.Ab.Dm
abbrev Adj := List (List Nat)
def suc (E : Adj) (k : Nat) : List Nat := E.getD k []
def Adj.ok (E : Adj) : Prop := ∀ k, ∀ n ∈ suc E k, n < E.length
def zed (x : Int) (out : List Nat) (c : Nat) : List Nat := if (c : Int) ≠ x ∧ c ∉ out then out ++ [c] else out
def zti (E : Adj) (x : Int) : Nat → Nat → List Nat → List Nat
  | 0, _, out => out
  | f + 1, i, out => match out[i]? with
    | some b => zti E x f (i + 1) ((suc E b).foldl (zed x) out)
    | none => out
def zuV (E : Adj) (a x : Int) : List Nat := if a = x ∨ a < 0 ∨ (E.length : Int) ≤ a then [] else zti E x E.length 0 [a.toNat]
def reachL (E : Adj) : List Bool := (List.range E.length).map fun b => decide (b ∈ zuV E 0 (-1))
def dfs (E : Adj) : Nat → Nat → List Nat × List Nat → List Nat × List Nat
  | 0, _, s => s
  | f + 1, k, s =>
    let s1 := (suc E k).foldl (fun s n => if n ∈ s.1 then s else dfs E f n s) (s.1 ++ [k], s.2)
    (s1.1, s1.2 ++ [k])
def orderL (E : Adj) : List Nat := if E.length = 0 then [] else (dfs E E.length 0 ([], [])).2.reverse
inductive RA (E : Adj) (X : Nat → Prop) (a : Nat) : Nat → Prop
  | refl : ¬ X a → RA E X a a
  | step {b c : Nat} : RA E X a b → c ∈ suc E b → ¬ X c → RA E X a c
end Go.Ab.Dm
