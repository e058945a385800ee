/-
  Part 11 of the proof: how the calls of this program run, over values instead of memory, and what each function computes.
-/
import Derived.KernelRfl
import Derived.Test.YtdhlfajcofgpkaaGreatKj
set_option maxRecDepth 100000
set_option linter.unusedVariables false
set_option linter.unusedSimpArgs false
set_option linter.unnecessarySimpa false
set_option linter.unusedSectionVars false

namespace Go.Ab
open Go.RowKit Go.Proofs
def zbf (exit : List Int) (bl : List Bl) (i : Nat) : List Bl := bl.mapIdx fun j b => if j < i then blkD exit bl j b else b
theorem zdm {exit : List Int} {bl : List Bl} {i : Nat} : (zbf exit bl i).length = bl.length := by simp [zbf]
theorem zpd {exit : List Int} {bl : List Bl} : zbf exit bl 0 = bl := by
  apply List.ext_getElem
  · exact zdm
  · intro k h1 h2; simp [zbf]
theorem zpJ {exit : List Int} {bl : List Bl} : zbf exit bl bl.length = zb5 exit bl := by
  apply List.ext_getElem
  · rw [zdm, zho]
  · intro k h1 h2
    rw [zdm] at h1
    simp [zbf, zb5, h1]
theorem zsK {exit : List Int} {bl : List Bl} {i : Nat} (h : i < bl.length) : (zbf exit bl i)[i]'(by rw [zdm]; exact h) = bl[i] := by simp [zbf]
theorem zrv {exit : List Int} {bl : List Bl} {i : Nat} (h : i < bl.length) : (zbf exit bl i).set i ⟨bl[i].addr, (ziO exit bl[i].stmts (zaQ exit bl i)).1⟩ = zbf exit bl (i + 1) := by
  apply List.ext_getElem
  · simp [zbf]
  · intro k h1 h2
    rw [zdm] at h2
    rw [List.getElem_set]
    by_cases hk : i = k
    · subst hk
      simp [zbf, blkD]
    · rw [if_neg hk]
      simp only [zbf, List.getElem_mapIdx]
      by_cases hl : k < i
      · rw [if_pos hl, if_pos (by omega)]
      · rw [if_neg hl, if_neg (by omega)]
theorem zmO {exit : List Int} {bl : List Bl} {i : Nat} : SubB (zbf exit bl i) bl := by
  refine ⟨zdm, fun k h1 h2 => ?_⟩
  simp only [zbf, List.getElem_mapIdx]
  split
  · exact ⟨rfl, zhb _⟩
  · exact ⟨rfl, List.Sublist.refl _⟩
theorem zmp {b : Bl} : ∀ {l : List Bl} {i : Nat} (h : i < l.length), zA (l.set i b) + l[i].stmts.length = zA l + b.stmts.length
  | x :: l, 0, h => by simp only [zA, List.set_cons_zero, List.map_cons, List.sum_cons, List.getElem_cons_zero]; omega
  | x :: l, i + 1, h => by
    have := zmp (b := b) (l := l) (i := i) (by simpa using h)
    simp only [zA, List.set_cons_succ, List.map_cons, List.sum_cons, List.getElem_cons_succ] at *
    omega
theorem zry {exit : List Int} {x : List Bl} : zl2 exit x = if zA (zb5 exit x) = zA x then x else zl2 exit (zb5 exit x) := by
  unfold zl2
  rw [zn6]
  split
  · rfl
  · have := (zcI (exit := exit) (bl := x)).count
    exact zmN _ _ _ (by omega) (by omega)
theorem zyk {Q : QT} (ad : Int) (bl : List Bl) (exit U : List Int) (hU : GoodB U exit bl) (S T : Nat → MS) (hE : EndB U exit bl S T) (r0 : Nat) (hr0 : r0 + zA bl ≤ 1000000)
    (hfin : ∀ K H nx, Ent 0 K H nx [(1, za exit), (4, .ptr 0 0 0 0 0), (8, .ptr 1 0 0 0 0), (9, .int .i64 ((r0 + (zA bl - zA (zb5 exit bl)) : Nat) : Int)), (10, .bool (decide (zA (zb5 exit bl) < zA bl)))]
      [(0, .row 2 [[.int .u32 0, .nilsl]] 0), (1, .row 2 [[.int .u32 ad, .own 2 0 0 0 bl.length]] 0), (2, .row 2 ((zb5 exit bl).map Bl.cells) 0)] 3 → Q .normal K H nx)
    {K : Kn} {H : AH} {nx : Nat} (hent : Ent 0 K H nx [(1, za exit), (4, .ptr 0 0 0 0 0), (8, .ptr 1 0 0 0 0), (9, .int .i64 r0), (10, .bool false), (12, .own 3 0 0 0 bl.length), (35, .int .i64 bl.length), (36, .int .i64 0)] (za5 ad bl.length bl T) 5) :
    zhF Tryz.prog 0 zcv (za3 2 Q) K H nx := by
  have hB := hBig
  have hlen := hU.len
  refine zl (fun i : Nat => ([(1, za exit), (4, .ptr 0 0 0 0 0), (8, .ptr 1 0 0 0 0), (9, .int .i64 ((r0 + (zA bl - zA (zbf exit bl i)) : Nat) : Int)), (10, .bool (decide (zA (zbf exit bl i) < zA bl))), (12, .own 3 0 0 0 bl.length), (35, .int .i64 bl.length), (36, .int .i64 i)], za5 ad bl.length (zbf exit bl i) T)) 5
    (fun i => i ≤ bl.length) (fun i => bl.length - i) 0 (Nat.zero_le _) ?_ ?_
  · rw [zpd]
    simp only [Nat.sub_self, Nat.lt_irrefl, decide_false, Nat.add_zero]
    exact hent
  rintro i hi wf
  unfold zcv
  by_cases hil : i < bl.length
  · have hm := List.getElem_mem hil
    have hDl := zdm (exit := exit) (bl := bl) (i := i)
    have hDi := zsK (exit := exit) hil
    have hDs := zrv (exit := exit) hil
    have hDc := (zmO (exit := exit) (bl := bl) (i := i)).count
    have hcs := zmp (b := ⟨bl[i].addr, (ziO exit bl[i].stmts (zaQ exit bl i)).1⟩) (l := zbf exit bl i) (i := i) (by omega)
    rw [hDs, hDi] at hcs
    simp only at hcs
    have hDc1 := (zmO (exit := exit) (bl := bl) (i := i + 1)).count
    have hT := hE.t i
    have hTl := hT.len
    have hks : zbR ((T i).2.map (·.1)) = zaQ exit bl i := hE.keyT hil
    have hkl : (zaQ exit bl i).length = (T i).2.length := by rw [← hks, (zP _).length_eq, List.length_map]
    have hcost := hU.cost _ hm
    have hok : (addL (0, []) (zaQ exit bl i)).ok := zia zkV (by simp only; omega) (by simp only [List.length_nil]; omega)
    have hbd := zcF (l := zaQ exit bl i) (s := (0, []))
    simp only [List.length_nil] at hbd
    have hkeys : ∀ x, x ∈ (addL (0, []) (zaQ exit bl i)).keys ↔ x ∈ zaQ exit bl i := fun x => by rw [zdx]; simp [MS.keys]
    obtain ⟨hkp, _⟩ := zoU (exit := exit) hkeys bl[i].stmts
    have hll := (zhb (exit := exit) (e := zaQ exit bl i) bl[i].stmts).length_le
    have hstl := zja hm
    have hl0 := fun (Q : QT) => zxQ (Q := Q) ad bl.length i hil hlen (zbf exit bl i) hDl T exit bl[i].stmts (addL (0, []) (zaQ exit bl i)) (r0 + (zA bl - zA (zbf exit bl i))) (decide (zA (zbf exit bl i) < zA bl)) (fun s hs => (hU.hsz _ hm s hs).1) hok (by omega) (by omega) (by omega) (by omega)
    simp only [hDi] at hl0
    rw [hkp, hDs] at hl0
    have hg : ((zbf exit bl i).map Bl.cells).getD i [] = [.int .u32 bl[i].addr, encL 8 St.cells bl[i].stmts] := by
      have := zt (f := Bl.cells) (d := []) (l := zbf exit bl i) (i := i) (by omega)
      rw [hDi] at this
      exact this
    have hDml : ((zbf exit bl i).map Bl.cells).length = bl.length := by rw [List.length_map, hDl]
    have hsa := zfC (0, []) (zaQ exit bl i) zkV (by simp only; omega) (by simp only [List.length_nil]; omega)
    generalize addL (0, []) (zaQ exit bl i) = a0 at *
    generalize zaQ exit bl i = lo at *
    clear hDi hDs hDl
    generalize hD : zbf exit bl i = D at *
    (repeat first | simp (disch := try exact dis1) only [evD, Nat.reduceBEq, Nat.reduceAdd, Nat.reduceLeDiff, dT, za5, za, zfo, zdP hil] | with_reducible intro _ | ((with_reducible apply And.intro); omega))
    refine zL [(0, 4, 0)] 1 _ (zbP bl.length i hil T hT.ok) rfl rfl (by (try simp only [evWB, Nat.reduceBEq, Nat.reduceAdd, Nat.reduceSub, Nat.reduceLeDiff, Nat.reduceLT, implies_true, famS]) <;> (repeat' with_reducible apply And.intro) <;> first | (refine zb zd (by decide) ⟨rfl, rfl⟩ ?_; (try simp only [evWB, Nat.reduceBEq, Nat.reduceAdd, Nat.reduceSub, Nat.reduceLeDiff, Nat.reduceLT, implies_true, famS]) <;> (repeat' with_reducible apply And.intro) <;> first | (refine zb zd (by decide) ⟨rfl, rfl⟩ ?_; (try simp only [evWB, Nat.reduceBEq, Nat.reduceAdd, Nat.reduceSub, Nat.reduceLeDiff, Nat.reduceLT, implies_true, famS]) <;> exact fin6; done) | exact fin6; done) | exact fin6) (by (try simp only [evWB, Nat.reduceBEq, Nat.reduceAdd, Nat.reduceSub, Nat.reduceLeDiff, Nat.reduceLT, implies_true, famS]) <;> (repeat' with_reducible apply And.intro) <;> first | (refine zb zd (by decide) ⟨rfl, rfl⟩ ?_; (try simp only [evWB, Nat.reduceBEq, Nat.reduceAdd, Nat.reduceSub, Nat.reduceLeDiff, Nat.reduceLT, implies_true, famS]) <;> (repeat' with_reducible apply And.intro) <;> first | (refine zb zd (by decide) ⟨rfl, rfl⟩ ?_; (try simp only [evWB, Nat.reduceBEq, Nat.reduceAdd, Nat.reduceSub, Nat.reduceLeDiff, Nat.reduceLT, implies_true, famS]) <;> exact fin6; done) | exact fin6; done) | exact fin6) ?_
    rintro _ _ _ ⟨rfl, rfl, rfl⟩
    (repeat first | simp (disch := try exact dis1) only [evD, Nat.reduceBEq, Nat.reduceAdd, Nat.reduceLeDiff, renE, renF, hks, za, zfo, zdP hil] | with_reducible intro _ | ((with_reducible apply And.intro); omega))
    refine zL [(0, 5, 0)] 1 _ (hsa) rfl rfl (by (try simp only [evWB, Nat.reduceBEq, Nat.reduceAdd, Nat.reduceSub, Nat.reduceLeDiff, Nat.reduceLT, implies_true, zp]) <;> exact fin6) (by (try simp only [evWB, Nat.reduceBEq, Nat.reduceAdd, Nat.reduceSub, Nat.reduceLeDiff, Nat.reduceLT, implies_true, zp]) <;> exact fin6) ?_
    rintro _ _ _ ⟨rfl, rfl, rfl⟩
    (repeat first | simp (disch := try exact dis1) only [evD, Nat.reduceBEq, Nat.reduceAdd, Nat.reduceLeDiff, renM, za, hg, hDml] | with_reducible intro _ | ((with_reducible apply And.intro); omega))
    refine hl0 _ ?_ ?_
    · intro K2 H2 nx2 he
      refine ⟨i + 1, by omega, by show bl.length - (i + 1) < bl.length - i; omega, ?_⟩
      have e1 : r0 + (zA bl - zA D) + (bl[i].stmts.length - (ziO exit bl[i].stmts lo).1.length) = r0 + (zA bl - zA (zbf exit bl (i + 1))) := by omega
      have e2 : (decide (zA D < zA bl) || decide ((ziO exit bl[i].stmts lo).1.length < bl[i].stmts.length)) = decide (zA (zbf exit bl (i + 1)) < zA bl) := by
        rw [← Bool.decide_or]
        exact decide_eq_decide.2 (by omega)
      rw [e1, e2] at he
      exact he
    · exact (Ent.tab [(0, 0, 0), (1, 1, 0), (2, 2, 0), (3, 3, 0), (4, 4, 0), (5, 5, 0), (6, 8, 0)] [] rfl (by (try simp only [evWB, Nat.reduceBEq, Nat.reduceAdd, Nat.reduceSub, Nat.reduceLeDiff, Nat.reduceLT, implies_true, za5, famS, List.cons_append, List.nil_append]) <;> (repeat' with_reducible apply And.intro) <;> first | (refine zb zd (by decide) ⟨rfl, rfl⟩ ?_; (try simp only [evWB, Nat.reduceBEq, Nat.reduceAdd, Nat.reduceSub, Nat.reduceLeDiff, Nat.reduceLT, implies_true, za5, famS, List.cons_append, List.nil_append]) <;> (repeat' with_reducible apply And.intro) <;> first | (refine zb zd (by decide) ⟨rfl, rfl⟩ ?_; (try simp only [evWB, Nat.reduceBEq, Nat.reduceAdd, Nat.reduceSub, Nat.reduceLeDiff, Nat.reduceLT, implies_true, za5, famS, List.cons_append, List.nil_append]) <;> exact fin6; done) | exact fin6; done) | exact fin6) (by (try simp only [evWB, Nat.reduceBEq, Nat.reduceAdd, Nat.reduceSub, Nat.reduceLeDiff, Nat.reduceLT, implies_true, za5, famS, List.cons_append, List.nil_append]) <;> (repeat' with_reducible apply And.intro) <;> first | (refine zb zd (by decide) ⟨rfl, rfl⟩ ?_; (try simp only [evWB, Nat.reduceBEq, Nat.reduceAdd, Nat.reduceSub, Nat.reduceLeDiff, Nat.reduceLT, implies_true, za5, famS, List.cons_append, List.nil_append]) <;> (repeat' with_reducible apply And.intro) <;> first | (refine zb zd (by decide) ⟨rfl, rfl⟩ ?_; (try simp only [evWB, Nat.reduceBEq, Nat.reduceAdd, Nat.reduceSub, Nat.reduceLeDiff, Nat.reduceLT, implies_true, za5, famS, List.cons_append, List.nil_append]) <;> exact fin6; done) | exact fin6; done) | exact fin6))
  · obtain rfl : i = bl.length := by omega
    rw [zpJ]
    (repeat first | simp (disch := try exact dis1) only [evD, Nat.reduceBEq, Nat.reduceAdd, Nat.reduceLeDiff, dF] | with_reducible intro _ | ((with_reducible apply And.intro); omega))
    refine hfin _ _ _ ?_
    exact (Ent.tab [(0, 0, 0), (1, 1, 0), (2, 2, 0)] [] rfl (by (try simp only [evWB, Nat.reduceBEq, Nat.reduceAdd, Nat.reduceSub, Nat.reduceLeDiff, Nat.reduceLT, implies_true, za5, famS, za]) <;> (repeat' with_reducible apply And.intro) <;> first | (refine zb zd (by decide) ⟨rfl, rfl⟩ ?_; (try simp only [evWB, Nat.reduceBEq, Nat.reduceAdd, Nat.reduceSub, Nat.reduceLeDiff, Nat.reduceLT, implies_true, za5, famS, za]) <;> (repeat' with_reducible apply And.intro) <;> first | (refine zb zd (by decide) ⟨rfl, rfl⟩ ?_; (try simp only [evWB, Nat.reduceBEq, Nat.reduceAdd, Nat.reduceSub, Nat.reduceLeDiff, Nat.reduceLT, implies_true, za5, famS, za]) <;> exact fin6; done) | exact fin6; done) | exact fin6) (by (try simp only [evWB, Nat.reduceBEq, Nat.reduceAdd, Nat.reduceSub, Nat.reduceLeDiff, Nat.reduceLT, implies_true, za5, famS, za]) <;> (repeat' with_reducible apply And.intro) <;> first | (refine zb zd (by decide) ⟨rfl, rfl⟩ ?_; (try simp only [evWB, Nat.reduceBEq, Nat.reduceAdd, Nat.reduceSub, Nat.reduceLeDiff, Nat.reduceLT, implies_true, za5, famS, za]) <;> (repeat' with_reducible apply And.intro) <;> first | (refine zb zd (by decide) ⟨rfl, rfl⟩ ?_; (try simp only [evWB, Nat.reduceBEq, Nat.reduceAdd, Nat.reduceSub, Nat.reduceLeDiff, Nat.reduceLT, implies_true, za5, famS, za]) <;> exact fin6; done) | exact fin6; done) | exact fin6))
theorem zqT {F n g : Nat} : AObj.refs (.row 1 (mps F n) g) := by
  intro c hc
  obtain ⟨i, _, rfl⟩ := List.mem_map.1 hc
  rfl
theorem zxF (a : MC) : (cm a).all AV.ref0 = true := by
  unfold cm
  split <;> rfl
theorem zoA {n : Nat} {S : Nat → MS} : AObj.refs (famS n S) := by
  intro p hp
  unfold fi at hp
  obtain ⟨i, _, rfl⟩ := List.mem_map.1 hp
  exact zvr zxF
theorem zwF {n : Nat} {S T : Nat → MS} : AH.refs (bdH n S T) := ⟨zqT, zqT, zoA, zoA, trivial⟩
structure RunD (U exit : List Int) (bl0 R x : List Bl) (m : Bool) : Prop where
  good : GoodB U exit x
  len : x.length = bl0.length
  cnt : zA x ≤ zA bl0
  go : zl2 exit x = R
  done : m = false → x = R
theorem RunD.next {U exit : List Int} {bl0 R x : List Bl} (h : RunD U exit bl0 R x true) :
    RunD U exit bl0 R (zb5 exit x) (decide (zA (zb5 exit x) < zA x)) ∧ 2 * zA (zb5 exit x) + (bif decide (zA (zb5 exit x) < zA x) then 1 else 0) < 2 * zA x + (bif true then 1 else 0) := by
  have hc := (zcI (exit := exit) (bl := x)).count
  have hg := h.go
  have hn := h.cnt
  rw [zry] at hg
  refine ⟨⟨h.good.sub zcI, by rw [zho]; exact h.len, by omega, ?_, fun hm => ?_⟩, ?_⟩
  · split at hg
    · rename_i he
      rw [zcI.same he]
      exact h.go
    · exact hg
  · have hm := of_decide_eq_false hm
    rw [if_pos (by omega)] at hg
    rw [zcI.same (by omega)]
    exact hg
  · by_cases hlt : zA (zb5 exit x) < zA x
    · rw [decide_eq_true hlt]
      simp only [cond_true]
      omega
    · rw [decide_eq_false hlt]
      simp only [cond_true, cond_false]
      omega
theorem zxT {Q : QT} (ad : Int) (bl0 R : List Bl) (exit U : List Int)
    (hcnt : zA bl0 ≤ 1000000)
    (hfin : wpX Tryz.prog 0 zbp Q [(4, .ptr 0 0 0 0 0), (8, .ptr 1 0 0 0 0), (9, .int .i64 ((zA bl0 - zA R : Nat) : Int)), (26, .bool false)]
      [(0, .row 2 [[.int .u32 0, .nilsl]] 0), (1, .row 2 [[.int .u32 ad, .own 2 0 0 0 bl0.length]] 0), (2, .row 2 (R.map Bl.cells) 0)] 3)
    {K : Kn} {H : AH} {nx : Nat} (hrun : RunD U exit bl0 R bl0 true) (hent : Ent 0 K H nx [(1, za exit), (4, .ptr 0 0 0 0 0), (8, .ptr 1 0 0 0 0), (9, .int .i64 0), (10, .bool true)]
      [(0, .row 2 [[.int .u32 0, .nilsl]] 0), (1, .row 2 [[.int .u32 ad, .own 2 0 0 0 bl0.length]] 0), (2, .row 2 (bl0.map Bl.cells) 0)] 3) :
    zhF Tryz.prog 0 zcq (za3 0 (seqQ Tryz.prog 0 zbp Q)) K H nx := by
  have hB := hBig
  refine zl (fun a : List Bl × Bool => ([(1, za exit), (4, .ptr 0 0 0 0 0), (8, .ptr 1 0 0 0 0), (9, .int .i64 ((zA bl0 - zA a.1 : Nat) : Int)), (10, .bool a.2)],
      [(0, .row 2 [[.int .u32 0, .nilsl]] 0), (1, .row 2 [[.int .u32 ad, .own 2 0 0 0 bl0.length]] 0), (2, .row 2 (a.1.map Bl.cells) 0)])) 3
    (fun a => RunD U exit bl0 R a.1 a.2) (fun a => 2 * zA a.1 + (bif a.2 then 1 else 0)) (bl0, true) hrun ?_ ?_
  · simp only [Nat.sub_self]
    exact hent
  rintro ⟨x, m⟩ hrn wf
  simp only at hrn
  unfold zcq
  cases m with
  | false =>
    obtain rfl := hrn.done rfl
    (repeat first | simp (disch := try exact dis1) only [evD, Nat.reduceBEq, Nat.reduceAdd, Nat.reduceLeDiff] | with_reducible intro _ | ((with_reducible apply And.intro); omega))
    exact hfin
  | true =>
    obtain ⟨n1, n2⟩ := hrn.next
    have hxl := hrn.len
    have hxc := hrn.cnt
    have hbd := ziE ⟨ad, x⟩ exit U hrn.good.univ
    have hxb := hrn.good.len
    have hml : (x.map Bl.cells).length = x.length := List.length_map _
    (repeat first | simp (disch := try exact dis1) only [evD, Nat.reduceBEq, Nat.reduceAdd, Nat.reduceLeDiff] | with_reducible intro _ | ((with_reducible apply And.intro); omega))
    refine zsu (D := inD [2]) hbd (.cons (.agg _ _ _ rfl (fun j a c h1 h2 => ?_)) (.cons (zJ rfl) .nil)) ?_ ?_
    · match j with
      | 0 => cases h1; cases h2; exact .int _ _ _
      | 1 => cases h1; cases h2; rw [← hxl]; exact zsY rfl rfl (by omega)
      | j + 2 => cases h1
    · rintro _ _ _ ⟨S, T, rfl, rfl, rfl, _⟩
      exact ⟨rfl, zwF⟩
    rintro _ _ _ ⟨S, T, rfl, rfl, rfl, hend⟩
    simp only at hend
    (repeat first | simp (disch := try exact dis1) only [evD, Nat.reduceBEq, Nat.reduceAdd, Nat.reduceLeDiff, bdH, renP, renF] | with_reducible intro _ | ((with_reducible apply And.intro); omega))
    refine zyk ad x exit U hrn.good S T hend (zA bl0 - zA x) (by omega) ?_ ?_
    · intro K2 H2 nx2 he
      refine ⟨(zb5 exit x, _), n1, n2, ?_⟩
      have hc := (zcI (exit := exit) (bl := x)).count
      have e1 : zA bl0 - zA x + (zA x - zA (zb5 exit x)) = zA bl0 - zA (zb5 exit x) := by omega
      rw [e1, hxl] at he
      exact he
    · rw [hxl]
      exact (Ent.tab [(0, 0, 0), (1, 1, 0), (2, 2, 0), (3, 4, 0), (4, 6, 0)] [] rfl (by (try simp only [evWB, Nat.reduceBEq, Nat.reduceAdd, Nat.reduceSub, Nat.reduceLeDiff, Nat.reduceLT, implies_true, za5, famS]) <;> (repeat' with_reducible apply And.intro) <;> first | (refine zb zd (by decide) ⟨rfl, rfl⟩ ?_; (try simp only [evWB, Nat.reduceBEq, Nat.reduceAdd, Nat.reduceSub, Nat.reduceLeDiff, Nat.reduceLT, implies_true, za5, famS]) <;> (repeat' with_reducible apply And.intro) <;> first | (refine zb zd (by decide) ⟨rfl, rfl⟩ ?_; (try simp only [evWB, Nat.reduceBEq, Nat.reduceAdd, Nat.reduceSub, Nat.reduceLeDiff, Nat.reduceLT, implies_true, za5, famS]) <;> exact fin6; done) | exact fin6; done) | exact fin6) (by (try simp only [evWB, Nat.reduceBEq, Nat.reduceAdd, Nat.reduceSub, Nat.reduceLeDiff, Nat.reduceLT, implies_true, za5, famS]) <;> (repeat' with_reducible apply And.intro) <;> first | (refine zb zd (by decide) ⟨rfl, rfl⟩ ?_; (try simp only [evWB, Nat.reduceBEq, Nat.reduceAdd, Nat.reduceSub, Nat.reduceLeDiff, Nat.reduceLT, implies_true, za5, famS]) <;> (repeat' with_reducible apply And.intro) <;> first | (refine zb zd (by decide) ⟨rfl, rfl⟩ ?_; (try simp only [evWB, Nat.reduceBEq, Nat.reduceAdd, Nat.reduceSub, Nat.reduceLeDiff, Nat.reduceLT, implies_true, za5, famS]) <;> exact fin6; done) | exact fin6; done) | exact fin6))
def zw7 (g : G) (exit : List Int) : AV := if zmz g = 0 then .tup [.agg (G.cells ⟨g.addr, zl2 exit g.blocks⟩), .int .i64 ((zA g.blocks - zA (zl2 exit g.blocks) : Nat) : Int), .int .i64 0] else .tup [.agg (G.cells ⟨0, []⟩), .int .i64 0, .int .i64 (zmz g)]
theorem zuR {exit : List Int} {bl : List Bl} : (zl2 exit bl).length = bl.length := (zog _ _).1
theorem zgt (g : G) (exit U : List Int) (hU : GoodB U exit g.blocks) (hf : fewB g) : zC Tryz.prog zcP [.agg g.cells, za exit] (· = zw7 g exit) := by
  refine fn_x zkj rfl ?_
  unfold zgw zw7
  have hB := hBig
  have hcg := zkc g hf (fun b hb s hs => by have := (hU.hsz b hb s hs).2; omega)
  have hcp := zsO g hU.len (fun b hb => Nat.le_trans (zja hb) hU.cnt) (fun b hb s hs => ⟨(hU.hsz b hb s hs).1, by have := (hU.hsz b hb s hs).2; omega⟩)
  have hpl := zuR (exit := exit) (bl := g.blocks)
  have hlen := hU.len
  have hcnt := hU.cnt
  obtain ⟨ad, bl⟩ := g
  simp only [G.cells] at hcg hcp hpl hU hlen hcnt ⊢
  (repeat first | simp (disch := try exact dis1) only [evD, Nat.reduceBEq, Nat.reduceAdd, Nat.reduceLeDiff, fldP, za, zm6, tab, List.getD_cons_zero, List.getD_cons_succ] | with_reducible intro _ | ((with_reducible apply And.intro); omega))
  refine zm (zn hcg rfl) ?_
  by_cases hc : zmz ⟨ad, bl⟩ = 0
  · rw [if_pos hc, hc]
    (repeat first | simp (disch := try exact dis1) only [evD, Nat.reduceBEq, Nat.reduceAdd, Nat.reduceLeDiff, dF, fldP, za, zm6, tab, List.getD_cons_zero, List.getD_cons_succ] | with_reducible intro _ | ((with_reducible apply And.intro); omega))
    refine zL [] 0 _ (hcp) rfl rfl (by (try simp only [evWB, Nat.reduceBEq, Nat.reduceAdd, Nat.reduceSub, Nat.reduceLeDiff, Nat.reduceLT, implies_true]) <;> exact fin6) (by (try simp only [evWB, Nat.reduceBEq, Nat.reduceAdd, Nat.reduceSub, Nat.reduceLeDiff, Nat.reduceLT, implies_true]) <;> exact fin6) ?_
    rintro _ _ _ ⟨rfl, rfl, rfl⟩
    have hrb : ∀ {ρ : Nat → Nat} {l : List Bl} {g : Nat}, AObj.ren ρ (.row 2 (l.map Bl.cells) g) = .row 2 (l.map Bl.cells) g := fun {ρ l g} => by
      simp only [AObj.ren]
      rw [zfU (zg fun s => rfl)]
    (repeat first | simp (disch := try exact dis1) only [evD, Nat.reduceBEq, Nat.reduceAdd, Nat.reduceLeDiff, hrb] | with_reducible intro _ | ((with_reducible apply And.intro); omega))
    refine zxT ad bl (zl2 exit bl) exit U hcnt ?_ ⟨hU, rfl, Nat.le_refl _, rfl, fun h => by cases h⟩ ?_
    · unfold zbp
      (repeat first | simp (disch := try exact dis1) only [evD, Nat.reduceBEq, Nat.reduceAdd, Nat.reduceLeDiff, zdS] | with_reducible intro _ | ((with_reducible apply And.intro); omega))
      refine ⟨.tup [.agg [.int .u32 ad, encL 2 Bl.cells (zl2 exit bl)], .int .i64 ((zA bl - zA (zl2 exit bl) : Nat) : Int), .int .i64 0], .tup _ _ _ rfl (fun j a c h1 h2 => ?_), rfl⟩
      match j with
      | 0 =>
        cases h1; cases h2
        refine .agg _ _ _ rfl (fun j a c h1 h2 => ?_)
        match j with
        | 0 => cases h1; cases h2; exact .int _ _ _
        | 1 => cases h1; cases h2; rw [← hpl]; exact zsY trivial rfl (by omega)
        | j + 2 => cases h1
      | 1 => cases h1; cases h2; exact .int _ _ _
      | 2 => cases h1; cases h2; exact .int _ _ _
      | j + 3 => cases h1
    · exact (Ent.tab [(0, 0, 0), (1, 2, 0), (2, 1, 0)] [] rfl (by (try simp only [evWB, Nat.reduceBEq, Nat.reduceAdd, Nat.reduceSub, Nat.reduceLeDiff, Nat.reduceLT, implies_true, za]) <;> exact fin2) (by (try simp only [evWB, Nat.reduceBEq, Nat.reduceAdd, Nat.reduceSub, Nat.reduceLeDiff, Nat.reduceLT, implies_true, za]) <;> exact fin2))
  · rw [if_neg hc]
    (repeat first | simp (disch := try exact dis1) only [evD, Nat.reduceBEq, Nat.reduceAdd, Nat.reduceLeDiff, fldP, dT, za, zdS] | with_reducible intro _ | ((with_reducible apply And.intro); omega))
    refine ⟨.tup [.agg [.int .u32 0, encL 2 Bl.cells []], .int .i64 0, .int .i64 (zmz ⟨ad, bl⟩)], .tup _ _ _ rfl (fun j a c h1 h2 => ?_), rfl⟩
    match j with
    | 0 =>
      cases h1; cases h2
      refine .agg _ _ _ rfl (fun j a c h1 h2 => ?_)
      match j with
      | 0 => cases h1; cases h2; exact .int _ _ _
      | 1 => cases h1; cases h2; exact .nil0 _ _ _
      | j + 2 => cases h1
    | 1 => cases h1; cases h2; exact .int _ _ _
    | 2 => cases h1; cases h2; exact .int _ _ _
    | j + 3 => cases h1
structure FewD (exit : List Int) (bl : List Bl) : Prop where
  sz : ∀ b ∈ bl, ∀ s ∈ b.stmts, zw s.e ≤ 100000 ∧ s.cases.length ≤ 100000 ∧ (s.op = 1 → s.e.length = 1)
  len : bl.length ≤ 1000000
  cnt : zA bl ≤ 1000
  uni : (univ exit bl).length + exit.length ≤ 400000
structure RunR (exit : List Int) (bl0 R x : List Bl) (k : Nat) : Prop where
  few : FewD exit x
  len : x.length = bl0.length
  cnt : k + zA x ≤ zA bl0
  go : ∀ j, zA x < j → deadR exit j x = R
theorem zm3 : ∀ (k : Nat) (e : Ex) (m n : Int), zbu e ≤ k → -1000 ≤ m → m ≤ 1000 → -1 ≤ n → n ≤ 30000 → zC Tryz.prog zfO [.agg (encX e), .int .i64 m, .int .i64 n] (· = .int .i64 (ze5 e m n)) := by
  intro k
  induction k with
  | zero => intro e m n h; obtain ⟨_, _, _, _, l⟩ := e; rw [zbu] at h; omega
  | succ k ih =>
  intro e m n hk h1 h2 h3 h4
  obtain ⟨op, nn, v, w, l⟩ := e
  refine fn_x znD rfl ?_
  unfold zjS
  have hB := hBig
  rw [zbu] at hk
  have hR := ze7 (.mk op nn v w l) m n h3
  rw [ze5] at hR ⊢
  generalize hE : encX (.mk op nn v w l) = E
  rw [zb9] at hE
  subst hE
  by_cases c1 : m < 1
  · rw [if_pos (.inl c1)]
    (repeat first | simp (disch := try exact dis1) only [evD, Nat.reduceBEq, Nat.reduceAdd, Nat.reduceLeDiff, dT, zcJ] | with_reducible intro _ | ((with_reducible apply And.intro); omega))
    exact ⟨_, .int _ _ _, rfl⟩
  by_cases c2 : n < 1
  · rw [if_pos (.inr (.inl c2))]
    (repeat first | simp (disch := try exact dis1) only [evD, Nat.reduceBEq, Nat.reduceAdd, Nat.reduceLeDiff, dT, dF, zcJ] | with_reducible intro _ | ((with_reducible apply And.intro); omega))
    exact ⟨_, .int _ _ _, rfl⟩
  by_cases c3 : 4 < l.length
  · rw [if_pos (.inr (.inr c3))]
    (repeat first | simp (disch := try exact dis1) only [evD, Nat.reduceBEq, Nat.reduceAdd, Nat.reduceLeDiff, dT, dF, zcJ] | with_reducible intro _ | ((with_reducible apply And.intro); omega))
    exact ⟨_, .int _ _ _, rfl⟩
  rw [if_neg (by omega)] at hR ⊢
  (repeat first | simp (disch := try exact dis1) only [evD, Nat.reduceBEq, Nat.reduceAdd, Nat.reduceLeDiff, dF] | with_reducible intro _ | ((with_reducible apply And.intro); omega))
  generalize hG : zaO l (m - 1) (n - 1) = R at hR ⊢
  refine zl (fun s : Nat × Int => ([(1, .int .i64 m), (3, encP 5 [.int .i64 op, .int .u32 nn, .int .i64 v, .int .i64 w, encL 5 encX l]), (7, .int .i64 s.2), (8, .int .i64 s.1)], [])) 0 (fun s => s.1 ≤ l.length ∧ -1 ≤ s.2 ∧ s.2 ≤ n ∧ zaO (l.drop s.1) (m - 1) s.2 = R) (fun s => l.length - s.1) (0, n - 1) ⟨Nat.zero_le _, by simp only; omega, by simp only; omega, hG⟩ (Ent.keep rfl fin5) ?_
  rintro ⟨i, x⟩ ⟨hi, hx1, hx2, hgo⟩ wf
  simp only at hi hx1 hx2 hgo
  unfold zgL
  by_cases hl : i < l.length
  · by_cases hx : 0 ≤ x
    · rw [zj0 hl hx] at hgo
      have hm := zcQ (List.getElem_mem hl)
      have hr := ze7 l[i] (m - 1) x hx1
      (repeat first | simp (disch := try exact dis1) only [evD, Nat.reduceBEq, Nat.reduceAdd, Nat.reduceLeDiff, fldP, dT, dF, zt hl, zbs, zaS] | with_reducible intro _ | ((with_reducible apply And.intro); omega))
      refine zm (zn (ih l[i] (m - 1) x (by omega) (by omega) (by omega) (by omega) (by omega)) (flX rfl)) ?_
      (repeat first | simp (disch := try exact dis1) only [evD, Nat.reduceBEq, Nat.reduceAdd, Nat.reduceLeDiff] | with_reducible intro _ | ((with_reducible apply And.intro); omega))
      exact ⟨(i + 1, ze5 l[i] (m - 1) x), ⟨by simp only; omega, by simp only; omega, by simp only; omega, hgo⟩, by simp only; omega, Ent.keep rfl fin5⟩
    · rw [zih (by omega)] at hgo
      subst hgo
      (repeat first | simp (disch := try exact dis1) only [evD, Nat.reduceBEq, Nat.reduceAdd, Nat.reduceLeDiff, fldP, dT, dF] | with_reducible intro _ | ((with_reducible apply And.intro); omega))
      unfold zet
      (repeat first | simp (disch := try exact dis1) only [evD, Nat.reduceBEq, Nat.reduceAdd, Nat.reduceLeDiff, zcJ] | with_reducible intro _ | ((with_reducible apply And.intro); omega))
      exact ⟨_, .int _ _ _, rfl⟩
  · rw [List.drop_of_length_le (by omega), zaO] at hgo
    subst hgo
    (repeat first | simp (disch := try exact dis1) only [evD, Nat.reduceBEq, Nat.reduceAdd, Nat.reduceLeDiff, fldP, dT, dF] | with_reducible intro _ | ((with_reducible apply And.intro); omega))
    unfold zet
    (repeat first | simp (disch := try exact dis1) only [evD, Nat.reduceBEq, Nat.reduceAdd, Nat.reduceLeDiff, zcJ] | with_reducible intro _ | ((with_reducible apply And.intro); omega))
    exact ⟨_, .int _ _ _, rfl⟩
def zpz (s : St) (n : Int) : Int := if 4 < s.e.length ∨ 100 < s.cases.length then -1 else zaO s.e 8 n
def zej : List St → Int → Int
  | [], n => n
  | s :: l, n => if n < 0 then n else zej l (zpz s n)
def zpQ (b : Bl) (n : Int) : Int := if 1100 < b.stmts.length then -1 else zej b.stmts n
def zeu : List Bl → Int → Int
  | [], n => n
  | b :: l, n => if n < 0 then n else zeu l (zpQ b n)
def zoh (g : G) : Bool := decide (g.blocks.length ≤ 300) && decide (0 ≤ zeu g.blocks 20000)
def zoJ (g : G) (exit : List Int) : Bool := decide (g.blocks.length ≤ 12) && (decide (exit.length ≤ 20) && (zoh g && g.blocks.all fun b => decide (b.stmts.length ≤ 12)))
theorem zpW {l : List St} {i : Nat} {n : Int} (h : i < l.length) (hn : 0 ≤ n) : zej (l.drop i) n = zej (l.drop (i + 1)) (zpz l[i] n) := by
  rw [List.drop_eq_getElem_cons h, zej, if_neg (by omega)]
theorem zhz {l : List St} {n : Int} (hn : n < 0) : zej l n = n := by
  cases l with
  | nil => rw [zej]
  | cons a l => rw [zej, if_pos hn]
theorem zpX {l : List Bl} {i : Nat} {n : Int} (h : i < l.length) (hn : 0 ≤ n) : zeu (l.drop i) n = zeu (l.drop (i + 1)) (zpQ l[i] n) := by
  rw [List.drop_eq_getElem_cons h, zeu, if_neg (by omega)]
theorem zjj {l : List Bl} {n : Int} (hn : n < 0) : zeu l n = n := by
  cases l with
  | nil => rw [zeu]
  | cons a l => rw [zeu, if_pos hn]
theorem zjf (g : G) : zC Tryz.prog zdQ [.agg g.cells, .int .i64 8] (· = .bool (zoh g)) := by
  refine fn_x zji rfl ?_
  unfold zfA zoh
  have hB := hBig
  obtain ⟨ad, bl⟩ := g
  simp only [G.cells]
  by_cases h300 : 300 < bl.length
  · rw [decide_eq_false (by omega), Bool.false_and]
    (repeat first | simp (disch := try exact dis1) only [evD, Nat.reduceBEq, Nat.reduceAdd, Nat.reduceLeDiff, fldP, dT, zaj] | with_reducible intro _ | ((with_reducible apply And.intro); omega))
    exact ⟨_, .bool _ _, rfl⟩
  rw [decide_eq_true (by omega), Bool.true_and]
  generalize hR : zeu bl 20000 = R
  have fin : R < 0 → decide (0 ≤ R) = false := fun h => decide_eq_false (by omega)
  (repeat first | simp (disch := try exact dis1) only [evD, Nat.reduceBEq, Nat.reduceAdd, Nat.reduceLeDiff, fldP, dF] | with_reducible intro _ | ((with_reducible apply And.intro); omega))
  refine zl (fun a : Nat × Int => ([(1, .int .i64 8), (2, encP 2 [.int .u32 ad, encL 2 Bl.cells bl]), (5, .int .i64 a.2), (6, .int .i64 a.1)], [])) 0 (fun a => a.1 ≤ bl.length ∧ 0 ≤ a.2 ∧ a.2 ≤ 20000 ∧ zeu (bl.drop a.1) a.2 = R) (fun a => bl.length - a.1) (0, 20000) ⟨Nat.zero_le _, by simp only; omega, by simp only; omega, hR⟩ (Ent.keep rfl fin5) ?_
  rintro ⟨i, n⟩ ⟨hi, hn1, hn2, hgo⟩ wf
  simp only at hi hn1 hn2 hgo
  unfold zdW
  by_cases hil : i < bl.length
  case neg =>
    rw [List.drop_of_length_le (by omega), zeu] at hgo
    subst hgo
    rw [decide_eq_true hn1]
    (repeat first | simp (disch := try exact dis1) only [evD, Nat.reduceBEq, Nat.reduceAdd, Nat.reduceLeDiff, fldP, dF] | with_reducible intro _ | ((with_reducible apply And.intro); omega))
    unfold zd0
    (repeat first | simp (disch := try exact dis1) only [evD, Nat.reduceBEq, Nat.reduceAdd, Nat.reduceLeDiff, zaj] | with_reducible intro _ | ((with_reducible apply And.intro); omega))
    exact ⟨_, .bool _ _, rfl⟩
  have hg : (bl.map Bl.cells).getD i [] = [.int .u32 bl[i].addr, encL 8 St.cells bl[i].stmts] := zt hil
  rw [zpX hil hn1] at hgo
  unfold zpQ at hgo
  generalize bl[i].addr = ad2 at hg
  generalize bl[i].stmts = m at hg hgo
  by_cases h11 : 1100 < m.length
  · rw [if_pos h11, zjj (by omega)] at hgo
    rw [fin (by omega)]
    (repeat first | simp (disch := try exact dis1) only [evD, Nat.reduceBEq, Nat.reduceAdd, Nat.reduceLeDiff, fldP, dT, hg, zaj] | with_reducible intro _ | ((with_reducible apply And.intro); omega))
    exact ⟨_, .bool _ _, rfl⟩
  rw [if_neg h11] at hgo
  (repeat first | simp (disch := try exact dis1) only [evD, Nat.reduceBEq, Nat.reduceAdd, Nat.reduceLeDiff, fldP, dT, dF, hg] | with_reducible intro _ | ((with_reducible apply And.intro); omega))
  generalize hM : zej m n = M at hgo
  have hMR : M < 0 → R < 0 := fun h => by rw [zjj h] at hgo; omega
  refine zl (fun a : Nat × Int => ([(1, .int .i64 8), (2, encP 2 [.int .u32 ad, encL 2 Bl.cells bl]), (5, .int .i64 a.2), (6, .int .i64 i), (7, .int .i64 a.1)], [])) 0 (fun a => a.1 ≤ m.length ∧ 0 ≤ a.2 ∧ a.2 ≤ 20000 ∧ zej (m.drop a.1) a.2 = M) (fun a => m.length - a.1) (0, n) ⟨Nat.zero_le _, hn1, hn2, hM⟩ (Ent.keep rfl fin5) ?_
  rintro ⟨k, n2⟩ ⟨hk, hk1, hk2, hgo2⟩ wf2
  simp only at hk hk1 hk2 hgo2
  unfold zd2
  by_cases hkl : k < m.length
  case neg =>
    rw [List.drop_of_length_le (by omega), zej] at hgo2
    subst hgo2
    (repeat first | simp (disch := try exact dis1) only [evD, Nat.reduceBEq, Nat.reduceAdd, Nat.reduceLeDiff, fldP, dF, hg] | with_reducible intro _ | ((with_reducible apply And.intro); omega))
    unfold zd3
    (repeat first | simp (disch := try exact dis1) only [evD, Nat.reduceBEq, Nat.reduceAdd, Nat.reduceLeDiff] | with_reducible intro _ | ((with_reducible apply And.intro); omega))
    exact ⟨(i + 1, n2), ⟨by simp only; omega, hk1, hk2, hgo⟩, by simp only; omega, Ent.keep rfl fin5⟩
  have hgm := zt (f := St.cells) (d := []) hkl
  rw [zpW hkl hk1] at hgo2
  unfold zpz at hgo2
  generalize m[k] = s at hgm hgo2
  obtain ⟨op, var, width, next, els, tgt, e, cs⟩ := s
  simp only at hgo2
  simp only [St.cells] at hgm
  by_cases h4 : 4 < e.length
  · rw [if_pos (.inl h4), zhz (by omega)] at hgo2
    have := hMR (by omega)
    rw [fin this]
    (repeat first | simp (disch := try exact dis1) only [evD, Nat.reduceBEq, Nat.reduceAdd, Nat.reduceLeDiff, fldP, dT, hg, hgm, zaj] | with_reducible intro _ | ((with_reducible apply And.intro); omega))
    exact ⟨_, .bool _ _, rfl⟩
  by_cases h100 : 100 < cs.length
  · rw [if_pos (.inr h100), zhz (by omega)] at hgo2
    have := hMR (by omega)
    rw [fin this]
    (repeat first | simp (disch := try exact dis1) only [evD, Nat.reduceBEq, Nat.reduceAdd, Nat.reduceLeDiff, fldP, dT, dF, hg, hgm, za, zaj] | with_reducible intro _ | ((with_reducible apply And.intro); omega))
    exact ⟨_, .bool _ _, rfl⟩
  rw [if_neg (by omega)] at hgo2
  generalize hE : zaO e 8 n2 = E at hgo2
  have hEM : E < 0 → M < 0 := fun h => by rw [zhz h] at hgo2; omega
  (repeat first | simp (disch := try exact dis1) only [evD, Nat.reduceBEq, Nat.reduceAdd, Nat.reduceLeDiff, fldP, dT, dF, hg, hgm, za] | with_reducible intro _ | ((with_reducible apply And.intro); omega))
  refine zl (fun a : Nat × Int => ([(1, .int .i64 8), (2, encP 2 [.int .u32 ad, encL 2 Bl.cells bl]), (5, .int .i64 a.2), (6, .int .i64 i), (7, .int .i64 k), (8, .ptr 0 0 0 0 0), (9, .int .i64 a.1)], [(0, .row 8 [[.int .i64 op, .int .i64 var, .int .i64 width, .int .i64 next, .int .i64 els, .int .u32 tgt, encL 5 encX e, za cs]] 0)])) 1 (fun a => a.1 ≤ e.length ∧ 0 ≤ a.2 ∧ a.2 ≤ 20000 ∧ zaO (e.drop a.1) 8 a.2 = E) (fun a => e.length - a.1) (0, n2) ⟨Nat.zero_le _, hk1, hk2, hE⟩ (Ent.tab [(0, 0, 0)] [] rfl (by (try simp only [evWB, Nat.reduceBEq, Nat.reduceAdd, Nat.reduceSub, Nat.reduceLeDiff, Nat.reduceLT, implies_true, za]) <;> exact fin2) (by (try simp only [evWB, Nat.reduceBEq, Nat.reduceAdd, Nat.reduceSub, Nat.reduceLeDiff, Nat.reduceLT, implies_true, za]) <;> exact fin2)) ?_
  rintro ⟨j, n3⟩ ⟨hj, hj1, hj2, hgo3⟩ wf3
  simp only at hj hj1 hj2 hgo3
  unfold zdY
  by_cases hjl : j < e.length
  case neg =>
    rw [List.drop_of_length_le (by omega), zaO] at hgo3
    subst hgo3
    (repeat first | simp (disch := try exact dis1) only [evD, Nat.reduceBEq, Nat.reduceAdd, Nat.reduceLeDiff, fldP, dF, hg] | with_reducible intro _ | ((with_reducible apply And.intro); omega))
    unfold zd4
    (repeat first | simp (disch := try exact dis1) only [evD, Nat.reduceBEq, Nat.reduceAdd, Nat.reduceLeDiff] | with_reducible intro _ | ((with_reducible apply And.intro); omega))
    exact ⟨(k + 1, n3), ⟨by simp only; omega, hj1, hj2, hgo2⟩, by simp only; omega, (Ent.tab [] [] rfl (by (try simp only [evWB, Nat.reduceBEq, Nat.reduceAdd, Nat.reduceSub, Nat.reduceLeDiff, Nat.reduceLT, implies_true, za]) <;> exact fin2) (by (try simp only [evWB, Nat.reduceBEq, Nat.reduceAdd, Nat.reduceSub, Nat.reduceLeDiff, Nat.reduceLT, implies_true, za]) <;> exact fin2))⟩
  rw [zj0 hjl hj1] at hgo3
  have hr := ze7 e[j] 8 n3 (by omega)
  (repeat first | simp (disch := try exact dis1) only [evD, Nat.reduceBEq, Nat.reduceAdd, Nat.reduceLeDiff, fldP, dT, dF, zt hjl, zbs, zaS, za] | with_reducible intro _ | ((with_reducible apply And.intro); omega))
  refine zm (zn (zm3 (zbu e[j]) e[j] 8 n3 (Nat.le_refl _) (by omega) (by omega) (by omega) (by omega)) (flX rfl)) ?_
  by_cases hx : ze5 e[j] 8 n3 < 0
  · rw [zih hx] at hgo3
    have := hMR (hEM (by omega))
    rw [fin this]
    (repeat first | simp (disch := try exact dis1) only [evD, Nat.reduceBEq, Nat.reduceAdd, Nat.reduceLeDiff, dT, zaj] | with_reducible intro _ | ((with_reducible apply And.intro); omega))
    exact ⟨_, .bool _ _, rfl⟩
  · (repeat first | simp (disch := try exact dis1) only [evD, Nat.reduceBEq, Nat.reduceAdd, Nat.reduceLeDiff, dF] | with_reducible intro _ | ((with_reducible apply And.intro); omega))
    exact ⟨(j + 1, ze5 e[j] 8 n3), ⟨by simp only; omega, by simp only; omega, by simp only; omega, hgo3⟩, by simp only; omega, (Ent.tab [(0, 0, 0)] [] rfl (by (try simp only [evWB, Nat.reduceBEq, Nat.reduceAdd, Nat.reduceSub, Nat.reduceLeDiff, Nat.reduceLT, implies_true, za]) <;> exact fin2) (by (try simp only [evWB, Nat.reduceBEq, Nat.reduceAdd, Nat.reduceSub, Nat.reduceLeDiff, Nat.reduceLT, implies_true, za]) <;> exact fin2))⟩
theorem zoL (g : G) (exit : List Int) : zC Tryz.prog zii [.agg g.cells, za exit] (· = .bool (zoJ g exit)) := by
  refine fn_x zoz rfl ?_
  unfold zj2 zoJ
  have hB := hBig
  have hsg := zjf g
  generalize zoh g = sg at hsg
  obtain ⟨ad, bl⟩ := g
  simp only [G.cells] at hsg ⊢
  by_cases h12 : 12 < bl.length
  · rw [decide_eq_false (by omega), Bool.false_and]
    (repeat first | simp (disch := try exact dis1) only [evD, Nat.reduceBEq, Nat.reduceAdd, Nat.reduceLeDiff, fldP, dT, za, zcG] | with_reducible intro _ | ((with_reducible apply And.intro); omega))
    exact ⟨_, .bool _ _, rfl⟩
  rw [decide_eq_true (by omega), Bool.true_and]
  by_cases h20 : 20 < exit.length
  · rw [decide_eq_false (by omega), Bool.false_and]
    (repeat first | simp (disch := try exact dis1) only [evD, Nat.reduceBEq, Nat.reduceAdd, Nat.reduceLeDiff, fldP, dT, dF, za, zcG] | with_reducible intro _ | ((with_reducible apply And.intro); omega))
    exact ⟨_, .bool _ _, rfl⟩
  rw [decide_eq_true (by omega), Bool.true_and]
  (repeat first | simp (disch := try exact dis1) only [evD, Nat.reduceBEq, Nat.reduceAdd, Nat.reduceLeDiff, fldP, dT, dF, za, zm6, tab, List.getD_cons_zero, List.getD_cons_succ] | with_reducible intro _ | ((with_reducible apply And.intro); omega))
  refine zm (zn hsg rfl) ?_
  cases sg with
  | false =>
    rw [Bool.false_and]
    (repeat first | simp (disch := try exact dis1) only [evD, Nat.reduceBEq, Nat.reduceAdd, Nat.reduceLeDiff, zcG] | with_reducible intro _ | ((with_reducible apply And.intro); omega))
    exact ⟨_, .bool _ _, rfl⟩
  | true =>
  rw [Bool.true_and]
  generalize hR : (bl.all fun b => decide (b.stmts.length ≤ 12)) = R
  (repeat first | simp (disch := try exact dis1) only [evD, Nat.reduceBEq, Nat.reduceAdd, Nat.reduceLeDiff, fldP] | with_reducible intro _ | ((with_reducible apply And.intro); omega))
  refine zl (fun i : Nat => ([(2, encP 2 [.int .u32 ad, encL 2 Bl.cells bl]), (5, .int .i64 i)], [])) 0 (fun i => i ≤ bl.length ∧ ((bl.drop i).all fun b => decide (b.stmts.length ≤ 12)) = R) (fun i => bl.length - i) 0 ⟨Nat.zero_le _, hR⟩ (Ent.keep rfl fin5) ?_
  rintro i ⟨hi, hgo⟩ wf
  unfold zhd
  by_cases hil : i < bl.length
  · have hg : (bl.map Bl.cells).getD i [] = [.int .u32 bl[i].addr, encL 8 St.cells bl[i].stmts] := zt hil
    rw [List.drop_eq_getElem_cons hil, List.all_cons] at hgo
    by_cases h : 12 < bl[i].stmts.length
    · rw [decide_eq_false (by omega), Bool.false_and] at hgo
      rw [← hgo]
      (repeat first | simp (disch := try exact dis1) only [evD, Nat.reduceBEq, Nat.reduceAdd, Nat.reduceLeDiff, fldP, dT, hg, zcG] | with_reducible intro _ | ((with_reducible apply And.intro); omega))
      exact ⟨_, .bool _ _, rfl⟩
    · rw [decide_eq_true (by omega), Bool.true_and] at hgo
      (repeat first | simp (disch := try exact dis1) only [evD, Nat.reduceBEq, Nat.reduceAdd, Nat.reduceLeDiff, fldP, dT, dF, hg] | with_reducible intro _ | ((with_reducible apply And.intro); omega))
      exact ⟨i + 1, ⟨by omega, hgo⟩, by omega, Ent.keep rfl fin5⟩
  · rw [List.drop_of_length_le (by omega)] at hgo
    rw [← hgo]
    (repeat first | simp (disch := try exact dis1) only [evD, Nat.reduceBEq, Nat.reduceAdd, Nat.reduceLeDiff, fldP, dF] | with_reducible intro _ | ((with_reducible apply And.intro); omega))
    unfold zgI
    (repeat first | simp (disch := try exact dis1) only [evD, Nat.reduceBEq, Nat.reduceAdd, Nat.reduceLeDiff, zcG] | with_reducible intro _ | ((with_reducible apply And.intro); omega))
    exact ⟨_, .bool _ _, rfl⟩
mutual
theorem ztb : ∀ (e : Ex) (m n : Int), 0 ≤ ze5 e m n → (zbu e : Int) + ze5 e m n ≤ n
  | .mk _ _ _ _ l, m, n, h => by
    rw [ze5] at h ⊢
    split
    · rename_i hc
      rw [if_pos hc] at h
      omega
    · rename_i hc
      rw [if_neg hc] at h
      have := zje l (m - 1) (n - 1) (by omega) h
      rw [zbu]
      omega
theorem zje : ∀ (l : List Ex) (m n : Int), 0 ≤ n → 0 ≤ zaO l m n → (zw l : Int) + zaO l m n ≤ n
  | [], m, n, _, h => by rw [zaO] at h ⊢; rw [zw]; omega
  | e :: l, m, n, hn, h => by
    rw [zaO, if_neg (by omega)] at h ⊢
    by_cases h0 : ze5 e m n < 0
    · rw [zih h0] at h
      omega
    · have h1 := ztb e m n (by omega)
      have h2 := zje l m _ (by omega) h
      rw [zw]
      omega
end
theorem zkx : ∀ {l : List St} {n : Int}, 0 ≤ n → 0 ≤ zej l n → (zaJ 0 l : Int) + zej l n ≤ n ∧ ∀ s ∈ l, s.e.length ≤ 4 ∧ s.cases.length ≤ 100
  | [], n, hn, h => by
    rw [zej] at h ⊢
    exact ⟨by show ((0 : Nat) : Int) + n ≤ n; omega, fun s hs => by cases hs⟩
  | s :: l, n, hn, h => by
    rw [zej, if_neg (by omega)] at h ⊢
    by_cases h0 : zpz s n < 0
    · rw [zhz h0] at h
      omega
    · obtain ⟨h2, h3⟩ := zkx (l := l) (n := zpz s n) (by omega) h
      have e : (zaJ 0 (s :: l) : Int) = zw s.e + zaJ 0 l := by
        show ((zw s.e + 0 + zaJ 0 l : Nat) : Int) = _
        omega
      unfold zpz at h0 h2
      split at h0
      · omega
      · rename_i hc
        rw [if_neg hc] at h2
        have h4 := zje s.e 8 n hn (by omega)
        refine ⟨?_, fun t ht => ?_⟩
        · rw [e]
          unfold zpz
          rw [if_neg hc]
          omega
        · rcases List.mem_cons.1 ht with rfl | ht
          · omega
          · exact h3 t ht
def ziK (bl : List Bl) : Nat := (bl.map fun b => zaJ 0 b.stmts).sum
theorem zlu : ∀ {l : List Bl} {n : Int}, 0 ≤ n → 0 ≤ zeu l n → (ziK l : Int) + zeu l n ≤ n ∧ ∀ b ∈ l, ∀ s ∈ b.stmts, s.e.length ≤ 4 ∧ s.cases.length ≤ 100
  | [], n, hn, h => by
    rw [zeu] at h ⊢
    exact ⟨by show ((0 : Nat) : Int) + n ≤ n; omega, fun s hs => by cases hs⟩
  | b :: l, n, hn, h => by
    rw [zeu, if_neg (by omega)] at h ⊢
    by_cases h0 : zpQ b n < 0
    · rw [zjj h0] at h
      omega
    · obtain ⟨h2, h3⟩ := zlu (l := l) (n := zpQ b n) (by omega) h
      have e : (ziK (b :: l) : Int) = zaJ 0 b.stmts + ziK l := by
        unfold ziK
        rw [List.map_cons, List.sum_cons]
        omega
      unfold zpQ at h0 h2
      split at h0
      · omega
      · rename_i hc
        rw [if_neg hc] at h2
        obtain ⟨h4, h5⟩ := zkx (l := b.stmts) hn (by omega)
        refine ⟨?_, fun t ht => ?_⟩
        · rw [e]
          unfold zpQ
          rw [if_neg hc]
          omega
        · rcases List.mem_cons.1 ht with rfl | ht
          · exact h5
          · exact h3 t ht
theorem zkL : ∀ {bl : List Bl} {b : Bl}, b ∈ bl → zaJ 0 b.stmts ≤ ziK bl
  | [], b, h => by cases h
  | x :: l, b, h => by
    have e : ziK (x :: l) = zaJ 0 x.stmts + ziK l := by unfold ziK; rw [List.map_cons, List.sum_cons]
    rcases List.mem_cons.1 h with rfl | h
    · omega
    · have := zkL h; omega
theorem zte {k : Nat} : ∀ {l : List St}, zaJ k l = zaJ 0 l + k * l.length
  | [] => by simp [zaJ]
  | s :: l => by
    have e1 : zaJ k (s :: l) = zw s.e + k + zaJ k l := rfl
    have e2 : zaJ 0 (s :: l) = zw s.e + 0 + zaJ 0 l := rfl
    rw [e1, e2, zte (l := l), List.length_cons, Nat.mul_succ]
    omega
theorem zoD : ∀ {l : List St} {s : St}, s ∈ l → zw s.e ≤ zaJ 0 l
  | [], s, h => by cases h
  | x :: l, s, h => by
    have e : zaJ 0 (x :: l) = zw x.e + 0 + zaJ 0 l := rfl
    rcases List.mem_cons.1 h with rfl | h
    · omega
    · have := zoD h; omega
theorem zoC : ∀ {l : List St}, (l.flatMap zb6).length ≤ zaJ 0 l
  | [] => by simp [zaJ]
  | s :: l => by
    have e : zaJ 0 (s :: l) = zw s.e + 0 + zaJ 0 l := rfl
    have := zoC (l := l)
    have := zi2 s
    rw [List.flatMap_cons, List.length_append]
    omega
theorem zky {exit : List Int} : ∀ {bl : List Bl}, (univ exit bl).length ≤ exit.length + ziK bl
  | [] => by simp [univ, ziK]
  | b :: l => by
    have h := zky (exit := exit) (bl := l)
    have e : ziK (b :: l) = zaJ 0 b.stmts + ziK l := by unfold ziK; rw [List.map_cons, List.sum_cons]
    have := zoC (l := b.stmts)
    unfold univ at h ⊢
    rw [List.length_append] at h ⊢
    rw [List.flatMap_cons, List.length_append]
    omega
theorem zoy {m : Nat} : ∀ {l : List Bl}, (∀ b ∈ l, b.stmts.length ≤ m) → zA l ≤ l.length * m
  | [], _ => by simp [zA]
  | b :: l, h => by
    have h1 := zoy (l := l) fun c hc => h c (List.mem_cons_of_mem _ hc)
    have h2 := h b (by simp)
    simp only [zA, List.map_cons, List.sum_cons, List.length_cons] at h1 ⊢
    rw [Nat.succ_mul]
    omega
structure SmallP (g : G) : Prop where
  blocks : g.blocks.length ≤ 12
  stmts : ∀ b ∈ g.blocks, b.stmts.length ≤ 12
  parts : ∀ b ∈ g.blocks, ∀ s ∈ b.stmts, s.e.length ≤ 4 ∧ s.cases.length ≤ 100
  size : ziK g.blocks ≤ 20000
theorem zkU {g : G} {exit : List Int} (h : zoJ g exit = true) : SmallP g ∧ exit.length ≤ 20 := by
  unfold zoJ zoh at h
  simp only [Bool.and_eq_true, decide_eq_true_eq, List.all_eq_true] at h
  obtain ⟨h1, h2, ⟨_, h3⟩, h4⟩ := h
  obtain ⟨h5, h6⟩ := zlu (n := 20000) (by omega) h3
  exact ⟨⟨h1, h4, h6, by omega⟩, h2⟩
theorem SmallP.few {g : G} (h : SmallP g) : fewB g := ⟨by have := h.blocks; omega, fun b hb => by have := h.stmts b hb; omega⟩
theorem SmallP.cnt {g : G} (h : SmallP g) : zA g.blocks ≤ 144 := by
  have h1 := zoy h.stmts
  have h2 := h.blocks
  have : g.blocks.length * 12 ≤ 12 * 12 := Nat.mul_le_mul_right 12 h2
  omega
theorem SmallP.good {g : G} {exit : List Int} (h : SmallP g) (he : exit.length ≤ 40) : GoodB (univ exit g.blocks) exit g.blocks := by
  have hs := h.size
  have hu := zky (exit := exit) (bl := g.blocks)
  refine ⟨fun x hx => List.mem_append_left _ hx, fun b hb s hs => zoj hb hs, fun b hb s hm => ?_, fun b hb => ?_, by have := h.cnt; omega, by have := h.blocks; omega⟩
  · have h1 := zoD hm
    have h2 := zkL hb
    have h3 := (h.parts b hb s hm).2
    exact ⟨by omega, by omega⟩
  · have h1 := zte (k := exit.length) (l := b.stmts)
    have h2 := zkL hb
    have h3 := h.stmts b hb
    have h4 : exit.length * b.stmts.length ≤ 40 * 12 := Nat.mul_le_mul he h3
    omega
theorem SmallP.fewV {g : G} {exit : List Int} (h : SmallP g) (he : exit.length ≤ 40) : FewV exit g.blocks := by
  have hs := h.size
  have hu := zky (exit := exit) (bl := g.blocks)
  have hg := h.good he
  refine ⟨fun b hb s hm => (hg.hsz b hb s hm).1, hg.len, fun b hb => by have := h.stmts b hb; omega, fun b hb => ?_, by omega⟩
  have := zgC (l := b.stmts) (n := 100000) fun s hm => (hg.hsz b hb s hm).2
  omega
def exV (v : Int) : Ex := .mk 2 0 v 0 []
def exC (n : Int) : Ex := .mk 1 n 0 0 []
def zrE (v : Int) (e : Ex) : St := ⟨1, v, 0, 0, 0, 0, [e], []⟩
def exE1 : G := ⟨0, [⟨0, [zrE 12 (exV 1), zrE 13 (exV 12), zrE 0 (exC 1), ⟨9, 0, 0, 0, 0, 0, [], []⟩]⟩]⟩
def exE1d : G := ⟨0, [⟨0, [zrE 0 (exC 1), ⟨9, 0, 0, 0, 0, 0, [], []⟩]⟩]⟩
def exE2 : G := ⟨0, [⟨0, [zrE 12 (.mk 18 0 0 4 [exV 1]), ⟨10, 0, 0, 0, 0, 0, [], []⟩]⟩]⟩
def exSt : St := zrE 1 (.mk 3 0 0 0 [exV 1, .mk 18 0 0 4 [exV 2]])
theorem zjs : SmallP exE1 := (zkU (exit := [0, 7]) (by decide)).1
theorem zmd : SmallP exE2 := (zkU (exit := []) (by decide)).1
theorem zs4 : zw7 exE1 [0, 7] = .tup [.agg (G.cells exE1d), .int .i64 2, .int .i64 0] := by kernel_rfl
theorem ztn : zw7 exE2 [] = .tup [.agg (G.cells exE2), .int .i64 0, .int .i64 0] := by kernel_rfl
theorem zsZ : AV.tup [zdj (zbA [0, 7] exE1.blocks), zdj (zj9 [0, 7] exE1.blocks)] = .tup [zdj [[1, 7]], zdj [[]]] := by kernel_rfl
theorem ztN : za (zb6 exSt) = za [1, 2] := by kernel_rfl
def zxi : List Memo := [⟨zcP, [.agg exE1.cells, za [0, 7]], .tup [.agg (G.cells exE1d), .int .i64 2, .int .i64 0]⟩, ⟨zcT, [.agg exE1.cells, za [0, 7]], .tup [zdj [[1, 7]], zdj [[]]]⟩,
  ⟨zbM, [.agg exSt.cells], za [1, 2]⟩, ⟨zcP, [.agg exE2.cells, za []], .tup [.agg (G.cells exE2), .int .i64 0, .int .i64 0]⟩]
theorem ztV : ∀ e ∈ zxi, zC Tryz.prog e.f e.args (· = e.res) := by
  have h1 := zgt exE1 [0, 7] _ (zjs.good (by decide)) zjs.few
  have h2 := zgg exE1 [0, 7] _ (zjs.good (exit := [0, 7]) (by decide)).univ
  have h3 := zdR exSt (by decide)
  have h4 := zgt exE2 [] _ (zmd.good (by decide)) zmd.few
  rw [zs4] at h1
  rw [zsZ] at h2
  rw [ztN] at h3
  rw [ztn] at h4
  intro e he
  unfold zxi at he
  simp only [List.mem_cons, List.not_mem_nil, or_false] at he
  rcases he with rfl | rfl | rfl | rfl
  · exact h1
  · exact h2
  · exact h3
  · exact h4
def q25 : FuncId → Nat → List Nat := qTabK [(zbG, ([19, 21, 25, 32, 45, 47, 78, 79, 84, 90, 96, 109, 111, 114], [3583], [])),
  (zbU, ([], [67126323], [])),
  (zbw, ([], [33571891], [])),
  (zbX, ([], [1031], [])),
  (zu9, ([7], [27], [])),
  (zuS, ([], [5], [])),
  (zpP, ([], [5], [])),
  (zve, ([10], [119], [])),
  (zsh, ([7], [27], [])),
  (zqa, ([], [33571891], [])),
  (zkh, ([], [17768111], [])),
  (zeB, ([], [5], [])),
  (zdH, ([], [17596514574653], [])),
  (zdG, ([], [10384593871817177683247510831234831], [])),
  (zk4, ([], [5], [])),
  (zcg, ([], [1073746119], [])),
  (zjq, ([], [16661], []))]
theorem zig : zC Tryz.prog zbG [] (· = .bool true) := zsH (qf := q25) (zld zpx ztV) 3000 (by kernel_rfl)
theorem L25_LivenessLive_ok (g : G) (exit : List Int) : zC Tryz.prog ze4 [.agg g.cells, za exit] (· = .bool true) := by
  refine fn_x zil rfl ?_
  unfold zez
  have hB := hBig
  have hsm := zoL g exit
  have hex := zig
  cases hs : zoJ g exit with
  | false =>
    rw [hs] at hsm
    obtain ⟨ad, bl⟩ := g
    simp only [G.cells] at hsm ⊢
    (repeat first | simp (disch := try exact dis1) only [evD, Nat.reduceBEq, Nat.reduceAdd, Nat.reduceLeDiff, fldP, zm6, tab, List.getD_cons_zero, List.getD_cons_succ] | with_reducible intro _ | ((with_reducible apply And.intro); omega))
    refine zm (zn hsm rfl) ?_
    (repeat first | simp (disch := try exact dis1) only [evD, Nat.reduceBEq, Nat.reduceAdd, Nat.reduceLeDiff] | with_reducible intro _ | ((with_reducible apply And.intro); omega))
    refine zm (zn hex rfl) ?_
    (repeat first | simp (disch := try exact dis1) only [evD, Nat.reduceBEq, Nat.reduceAdd, Nat.reduceLeDiff, zct] | with_reducible intro _ | ((with_reducible apply And.intro); omega))
    exact ⟨_, .bool _ _, rfl⟩
  | true =>
    rw [hs] at hsm
    obtain ⟨hp, hel⟩ := zkU hs
    have hl1 := zgg g exit _ (hp.good (exit := exit) (by omega)).univ
    have hl2 := zqf g exit (hp.fewV (by omega))
    have hgood := hp.good (exit := exit) (by omega)
    have hs1 := zgl (zbA exit g.blocks) (zbA exit g.blocks)
    have hs2 := zgl (zj9 exit g.blocks) (zj9 exit g.blocks)
    rw [decide_eq_true rfl] at hs1 hs2
    obtain ⟨ad, bl⟩ := g
    simp only [G.cells] at hsm hl1 hl2 hgood hs1 hs2 ⊢
    generalize zbA exit bl = li at hl1 hl2 hs1
    generalize zj9 exit bl = lo at hl1 hl2 hs2
    (repeat first | simp (disch := try exact dis1) only [evD, Nat.reduceBEq, Nat.reduceAdd, Nat.reduceLeDiff, fldP, zm6, tab, List.getD_cons_zero, List.getD_cons_succ] | with_reducible intro _ | ((with_reducible apply And.intro); omega))
    refine zm (zn hsm rfl) ?_
    (repeat first | simp (disch := try exact dis1) only [evD, Nat.reduceBEq, Nat.reduceAdd, Nat.reduceLeDiff, fldP, zm6, tab, List.getD_cons_zero, List.getD_cons_succ] | with_reducible intro _ | ((with_reducible apply And.intro); omega))
    refine zm (zn hl1 rfl) ?_
    (repeat first | simp (disch := try exact dis1) only [evD, Nat.reduceBEq, Nat.reduceAdd, Nat.reduceLeDiff, fldP, zm6, tab, List.getD_cons_zero, List.getD_cons_succ] | with_reducible intro _ | ((with_reducible apply And.intro); omega))
    refine zm (zn hl2 rfl) ?_
    (repeat first | simp (disch := try exact dis1) only [evD, Nat.reduceBEq, Nat.reduceAdd, Nat.reduceLeDiff, fldP] | with_reducible intro _ | ((with_reducible apply And.intro); omega))
    refine zm (zn hs1 rfl) ?_
    (repeat first | simp (disch := try exact dis1) only [evD, Nat.reduceBEq, Nat.reduceAdd, Nat.reduceLeDiff, fldP] | with_reducible intro _ | ((with_reducible apply And.intro); omega))
    refine zm (zn hs2 rfl) ?_
    (repeat first | simp (disch := try exact dis1) only [evD, Nat.reduceBEq, Nat.reduceAdd, Nat.reduceLeDiff, fldP] | with_reducible intro _ | ((with_reducible apply And.intro); omega))
    refine zl (fun i : Nat => ([(2, encP 2 [.int .u32 ad, encL 2 Bl.cells bl]), (9, .int .i64 i)], [])) 0 (fun i => i ≤ bl.length) (fun i => bl.length - i) 0 (Nat.zero_le _) (Ent.keep rfl fin5) ?_
    rintro i hi wf
    unfold zc4
    by_cases hil : i < bl.length
    case neg =>
      (repeat first | simp (disch := try exact dis1) only [evD, Nat.reduceBEq, Nat.reduceAdd, Nat.reduceLeDiff, fldP, dF] | with_reducible intro _ | ((with_reducible apply And.intro); omega))
      unfold zc9
      (repeat first | simp (disch := try exact dis1) only [evD, Nat.reduceBEq, Nat.reduceAdd, Nat.reduceLeDiff] | with_reducible intro _ | ((with_reducible apply And.intro); omega))
      refine zm (zn hex rfl) ?_
      (repeat first | simp (disch := try exact dis1) only [evD, Nat.reduceBEq, Nat.reduceAdd, Nat.reduceLeDiff, zct] | with_reducible intro _ | ((with_reducible apply And.intro); omega))
      exact ⟨_, .bool _ _, rfl⟩
    have hm := List.getElem_mem hil
    have hg : (bl.map Bl.cells).getD i [] = [.int .u32 bl[i].addr, encL 8 St.cells bl[i].stmts] := zt hil
    have hsz := hgood.hsz _ hm
    generalize bl[i].addr = ad2 at hg
    generalize bl[i].stmts = m at hg hsz
    (repeat first | simp (disch := try exact dis1) only [evD, Nat.reduceBEq, Nat.reduceAdd, Nat.reduceLeDiff, fldP, dT] | with_reducible intro _ | ((with_reducible apply And.intro); omega))
    refine zl (fun k : Nat => ([(2, encP 2 [.int .u32 ad, encL 2 Bl.cells bl]), (9, .int .i64 i), (10, .int .i64 k)], [])) 0 (fun k => k ≤ m.length) (fun k => m.length - k) 0 (Nat.zero_le _) (Ent.keep rfl fin5) ?_
    rintro k hk wf2
    unfold zc6
    by_cases hkl : k < m.length
    case neg =>
      (repeat first | simp (disch := try exact dis1) only [evD, Nat.reduceBEq, Nat.reduceAdd, Nat.reduceLeDiff, fldP, dF, hg] | with_reducible intro _ | ((with_reducible apply And.intro); omega))
      unfold zc8
      (repeat first | simp (disch := try exact dis1) only [evD, Nat.reduceBEq, Nat.reduceAdd, Nat.reduceLeDiff] | with_reducible intro _ | ((with_reducible apply And.intro); omega))
      exact ⟨i + 1, by omega, by omega, Ent.keep rfl fin5⟩
    have hgm := zt (f := St.cells) (d := []) hkl
    have hu1 := zdR m[k] (hsz _ (List.getElem_mem hkl)).1
    have hu2 := zlM m[k] (hsz _ (List.getElem_mem hkl)).1
    have hu3 := zeF (zb6 m[k]) (zb6 m[k])
    have hd1 := zgn m[k]
    have hd2 := zkt m[k]
    have hd3 := zeF (zfw m[k]) (zfw m[k])
    rw [decide_eq_true rfl] at hu3 hd3
    generalize zb6 m[k] = us at hu1 hu2 hu3
    generalize zfw m[k] = ds at hd1 hd2 hd3
    generalize m[k] = s at hgm hu1 hu2 hd1 hd2
    (repeat first | simp (disch := try exact dis1) only [evD, Nat.reduceBEq, Nat.reduceAdd, Nat.reduceLeDiff, fldP, dT, hg, hgm, St.len, St.eight] | with_reducible intro _ | ((with_reducible apply And.intro); omega))
    refine za0 (zn hu1 rfl) ?_
    (repeat first | simp (disch := try exact dis1) only [evD, Nat.reduceBEq, Nat.reduceAdd, Nat.reduceLeDiff, St.len, St.eight] | with_reducible intro _ | ((with_reducible apply And.intro); omega))
    refine za0 (zn hu2 rfl) ?_
    (repeat first | simp (disch := try exact dis1) only [evD, Nat.reduceBEq, Nat.reduceAdd, Nat.reduceLeDiff, St.len, St.eight] | with_reducible intro _ | ((with_reducible apply And.intro); omega))
    refine za0 (zn hu3 rfl) ?_
    (repeat first | simp (disch := try exact dis1) only [evD, Nat.reduceBEq, Nat.reduceAdd, Nat.reduceLeDiff, St.len, St.eight] | with_reducible intro _ | ((with_reducible apply And.intro); omega))
    refine za0 (zn hd1 rfl) ?_
    (repeat first | simp (disch := try exact dis1) only [evD, Nat.reduceBEq, Nat.reduceAdd, Nat.reduceLeDiff, St.len, St.eight] | with_reducible intro _ | ((with_reducible apply And.intro); omega))
    refine za0 (zn hd2 rfl) ?_
    (repeat first | simp (disch := try exact dis1) only [evD, Nat.reduceBEq, Nat.reduceAdd, Nat.reduceLeDiff, St.len, St.eight] | with_reducible intro _ | ((with_reducible apply And.intro); omega))
    refine za0 (zn hd3 rfl) ?_
    (repeat first | simp (disch := try exact dis1) only [evD, Nat.reduceBEq, Nat.reduceAdd, Nat.reduceLeDiff, St.len, St.eight] | with_reducible intro _ | ((with_reducible apply And.intro); omega))
    exact ⟨k + 1, by omega, by omega, (Ent.tab [] [] rfl (by (try simp only [evWB, Nat.reduceBEq, Nat.reduceAdd, Nat.reduceSub, Nat.reduceLeDiff, Nat.reduceLT, implies_true]) <;> exact fin2) (by (try simp only [evWB, Nat.reduceBEq, Nat.reduceAdd, Nat.reduceSub, Nat.reduceLeDiff, Nat.reduceLT, implies_true]) <;> exact fin2))⟩
end Go.Ab
