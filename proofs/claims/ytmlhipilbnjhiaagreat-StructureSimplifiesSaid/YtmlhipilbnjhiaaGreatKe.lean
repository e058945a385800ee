/-
  Part 5 of the proof: how the calls of this program run, over values instead of memory, and what each function computes.
-/
import Derived.IntWalk
import Derived.ProofKit
import Derived.Test.YtmlhipilbnjhiaaGreatKd
set_option linter.unusedVariables false
set_option linter.unusedSimpArgs false
set_option linter.unnecessarySimpa false
set_option linter.unusedSectionVars false

namespace Go.Ab
open Go.RowKit

/-- How a row is laid. -/
def setObj (u : Option AObj) (H : AH) (r q : Nat) (o : AObj) : AH := match u with
  | some u => H.put r (u.upd q o)
  | none => H.put r o

theorem ev_t {ρ : Nat → AV} {n : Nat} : ev ρ (.t n) = ρ n := rfl
theorem ev_c {ρ : Nat → AV} {v : AV} : ev ρ (.c v) = v := rfl
theorem evs_nil {ρ : Nat → AV} : evs ρ [] = [] := rfl
theorem evs_cons {ρ : Nat → AV} {x : AOpd} {l : List AOpd} : evs ρ (x :: l) = ev ρ x :: evs ρ l := rfl
theorem evParts_nil {ρ : Nat → AV} : evParts ρ [] = [] := rfl
theorem evParts_cons {ρ : Nat → AV} {a b : Nat} {x : AOpd} {l : List (Nat × Nat × AOpd)} : evParts ρ ((a, b, x) :: l) = (a, b, ev ρ x) :: evParts ρ l := rfl
theorem evEls_nil {ρ : Nat → AV} : evEls ρ [] = [] := rfl
theorem evEls_cons {ρ : Nat → AV} {a : Nat} {x : AOpd} {l : List (Nat × AOpd)} : evEls ρ ((a, x) :: l) = (a, ev ρ x) :: evEls ρ l := rfl
theorem evO_none {ρ : Nat → AV} : evO ρ none = none := rfl
theorem evO_some {ρ : Nat → AV} {x : AOpd} : evO ρ (some x) = some (ev ρ x) := rfl
theorem setO_none {K : Kn} {v : AV} : setO K none v = K := rfl
theorem setO_some {K : Kn} {d : Nat} {v : AV} : setO K (some d) v = K.set d v := rfl
theorem kget_nil {i : Nat} : Kn.get [] i = .undef := rfl
theorem kget_cons {j : Nat} {v : AV} {t : Kn} {i : Nat} : Kn.get ((j, v) :: t) i = bif (j == i) then v else Kn.get t i := by rw [← beq_eq]; rfl
theorem kset_nil {i : Nat} {v : AV} : Kn.set [] i v = [(i, v)] := rfl
theorem kset_cons {j : Nat} {u v : AV} {t : Kn} {i : Nat} : Kn.set ((j, u) :: t) i v = bif (j == i) then (i, v) :: t else (j, u) :: Kn.set t i v := by rw [← beq_eq]; rfl
theorem kdrop_nil {l : List Nat} : Kn.drop [] l = [] := rfl
theorem kdrop_cons {j : Nat} {v : AV} {t : Kn} {l : List Nat} : Kn.drop ((j, v) :: t) l = bif memN l j then Kn.drop t l else (j, v) :: Kn.drop t l := rfl
theorem memN_nil {i : Nat} : memN [] i = false := rfl
theorem memN_cons {j : Nat} {t : List Nat} {i : Nat} : memN (j :: t) i = bif (j == i) then true else memN t i := by rw [← beq_eq]; rfl
theorem argsK_nil {i : Nat} : argsK i [] = [] := rfl
theorem argsK_cons {i : Nat} {a : AV} {r : List AV} : argsK i (a :: r) = (i, a) :: argsK (i + 1) r := rfl
theorem retSide_nil {K : Kn} {H : AH} {nx : Nat} : retSide K H nx [] = True := rfl
theorem retSide_tmp {K : Kn} {H : AH} {nx t : Nat} {r : List ARet} : retSide K H nx (.tmp t :: r) = retSide K H nx r := rfl
theorem retSide_cell {K : Kn} {H : AH} {nx t n : Nat} {g : Bool} {r : List ARet} : retSide K H nx (.cell t g n :: r) = ((loadR g n (K.get t) H nx).side ∧ retSide K H nx r) := rfl
theorem retVals_nil {K : Kn} {H : AH} {nx : Nat} : retVals K H nx [] = [] := rfl
theorem retVals_tmp {K : Kn} {H : AH} {nx t : Nat} {r : List ARet} : retVals K H nx (.tmp t :: r) = K.get t :: retVals K H nx r := rfl
theorem retVals_cell {K : Kn} {H : AH} {nx t n : Nat} {g : Bool} {r : List ARet} : retVals K H nx (.cell t g n :: r) = (loadR g n (K.get t) H nx).v :: retVals K H nx r := rfl
theorem retOf_one {v : AV} : retOf [v] = v := rfl
theorem retOf_none : retOf [] = .tup [] := rfl
theorem retOf_two {u v : AV} {l : List AV} : retOf (u :: v :: l) = .tup (u :: v :: l) := rfl
theorem look_nil {r : Nat} : AH.look [] r = none := rfl
theorem look_cons {j : Nat} {o : AObj} {t : AH} {r : Nat} : AH.look ((j, o) :: t) r = bif (j == r) then some o else AH.look t r := by rw [← beq_eq]; rfl
theorem put_nil {r : Nat} {o : AObj} : AH.put [] r o = [(r, o)] := rfl
theorem put_cons {j : Nat} {u o : AObj} {t : AH} {r : Nat} : AH.put ((j, u) :: t) r o = bif (j == r) then (r, o) :: t else (j, u) :: AH.put t r o := by rw [← beq_eq]; rfl
theorem hget_def {H : AH} {r q : Nat} : AH.get H r q = (AH.look H r).bind (·.part q) := rfl
theorem hset_def {H : AH} {r q : Nat} {o : AObj} : AH.set H r q o = setObj (AH.look H r) H r q o := by unfold AH.set setObj; split <;> simp_all
theorem setObj_some {u : AObj} {H : AH} {r q : Nat} {o : AObj} : setObj (some u) H r q o = H.put r (u.upd q o) := rfl
theorem setObj_none {H : AH} {r q : Nat} {o : AObj} : setObj none H r q o = H.put r o := rfl
theorem part_row {sz g : Nat} {els : List (List AV)} : AObj.part (.row sz els g) 0 = some (.row sz els g) := rfl
theorem part_fam {sz i : Nat} {ins : List (List (List AV) × Nat)} : AObj.part (.fam sz ins) (i + 1) = (ins[i]?).map fun p => .row sz p.1 p.2 := rfl
theorem upd_row {sz g : Nat} {els : List (List AV)} {o : AObj} {q : Nat} : AObj.upd (.row sz els g) q o = o := by cases o <;> rfl
theorem upd_fam {sz sz' i g : Nat} {ins : List (List (List AV) × Nat)} {els : List (List AV)} : AObj.upd (.fam sz ins) (i + 1) (.row sz' els g) = .fam sz (ins.set i (els, g)) := rfl
theorem obind_some {o : AObj} {f : AObj → Option AObj} : (some o).bind f = f o := rfl

/-- The steps of 'wpX'. -/
theorem evS :
  (∀ {P : Program} {B : Nat} {Q : QT} {K : Kn} {H : AH} {nx : Nat}, wpX P B .skip Q K H nx = Q .normal K H nx) ∧
  (∀ {P : Program} {B : Nat} {Q : QT} {K : Kn} {H : AH} {nx : Nat} {drop : List Nat} {os : List AOper}, wpX P B (.region os drop) Q K H nx = restX P (.ops os) drop Q K H nx) ∧
  (∀ {P : Program} {B : Nat} {Q : QT} {K : Kn} {H : AH} {nx : Nat} {drop : List Nat} {t : DTree}, wpX P B (.draw t drop) Q K H nx = restX P (.tree t) drop Q K H nx) ∧
  (∀ {P : Program} {B : Nat} {Q : QT} {K : Kn} {H : AH} {nx : Nat} {a b : ACode}, wpX P B (.seq a b) Q K H nx = wpX P B a (seqQ P B b Q) K H nx) ∧
  (∀ {P : Program} {B : Nat} {Q : QT} {K : Kn} {H : AH} {nx : Nat} {c : AOpd} {a b : ACode}, wpX P B (.cond c a b) Q K H nx = condV P B (ev K.get c) a b Q K H nx) ∧
  (∀ {P : Program} {B : Nat} {Q : QT} {K : Kn} {H : AH} {nx : Nat} {id : Nat} {c : ACode}, wpX P B (.block id c) Q K H nx = wpX P B c (blockQ id Q) K H nx) ∧
  (∀ {P : Program} {B : Nat} {Q : QT} {K : Kn} {H : AH} {nx : Nat} {c : ACode}, wpX P B (.loop c) Q K H nx = loopX P B c Q K H nx) ∧
  (∀ {P : Program} {B : Nat} {Q : QT} {K : Kn} {H : AH} {nx : Nat} {id : Nat}, wpX P B (.exit id) Q K H nx = Q (.exit id) K H nx) ∧
  (∀ {P : Program} {B : Nat} {Q : QT} {K : Kn} {H : AH} {nx : Nat}, wpX P B .ret Q K H nx = Q .ret K H nx) ∧
  (∀ {P : Program} {B : Nat} {Q : QT} {K : Kn} {H : AH} {nx : Nat} {n : Nat} {c : ACode}, wpX P B (.mark n c) Q K H nx = markX P B c Q K H nx) ∧
  (∀ {P : Program} {B : Nat} {Q : QT} {K : Kn} {H : AH} {nx : Nat} {c : ACode}, wpX P B (.scope c) Q K H nx = wpX P B c (noGQ Q) K H nx) ∧
  (∀ {P : Program} {B : Nat} {Q : QT} {K : Kn} {H : AH} {nx : Nat} {l : Nat}, wpX P B (.label l) Q K H nx = Q .normal K H nx) ∧
  (∀ {P : Program} {B : Nat} {Q : QT} {K : Kn} {H : AH} {nx : Nat} {l : Nat}, wpX P B (.goto l) Q K H nx = Q (.goto l) K H nx) ∧
  (∀ {P : Program} {B : Nat} {Q : QT} {K : Kn} {H : AH} {nx : Nat} {l : Nat} {a b : ACode}, wpX P B (.jump l a b) Q K H nx = jumpX P B l a b Q K H nx) ∧
  (∀ {P : Program} {B : Nat} {Q : QT} {K : Kn} {H : AH} {nx : Nat} {a b : ACode}, wpX P B (.join a b) Q K H nx = joinX P B a b Q K H nx) ∧
  (∀ {P : Program} {B : Nat} {Q : QT} {K : Kn} {H : AH} {nx : Nat} {b : ACode}, seqQ P B b Q .normal K H nx = wpX P B b Q K H nx) ∧
  (∀ {P : Program} {B : Nat} {Q : QT} {K : Kn} {H : AH} {nx : Nat} {b : ACode}, seqQ P B b Q .ret K H nx = Q .ret K H nx) ∧
  (∀ {P : Program} {B : Nat} {Q : QT} {K : Kn} {H : AH} {nx : Nat} {b : ACode} {l : Nat}, seqQ P B b Q (.goto l) K H nx = Q (.goto l) K H nx) ∧
  (∀ {P : Program} {B : Nat} {Q : QT} {K : Kn} {H : AH} {nx : Nat} {b : ACode} {id : Nat}, seqQ P B b Q (.exit id) K H nx = Q (.exit id) K H nx) ∧
  (∀ {Q : QT} {K : Kn} {H : AH} {nx : Nat} {id : Nat}, blockQ id Q .normal K H nx = Q .normal K H nx) ∧
  (∀ {Q : QT} {K : Kn} {H : AH} {nx : Nat} {id l : Nat}, blockQ id Q (.goto l) K H nx = Q (.goto l) K H nx) ∧
  (∀ {Q : QT} {K : Kn} {H : AH} {nx : Nat}, noGQ Q .normal K H nx = Q .normal K H nx) ∧
  (∀ {Q : QT} {K : Kn} {H : AH} {nx : Nat}, noGQ Q .ret K H nx = Q .ret K H nx) ∧
  (∀ {Q : QT} {K : Kn} {H : AH} {nx : Nat} {id : Nat}, noGQ Q (.exit id) K H nx = Q (.exit id) K H nx) ∧
  (∀ {Q : QT} {K : Kn} {H : AH} {nx : Nat} {id : Nat}, blockQ id Q .ret K H nx = Q .ret K H nx) ∧
  (∀ {Q : QT} {K : Kn} {H : AH} {nx : Nat} {id id' : Nat}, blockQ id Q (.exit id') K H nx = bif Nat.beq id' id then Q .normal K H nx else Q (.exit id') K H nx) ∧
  (∀ {P : Program} {B : Nat} {Q : QT} {K : Kn} {H : AH} {nx : Nat} {t : Bool} {a b : ACode}, condV P B (.bool t) a b Q K H nx = condX P B t a b Q K H nx) ∧
  (∀ {P : Program} {B : Nat} {Q : QT} {K : Kn} {H : AH} {nx : Nat} {a b : ACode}, condX P B true a b Q K H nx = wpX P B a Q K H nx) ∧
  (∀ {P : Program} {B : Nat} {Q : QT} {K : Kn} {H : AH} {nx : Nat} {a b : ACode}, condX P B false a b Q K H nx = wpX P B b Q K H nx) ∧
  (∀ {K : Kn} {H : AH} {nx : Nat} {rs : List ARet} {Post : AV → AH → Nat → Prop}, retK rs Post .ret K H nx = (retSide K H nx rs ∧ Post (retOf (retVals K H nx rs)) H nx)) ∧
  (∀ {K : Kn} {H : AH} {nx : Nat} {rs : List ARet} {Post : AV → AH → Nat → Prop}, retK rs Post .normal K H nx = (retSide K H nx rs ∧ Post (retOf (retVals K H nx rs)) H nx)) ∧
  (∀ {P : Program} {Q : QT} {K : Kn} {H : AH} {nx : Nat} {drop : List Nat}, restX P (.ops []) drop Q K H nx = Q .normal (K.drop drop) H nx) ∧
  (∀ {P : Program} {Q : QT} {K : Kn} {H : AH} {nx : Nat} {drop : List Nat} {os : List AOper} {d : Option Nat} {op : AOp}, restX P (.ops (⟨d, op, none⟩ :: os)) drop Q K H nx = opX P op d (.ops os) drop Q K H nx) ∧
  (∀ {P : Program} {Q : QT} {K : Kn} {H : AH} {nx : Nat} {drop : List Nat} {os : List AOper} {d : Option Nat} {op : AOp} {t : Nat} {want : Bool}, restX P (.ops (⟨d, op, some (t, want)⟩ :: os)) drop Q K H nx = guardV P (K.get t) want op d (.ops os) drop Q K H nx) ∧
  (∀ {P : Program} {Q : QT} {K : Kn} {H : AH} {nx : Nat} {drop : List Nat}, restX P (.tree .done) drop Q K H nx = Q .normal (K.drop drop) H nx) ∧
  (∀ {P : Program} {Q : QT} {K : Kn} {H : AH} {nx : Nat} {drop : List Nat}, restX P (.tree .stop) drop Q K H nx = True) ∧
  (∀ {P : Program} {Q : QT} {K : Kn} {H : AH} {nx : Nat} {drop : List Nat} {d : Option Nat} {op : AOp} {t : DTree}, restX P (.tree (.step ⟨d, op, none⟩ t)) drop Q K H nx = opX P op d (.tree t) drop Q K H nx) ∧
  (∀ {P : Program} {Q : QT} {K : Kn} {H : AH} {nx : Nat} {drop : List Nat} {d : Option Nat} {op : AOp} {t : DTree} {g : Nat} {want : Bool}, restX P (.tree (.step ⟨d, op, some (g, want)⟩ t)) drop Q K H nx = guardV P (K.get g) want op d (.tree t) drop Q K H nx) ∧
  (∀ {P : Program} {Q : QT} {K : Kn} {H : AH} {nx : Nat} {drop : List Nat} {d : Option Nat} {op : AOp} {t u : DTree}, restX P (.tree (.alt ⟨d, op, none⟩ t u)) drop Q K H nx = (opX P op d (.tree t) drop Q K H nx ∧ restX P (.tree u) drop Q K H nx)) ∧
  (∀ {P : Program} {Q : QT} {K : Kn} {H : AH} {nx : Nat} {drop : List Nat} {d : Option Nat} {op : AOp} {t u : DTree} {g : Nat} {want : Bool}, restX P (.tree (.alt ⟨d, op, some (g, want)⟩ t u)) drop Q K H nx = (guardV P (K.get g) want op d (.tree t) drop Q K H nx ∧ restX P (.tree u) drop Q K H nx)) ∧
  (∀ {P : Program} {Q : QT} {K : Kn} {H : AH} {nx : Nat} {drop : List Nat} {d : Option Nat} {r : Rest} {op : AOp} {b : Bool}, guardV P (.bool b) true op d r drop Q K H nx = guardX P b op d r drop Q K H nx) ∧
  (∀ {P : Program} {Q : QT} {K : Kn} {H : AH} {nx : Nat} {drop : List Nat} {d : Option Nat} {r : Rest} {op : AOp} {b : Bool}, guardV P (.bool b) false op d r drop Q K H nx = guardX P (!b) op d r drop Q K H nx) ∧
  (∀ {P : Program} {Q : QT} {K : Kn} {H : AH} {nx : Nat} {drop : List Nat} {d : Option Nat} {r : Rest} {op : AOp} {want : Bool}, guardV P (.tup []) want op d r drop Q K H nx = restX P r drop Q (setO K d (.tup [])) H nx) ∧
  (∀ {P : Program} {Q : QT} {K : Kn} {H : AH} {nx : Nat} {drop : List Nat} {d : Option Nat} {r : Rest} {op : AOp}, guardX P true op d r drop Q K H nx = opX P op d r drop Q K H nx) ∧
  (∀ {P : Program} {Q : QT} {K : Kn} {H : AH} {nx : Nat} {drop : List Nat} {d : Option Nat} {r : Rest} {op : AOp}, guardX P false op d r drop Q K H nx = restX P r drop Q (setO K d (.tup [])) H nx) ∧
  (∀ {P : Program} {Q : QT} {K : Kn} {drop : List Nat} {os : List AOper} {d : Option Nat} {s f : Prop} {v : AV} {H' : AH} {nx' : Nat}, resX P ⟨s, f, v, H', nx'⟩ d (.ops os) drop Q K = (s ∧ (f → restX P (.ops os) drop Q (setO K d v) H' nx'))) ∧
  (∀ {P : Program} {Q : QT} {K : Kn} {drop : List Nat} {d : Option Nat} {s f : Prop} {v : AV} {H' : AH} {nx' : Nat} {t : DTree}, resX P ⟨s, f, v, H', nx'⟩ d (.tree t) drop Q K = (s ∧ restX P (.tree t) drop Q (setO K d v) H' nx')) ∧
  (∀ {P : Program} {Q : QT} {K : Kn} {H : AH} {nx : Nat} {drop : List Nat} {d : Option Nat} {r : Rest} {x : AOpd}, opX P (.mov x) d r drop Q K H nx = restX P r drop Q (setO K d (ev K.get x)) H nx) ∧
  (∀ {P : Program} {Q : QT} {K : Kn} {H : AH} {nx : Nat} {drop : List Nat} {d : Option Nat} {r : Rest} {s : Nat}, opX P (.mknil s) d r drop Q K H nx = restX P r drop Q (setO K d (.own nx 0 0 0 0)) (H.set nx 0 (.row s [] 0)) (nx + 1)) ∧
  (∀ {P : Program} {Q : QT} {K : Kn} {H : AH} {nx : Nat} {drop : List Nat} {d : Option Nat} {r : Rest} {c x y : AOpd}, opX P (.pick c x y) d r drop Q K H nx = resX P (pickR (ev K.get c) (ev K.get x) (ev K.get y) H nx) d r drop Q K) ∧
  (∀ {P : Program} {Q : QT} {K : Kn} {H : AH} {nx : Nat} {drop : List Nat} {d : Option Nat} {r : Rest} {g : Bool} {n : Nat} {p : AOpd}, opX P (.load g n p) d r drop Q K H nx = resX P (loadR g n (ev K.get p) H nx) d r drop Q K) ∧
  (∀ {P : Program} {Q : QT} {K : Kn} {H : AH} {nx : Nat} {drop : List Nat} {d : Option Nat} {r : Rest} {n : Nat} {p v : AOpd}, opX P (.store n p v) d r drop Q K H nx = resX P (storeR n (ev K.get p) (ev K.get v) H nx) d r drop Q K) ∧
  (∀ {P : Program} {Q : QT} {K : Kn} {H : AH} {nx : Nat} {drop : List Nat} {d : Option Nat} {r : Rest} {s : Nat} {x i : AOpd}, opX P (.idx s x i) d r drop Q K H nx = resX P (idxR s (ev K.get x) (ev K.get i) H nx) d r drop Q K) ∧
  (∀ {P : Program} {Q : QT} {K : Kn} {H : AH} {nx : Nat} {drop : List Nat} {d : Option Nat} {r : Rest} {o n : Nat} {x : AOpd}, opX P (.fldaddr o n x) d r drop Q K H nx = resX P (fldaddrR o n (ev K.get x) H nx) d r drop Q K) ∧
  (∀ {P : Program} {Q : QT} {K : Kn} {H : AH} {nx : Nat} {drop : List Nat} {d : Option Nat} {r : Rest} {o n : Nat} {g : Bool} {x : AOpd}, opX P (.fld o n g x) d r drop Q K H nx = resX P (fldR o n g (ev K.get x) H nx) d r drop Q K) ∧
  (∀ {P : Program} {Q : QT} {K : Kn} {H : AH} {nx : Nat} {drop : List Nat} {d : Option Nat} {r : Rest} {x : AOpd}, opX P (.len x) d r drop Q K H nx = resX P (lenR (ev K.get x) H nx) d r drop Q K) ∧
  (∀ {P : Program} {Q : QT} {K : Kn} {H : AH} {nx : Nat} {drop : List Nat} {d : Option Nat} {r : Rest} {x : AOpd}, opX P (.slen x) d r drop Q K H nx = resX P (slenR (ev K.get x) H nx) d r drop Q K) ∧
  (∀ {P : Program} {Q : QT} {K : Kn} {H : AH} {nx : Nat} {drop : List Nat} {d : Option Nat} {r : Rest} {o : BinOp} {x y : AOpd}, opX P (.bin o x y) d r drop Q K H nx = resX P (binI o (ev K.get x) (ev K.get y) H nx) d r drop Q K) ∧
  (∀ {P : Program} {Q : QT} {K : Kn} {H : AH} {nx : Nat} {drop : List Nat} {d : Option Nat} {r : Rest} {n : Bool} {x y : AOpd}, opX P (.eqb n x y) d r drop Q K H nx = resX P (eqB n (ev K.get x) (ev K.get y) H nx) d r drop Q K) ∧
  (∀ {P : Program} {Q : QT} {K : Kn} {H : AH} {nx : Nat} {drop : List Nat} {d : Option Nat} {r : Rest} {o : UnOp} {x : AOpd}, opX P (.un o x) d r drop Q K H nx = resX P (unR o (ev K.get x) H nx) d r drop Q K) ∧
  (∀ {P : Program} {Q : QT} {K : Kn} {H : AH} {nx : Nat} {drop : List Nat} {d : Option Nat} {r : Rest} {k : IntKind} {x : AOpd}, opX P (.conv k x) d r drop Q K H nx = resX P (convI k (ev K.get x) H nx) d r drop Q K) ∧
  (∀ {P : Program} {Q : QT} {K : Kn} {H : AH} {nx : Nat} {drop : List Nat} {d : Option Nat} {r : Rest} {z : List AV} {ps : List (Nat × Nat × AOpd)}, opX P (.build z ps) d r drop Q K H nx = resX P (buildR z (evParts K.get ps) H nx) d r drop Q K) ∧
  (∀ {P : Program} {Q : QT} {K : Kn} {H : AH} {nx : Nat} {drop : List Nat} {d : Option Nat} {r : Rest} {s l : Nat} {z : List AV} {ps : List (Nat × AOpd)}, opX P (.buildSl s l z ps) d r drop Q K H nx = resX P (buildSlR s l z (evEls K.get ps) H nx) d r drop Q K) ∧
  (∀ {P : Program} {Q : QT} {K : Kn} {H : AH} {nx : Nat} {drop : List Nat} {d : Option Nat} {r : Rest} {x : AOpd}, opX P (.box x) d r drop Q K H nx = resX P (boxR (ev K.get x) H nx) d r drop Q K) ∧
  (∀ {P : Program} {Q : QT} {K : Kn} {H : AH} {nx : Nat} {drop : List Nat} {d : Option Nat} {r : Rest} {x : AOpd}, opX P (.rbox x) d r drop Q K H nx = resX P (rboxR (ev K.get x) H nx) d r drop Q K) ∧
  (∀ {P : Program} {Q : QT} {K : Kn} {H : AH} {nx : Nat} {drop : List Nat} {d : Option Nat} {r : Rest} {s l : Nat} {z : List AV} {ps : List (Nat × AOpd)}, opX P (.rbuildSl s l z ps) d r drop Q K H nx = resX P (rbuildSlR s l z (evEls K.get ps) H nx) d r drop Q K) ∧
  (∀ {P : Program} {Q : QT} {K : Kn} {H : AH} {nx : Nat} {drop : List Nat} {d : Option Nat} {r : Rest} {x : AOpd}, opX P (.mnext x) d r drop Q K H nx = nextX P (ev K.get x) d r drop Q K H nx) ∧
  (∀ {P : Program} {Q : QT} {K : Kn} {H : AH} {nx : Nat} {drop : List Nat} {d : Option Nat} {r : Rest} {z : List AV}, opX P (.alloc z) d r drop Q K H nx = resX P (allocR z H nx) d r drop Q K) ∧
  (∀ {P : Program} {Q : QT} {K : Kn} {H : AH} {nx : Nat} {drop : List Nat} {d : Option Nat} {r : Rest} {s b : Nat} {z : List AV} {l c : AOpd}, opX P (.mksl s b z l c) d r drop Q K H nx = resX P (mkslR s b z (ev K.get l) (ev K.get c) H nx) d r drop Q K) ∧
  (∀ {P : Program} {Q : QT} {K : Kn} {H : AH} {nx : Nat} {drop : List Nat} {d : Option Nat} {r : Rest} {s : Nat} {x : AOpd} {l h : Option AOpd}, opX P (.slice s x l h) d r drop Q K H nx = resX P (sliceR s (ev K.get x) (evO K.get l) (evO K.get h) H nx) d r drop Q K) ∧
  (∀ {P : Program} {Q : QT} {K : Kn} {H : AH} {nx : Nat} {drop : List Nat} {d : Option Nat} {r : Rest} {x : AOpd}, opX P (.cut x) d r drop Q K H nx = resX P (cutR (ev K.get x) H nx) d r drop Q K) ∧
  (∀ {P : Program} {Q : QT} {K : Kn} {H : AH} {nx : Nat} {drop : List Nat} {d : Option Nat} {r : Rest} {f : Fn} {cs : List AOpd}, opX P (.mkfn f cs) d r drop Q K H nx = restX P r drop Q (setO K d (.fn f (evs K.get cs))) H nx) ∧
  (∀ {P : Program} {Q : QT} {K : Kn} {H : AH} {nx : Nat} {drop : List Nat} {d : Option Nat} {r : Rest} {s b : Nat} {x y : AOpd}, opX P (.append s b x y) d r drop Q K H nx = resX P (appendR s b (ev K.get x) (ev K.get y) H nx) d r drop Q K) ∧
  (∀ {P : Program} {Q : QT} {K : Kn} {H : AH} {nx : Nat} {drop : List Nat} {d : Option Nat} {r : Rest} {s : Nat} {z : List AV} {x : AOpd}, opX P (.clear s z x) d r drop Q K H nx = resX P (clearR s z (ev K.get x) H nx) d r drop Q K) ∧
  (∀ {P : Program} {Q : QT} {K : Kn} {H : AH} {nx : Nat} {drop : List Nat} {d : Option Nat} {r : Rest} {i : Nat} {x : AOpd}, opX P (.ext i x) d r drop Q K H nx = resX P (extR i (ev K.get x) H nx) d r drop Q K) ∧
  (∀ {P : Program} {Q : QT} {K : Kn} {H : AH} {nx : Nat} {drop : List Nat} {d : Option Nat} {r : Rest} {n p : Bool} {x : AOpd}, opX P (.isnil n p x) d r drop Q K H nx = nilX P (nilB p (ev K.get x)) n d r drop Q K H nx) ∧
  (∀ {P : Program} {Q : QT} {K : Kn} {H : AH} {nx : Nat} {drop : List Nat} {d : Option Nat} {r : Rest} {f : FuncId} {xs : List AOpd}, opX P (.call f xs) d r drop Q K H nx = callX P f (evs K.get xs) H nx (callK P d r drop Q K)) ∧
  (∀ {P : Program} {Q : QT} {K : Kn} {H : AH} {nx : Nat} {drop : List Nat} {d : Option Nat} {r : Rest} {f : FuncId} {xs : List AOpd}, opX P (.callq f xs) d r drop Q K H nx = callqX P f (evs K.get xs) d r drop Q K H nx) ∧
  (∀ {P : Program} {Q : QT} {K : Kn} {H : AH} {nx : Nat} {drop : List Nat} {d : Option Nat} {r : Rest} {x : XOp} {xs : List AOpd}, opX P (.xop x xs) d r drop Q K H nx = resX P (xopR x (evs K.get xs) H nx) d r drop Q K) ∧
  (∀ {P : Program} {Q : QT} {K : Kn} {H : AH} {nx : Nat} {drop : List Nat} {d : Option Nat} {r : Rest} {x : AOpd} {xs : List AOpd}, opX P (.callv x xs) d r drop Q K H nx = callvX P (ev K.get x) (evs K.get xs) H nx (callK P d r drop Q K)) ∧
  (∀ {P : Program} {H : AH} {nx : Nat} {f : FuncId} {caps args : List AV} {k : AV → AH → Nat → Prop}, callvX P (.fn (.func f) caps) args H nx k = (fnGood P f = true ∧ callX P f (args ++ caps) H nx k)) ∧
  (∀ {P : Program} {Q : QT} {K : Kn} {H : AH} {nx : Nat} {drop : List Nat} {d : Option Nat} {r : Rest} {b n : Bool}, nilX P (some (some b)) n d r drop Q K H nx = restX P r drop Q (setO K d (.bool (b != n))) H nx) ∧
  (∀ {P : Program} {Q : QT} {K : Kn} {H : AH} {nx : Nat} {drop : List Nat} {d : Option Nat} {r : Rest} {n : Bool}, nilX P (some none) n d r drop Q K H nx = ∀ b, restX P r drop Q (setO K d (.bool b)) H nx) ∧
  (∀ {P : Program} {Q : QT} {K : Kn} {drop : List Nat} {os : List AOper} {d : Option Nat} {v : AV} {H' : AH} {nx' : Nat}, callK P d (.ops os) drop Q K v H' nx' = (v.wf → restX P (.ops os) drop Q (setO K d v) H' nx')) ∧
  (∀ {P : Program} {Q : QT} {K : Kn} {drop : List Nat} {d : Option Nat} {v : AV} {H' : AH} {nx' : Nat} {t : DTree}, callK P d (.tree t) drop Q K v H' nx' = restX P (.tree t) drop Q (setO K d v) H' nx') ∧
  (∀ {B : Nat} {Q : QT} {K : Kn} {H : AH} {nx : Nat} {α : Type} {S : α → Kn × AH} {N : Nat} {inv : α → Prop} {μ : α → Nat} {a : α}, loopQ B S N inv μ a Q .normal K H nx = ∃ a', inv a' ∧ μ a' < μ a ∧ Ent B K H nx (S a').1 (S a').2 N) ∧
  (∀ {B : Nat} {Q : QT} {K : Kn} {H : AH} {nx : Nat} {α : Type} {S : α → Kn × AH} {N : Nat} {inv : α → Prop} {μ : α → Nat} {a : α} {l : Nat}, loopQ B S N inv μ a Q (.goto l) K H nx = Q (.goto l) K H nx) ∧
  (∀ {B : Nat} {Q : QT} {K : Kn} {H : AH} {nx : Nat} {α : Type} {S : α → Kn × AH} {N : Nat} {inv : α → Prop} {μ : α → Nat} {a : α}, loopQ B S N inv μ a Q .ret K H nx = Q .ret K H nx) ∧
  (∀ {B : Nat} {Q : QT} {K : Kn} {H : AH} {nx : Nat} {α : Type} {S : α → Kn × AH} {N : Nat} {inv : α → Prop} {μ : α → Nat} {a : α} {id : Nat}, loopQ B S N inv μ a Q (.exit id) K H nx = Q (.exit id) K H nx) ∧
  (∀ {B : Nat} {Q : QT} {K : Kn} {H : AH} {nx : Nat} {α : Type} {S : α → Kn × AH} {N : Nat} {inv : α → Prop}, joinQ B S N inv Q .normal K H nx = ∃ a', inv a' ∧ Ent B K H nx (S a').1 (S a').2 N) ∧
  (∀ {B : Nat} {Q : QT} {K : Kn} {H : AH} {nx : Nat} {α : Type} {S : α → Kn × AH} {N : Nat} {inv : α → Prop} {l : Nat}, joinQ B S N inv Q (.goto l) K H nx = Q (.goto l) K H nx) ∧
  (∀ {B : Nat} {Q : QT} {K : Kn} {H : AH} {nx : Nat} {α : Type} {S : α → Kn × AH} {N : Nat} {inv : α → Prop}, joinQ B S N inv Q .ret K H nx = Q .ret K H nx) ∧
  (∀ {B : Nat} {Q : QT} {K : Kn} {H : AH} {nx : Nat} {α : Type} {S : α → Kn × AH} {N : Nat} {inv : α → Prop} {id : Nat}, joinQ B S N inv Q (.exit id) K H nx = Q (.exit id) K H nx) ∧
  (∀ {B : Nat} {Q : QT} {K : Kn} {H : AH} {nx : Nat} {l l' : Nat} {α : Type} {S : α → Kn × AH} {N : Nat} {inv : α → Prop}, jumpQ B l S N inv Q (.goto l') K H nx = (l' = l ∧ ∃ a', inv a' ∧ Ent B K H nx (S a').1 (S a').2 N)) ∧
  (∀ {B : Nat} {Q : QT} {K : Kn} {H : AH} {nx : Nat} {l : Nat} {α : Type} {S : α → Kn × AH} {N : Nat} {inv : α → Prop}, jumpQ B l S N inv Q .normal K H nx = Q .normal K H nx) ∧
  (∀ {B : Nat} {Q : QT} {K : Kn} {H : AH} {nx : Nat} {l : Nat} {α : Type} {S : α → Kn × AH} {N : Nat} {inv : α → Prop}, jumpQ B l S N inv Q .ret K H nx = Q .ret K H nx) ∧
  (∀ {B : Nat} {Q : QT} {K : Kn} {H : AH} {nx : Nat} {l id : Nat} {α : Type} {S : α → Kn × AH} {N : Nat} {inv : α → Prop}, jumpQ B l S N inv Q (.exit id) K H nx = Q (.exit id) K H nx) ∧
  (∀ {B : Nat} {Q : QT} {K : Kn} {H : AH} {nx : Nat} {l l' : Nat} {α : Type} {S : α → Kn × AH} {N : Nat} {inv : α → Prop} {μ : α → Nat} {a : α}, jumpR B l S N inv μ a Q (.goto l') K H nx = (l' = l ∧ ∃ a', inv a' ∧ μ a' < μ a ∧ Ent B K H nx (S a').1 (S a').2 N)) ∧
  (∀ {B : Nat} {Q : QT} {K : Kn} {H : AH} {nx : Nat} {l : Nat} {α : Type} {S : α → Kn × AH} {N : Nat} {inv : α → Prop} {μ : α → Nat} {a : α}, jumpR B l S N inv μ a Q .normal K H nx = Q .normal K H nx) ∧
  (∀ {B : Nat} {Q : QT} {K : Kn} {H : AH} {nx : Nat} {l : Nat} {α : Type} {S : α → Kn × AH} {N : Nat} {inv : α → Prop} {μ : α → Nat} {a : α}, jumpR B l S N inv μ a Q .ret K H nx = Q .ret K H nx) ∧
  (∀ {B : Nat} {Q : QT} {K : Kn} {H : AH} {nx : Nat} {l id : Nat} {α : Type} {S : α → Kn × AH} {N : Nat} {inv : α → Prop} {μ : α → Nat} {a : α}, jumpR B l S N inv μ a Q (.exit id) K H nx = Q (.exit id) K H nx) :=
  ⟨@wpX_skip, @wpX_region, @wpX_draw, @wpX_seq, @wpX_cond, @wpX_block, @wpX_loop, @wpX_exit, @wpX_ret, @wpX_mark, @wpX_scope, @wpX_label, @wpX_goto, @wpX_jump, @wpX_join, @seqQ_normal, @seqQ_ret, @seqQ_goto, @seqQ_exit, @blockQ_normal, @blockQ_goto, @noGQ_normal, @noGQ_ret, @noGQ_exit, @blockQ_ret, @blockQ_exit, @condV_bool, @condX_true, @condX_false, @retK_ret, @retK_normal, @restX_nil, @restX_cons, @restX_guard, @restX_done, @restX_stop, @restX_step, @restX_stepg, @restX_alt, @restX_altg, @guardV_yes, @guardV_no, @guardV_skip, @guardX_true, @guardX_false, @resX_ops, @resX_tree, @opX_mov, @opX_mknil, @opX_pick, @opX_load, @opX_store, @opX_idx, @opX_fldaddr, @opX_fld, @opX_len, @opX_slen, @opX_bin, @opX_eqb, @opX_un, @opX_conv, @opX_build, @opX_buildSl, @opX_box, @opX_rbox, @opX_rbuildSl, @opX_mnext, @opX_alloc, @opX_mksl, @opX_slice, @opX_cut, @opX_mkfn, @opX_append, @opX_clear, @opX_ext, @opX_isnil, @opX_call, @opX_callq, @opX_xop, @opX_callv, @callvX_fn, @nilX_is, @nilX_any, @callK_ops, @callK_tree, @loopQ_normal, @loopQ_goto, @loopQ_ret, @loopQ_exit, @joinQ_normal, @joinQ_goto, @joinQ_ret, @joinQ_exit, @jumpQ_goto, @jumpQ_normal, @jumpQ_ret, @jumpQ_exit, @jumpR_goto, @jumpR_normal, @jumpR_ret, @jumpR_exit⟩

/-- Slots, rows, operands. -/
theorem evK :
  (∀ {ρ : Nat → AV} {n : Nat}, ev ρ (.t n) = ρ n) ∧
  (∀ {ρ : Nat → AV} {v : AV}, ev ρ (.c v) = v) ∧
  (∀ {ρ : Nat → AV}, evs ρ [] = []) ∧
  (∀ {ρ : Nat → AV} {x : AOpd} {l : List AOpd}, evs ρ (x :: l) = ev ρ x :: evs ρ l) ∧
  (∀ {ρ : Nat → AV}, evParts ρ [] = []) ∧
  (∀ {ρ : Nat → AV} {a b : Nat} {x : AOpd} {l : List (Nat × Nat × AOpd)}, evParts ρ ((a, b, x) :: l) = (a, b, ev ρ x) :: evParts ρ l) ∧
  (∀ {ρ : Nat → AV}, evEls ρ [] = []) ∧
  (∀ {ρ : Nat → AV} {a : Nat} {x : AOpd} {l : List (Nat × AOpd)}, evEls ρ ((a, x) :: l) = (a, ev ρ x) :: evEls ρ l) ∧
  (∀ {ρ : Nat → AV}, evO ρ none = none) ∧
  (∀ {ρ : Nat → AV} {x : AOpd}, evO ρ (some x) = some (ev ρ x)) ∧
  (∀ {K : Kn} {v : AV}, setO K none v = K) ∧
  (∀ {K : Kn} {d : Nat} {v : AV}, setO K (some d) v = K.set d v) ∧
  (∀ {i : Nat}, Kn.get [] i = .undef) ∧
  (∀ {j : Nat} {v : AV} {t : Kn} {i : Nat}, Kn.get ((j, v) :: t) i = bif (j == i) then v else Kn.get t i) ∧
  (∀ {i : Nat} {v : AV}, Kn.set [] i v = [(i, v)]) ∧
  (∀ {j : Nat} {u v : AV} {t : Kn} {i : Nat}, Kn.set ((j, u) :: t) i v = bif (j == i) then (i, v) :: t else (j, u) :: Kn.set t i v) ∧
  (∀ {l : List Nat}, Kn.drop [] l = []) ∧
  (∀ {j : Nat} {v : AV} {t : Kn} {l : List Nat}, Kn.drop ((j, v) :: t) l = bif memN l j then Kn.drop t l else (j, v) :: Kn.drop t l) ∧
  (∀ {i : Nat}, memN [] i = false) ∧
  (∀ {j : Nat} {t : List Nat} {i : Nat}, memN (j :: t) i = bif (j == i) then true else memN t i) ∧
  (∀ {i : Nat}, argsK i [] = []) ∧
  (∀ {i : Nat} {a : AV} {r : List AV}, argsK i (a :: r) = (i, a) :: argsK (i + 1) r) ∧
  (∀ {K : Kn} {H : AH} {nx : Nat}, retSide K H nx [] = True) ∧
  (∀ {K : Kn} {H : AH} {nx t : Nat} {r : List ARet}, retSide K H nx (.tmp t :: r) = retSide K H nx r) ∧
  (∀ {K : Kn} {H : AH} {nx t n : Nat} {g : Bool} {r : List ARet}, retSide K H nx (.cell t g n :: r) = ((loadR g n (K.get t) H nx).side ∧ retSide K H nx r)) ∧
  (∀ {K : Kn} {H : AH} {nx : Nat}, retVals K H nx [] = []) ∧
  (∀ {K : Kn} {H : AH} {nx t : Nat} {r : List ARet}, retVals K H nx (.tmp t :: r) = K.get t :: retVals K H nx r) ∧
  (∀ {K : Kn} {H : AH} {nx t n : Nat} {g : Bool} {r : List ARet}, retVals K H nx (.cell t g n :: r) = (loadR g n (K.get t) H nx).v :: retVals K H nx r) ∧
  (∀ {v : AV}, retOf [v] = v) ∧
  (retOf [] = .tup []) ∧
  (∀ {u v : AV} {l : List AV}, retOf (u :: v :: l) = .tup (u :: v :: l)) ∧
  (∀ {r : Nat}, AH.look [] r = none) ∧
  (∀ {j : Nat} {o : AObj} {t : AH} {r : Nat}, AH.look ((j, o) :: t) r = bif (j == r) then some o else AH.look t r) ∧
  (∀ {r : Nat} {o : AObj}, AH.put [] r o = [(r, o)]) ∧
  (∀ {j : Nat} {u o : AObj} {t : AH} {r : Nat}, AH.put ((j, u) :: t) r o = bif (j == r) then (r, o) :: t else (j, u) :: AH.put t r o) ∧
  (∀ {H : AH} {r q : Nat}, AH.get H r q = (AH.look H r).bind (·.part q)) ∧
  (∀ {H : AH} {r q : Nat} {o : AObj}, AH.set H r q o = setObj (AH.look H r) H r q o) ∧
  (∀ {u : AObj} {H : AH} {r q : Nat} {o : AObj}, setObj (some u) H r q o = H.put r (u.upd q o)) ∧
  (∀ {H : AH} {r q : Nat} {o : AObj}, setObj none H r q o = H.put r o) ∧
  (∀ {sz g : Nat} {els : List (List AV)}, AObj.part (.row sz els g) 0 = some (.row sz els g)) ∧
  (∀ {sz i : Nat} {ins : List (List (List AV) × Nat)}, AObj.part (.fam sz ins) (i + 1) = (ins[i]?).map fun p => .row sz p.1 p.2) ∧
  (∀ {sz g : Nat} {els : List (List AV)} {o : AObj} {q : Nat}, AObj.upd (.row sz els g) q o = o) ∧
  (∀ {sz sz' i g : Nat} {ins : List (List (List AV) × Nat)} {els : List (List AV)}, AObj.upd (.fam sz ins) (i + 1) (.row sz' els g) = .fam sz (ins.set i (els, g))) ∧
  (∀ {o : AObj} {f : AObj → Option AObj}, (some o).bind f = f o) :=
  ⟨@ev_t, @ev_c, @evs_nil, @evs_cons, @evParts_nil, @evParts_cons, @evEls_nil, @evEls_cons, @evO_none, @evO_some, @setO_none, @setO_some, @kget_nil, @kget_cons, @kset_nil, @kset_cons, @kdrop_nil, @kdrop_cons, @memN_nil, @memN_cons, @argsK_nil, @argsK_cons, @retSide_nil, @retSide_tmp, @retSide_cell, @retVals_nil, @retVals_tmp, @retVals_cell, @retOf_one, retOf_none, @retOf_two, @look_nil, @look_cons, @put_nil, @put_cons, @hget_def, @hset_def, @setObj_some, @setObj_none, @part_row, @part_fam, @upd_row, @upd_fam, @obind_some⟩

/-- The connectives. -/
theorem evB : (∀ {α : Type} {a b : α}, (bif true then a else b) = a) ∧ (∀ {α : Type} {a b : α}, (bif false then a else b) = b) ∧ (∀ {p : Prop}, (True ∧ p) = p) ∧ (∀ {p : Prop}, (p ∧ True) = p) ∧ (∀ {p : Prop}, (True → p) = p) :=
  ⟨rfl, rfl, by simp, by simp, by simp⟩


theorem wrap64 {n : Int} (h1 : -9223372036854775808 ≤ n) (h2 : n ≤ 9223372036854775807) : IntKind.i64.wrap n = n := IntWalk.i64_in n ⟨h1, h2⟩

end Go.Ab

namespace Go.Ab
open Go.RowKit

/-- A list that is only read: each element's cells. -/
def encL {α : Type} (sz : Nat) (f : α → List AV) (l : List α) : AV := .sl sz l.length (fun i j => ((l.map f).getD i []).getD j .undef)

/-- A pointer to cells that are only read. -/
def encP (sz : Nat) (c : List AV) : AV := .iptr sz (fun j => c.getD j .undef)

theorem map_getD {α β : Type} {f : α → β} {l : List α} {i : Nat} {a : α} {d : β} (h : l[i]? = some a) : (l.map f).getD i d = f a := by
  simp [List.getD_eq_getElem?_getD, h]

section
variable {α : Type} {sz : Nat} {f : α → List AV} {l : List α} {H : AH} {nx : Nat}

theorem tab_getD : ∀ (n k : Nat) (c : List AV), k + n = c.length → tab (fun j => c.getD j .undef) n k = c.drop k
  | 0, k, c, h => by simp [tab, List.drop_of_length_le (show c.length ≤ k by omega)]
  | n + 1, k, c, h => by
    simp only [tab]
    rw [tab_getD n (k + 1) c (by omega), List.drop_eq_getElem_cons (show k < c.length by omega)]
    simp [List.getD_eq_getElem?_getD, List.getElem?_eq_getElem (show k < c.length by omega)]

theorem elsOf_encL (hw : ∀ a ∈ l, (f a).length = sz) : elsOf sz (encL sz f l) H = some (l.map f) := by
  unfold elsOf encL
  simp only [beq_refl', cond_true]
  congr 1
  apply List.ext_getElem?
  intro i
  by_cases hi : i < l.length
  · have hm : l[i] ∈ l := List.getElem_mem hi
    simp only [List.getElem?_map, List.getElem?_range hi, Option.map_some, List.getElem?_eq_getElem hi]
    have e : (List.map f l).getD i [] = f l[i] := map_getD (List.getElem?_eq_getElem hi)
    rw [e, tab_getD sz 0 (f l[i]) (by rw [hw _ hm]; omega)]
    rfl
  · simp [List.getElem?_eq_none (show l.length ≤ i by omega), hi]

theorem nilB_encL : nilB false (encL sz f l) = some (bif Nat.beq l.length 0 then none else some false) := rfl

end

/-- All calls of a region that draws its order are quiet. -/
def qRo (l : List Nat) : Nat → List Nat := fun id => bif Nat.beq id 999999 then l else List.range 150
def qGet : List (Nat × List Nat) → Nat → List Nat
  | [], _ => List.range 150
  | (j, l) :: t, i => bif Nat.beq j i then l else qGet t i
/-- 'l': the slots of boxes that are only read; 'x': regions in which not every call is quiet. -/
def qRoL (l : List Nat) (x : List (Nat × List Nat)) : Nat → List Nat := fun id => bif Nat.beq id 999999 then l else qGet x id
def qAll : Nat → List Nat := qRo []

/-- Numbers. -/
def encInts (l : List Int) : AV := encL 1 (fun n => [.int .i64 n]) l
def encNats (l : List Nat) : AV := encL 1 (fun (n : Nat) => [.int .i64 (n : Int)]) l
def encBools (l : List Bool) : AV := encL 1 (fun b => [.bool b]) l


/-! ### Rows seen as lists that are only read -/

theorem vw_encL {α : Type} {H H2 : AH} {σ : Nat → Nat → Option (Nat × Nat × Nat)} {D : Nat → Nat → Prop} {t : Bool} {sz r q g : Nat} {f f' : α → List AV} {l : List α} (hD : D r q) (hg : H.get r q = some (.row sz (l.map f) g)) (hb : l.length ≤ big)
    (h : ∀ a ∈ l, ∀ j, j < sz → Vw H H2 σ D false ((f a).getD j .undef) ((f' a).getD j .undef)) : Vw H H2 σ D t (.own r q g 0 l.length) (encL sz f' l) := by
  refine .frz t r q g 0 l.length sz (l.map f) _ hD hg hb (by simp) (fun i j hi hj => ?_)
  rw [Nat.zero_add, map_getD (List.getElem?_eq_getElem hi), map_getD (List.getElem?_eq_getElem hi)]
  exact h _ (List.getElem_mem hi) j hj

theorem vw_ints {H H2 : AH} {σ : Nat → Nat → Option (Nat × Nat × Nat)} {D : Nat → Nat → Prop} {t : Bool} {r q g : Nat} {l : List Int} (hD : D r q) (hg : H.get r q = some (.row 1 (l.map fun n => [.int .i64 n]) g)) (hb : l.length ≤ big) :
    Vw H H2 σ D t (.own r q g 0 l.length) (encInts l) := by
  refine vw_encL hD hg hb (fun a _ j hj => ?_)
  obtain rfl : j = 0 := by omega
  exact .int _ _ _

theorem vw_nats {H H2 : AH} {σ : Nat → Nat → Option (Nat × Nat × Nat)} {D : Nat → Nat → Prop} {t : Bool} {r q g : Nat} {l : List Nat} (hD : D r q) (hg : H.get r q = some (.row 1 (l.map fun (n : Nat) => [.int .i64 (n : Int)]) g)) (hb : l.length ≤ big) :
    Vw H H2 σ D t (.own r q g 0 l.length) (encNats l) := by
  refine vw_encL hD hg hb (fun a _ j hj => ?_)
  obtain rfl : j = 0 := by omega
  exact .int _ _ _

theorem vw_bools {H H2 : AH} {σ : Nat → Nat → Option (Nat × Nat × Nat)} {D : Nat → Nat → Prop} {t : Bool} {r q g : Nat} {l : List Bool} (hD : D r q) (hg : H.get r q = some (.row 1 (l.map fun b => [.bool b]) g)) (hb : l.length ≤ big) :
    Vw H H2 σ D t (.own r q g 0 l.length) (encBools l) := by
  refine vw_encL hD hg hb (fun a _ j hj => ?_)
  obtain rfl : j = 0 := by omega
  exact .bool _ _

theorem vw_nil {α : Type} {H H2 : AH} {σ : Nat → Nat → Option (Nat × Nat × Nat)} {D : Nat → Nat → Prop} {t : Bool} {sz : Nat} {f : α → List AV} : Vw H H2 σ D t .nilsl (encL sz f []) := .nil0 _ _ _

/-- Lists and cells computed. -/
theorem evL :
  (∀ {c : Nat → AV} {k : Nat}, tab c 0 k = []) ∧
  (∀ {c : Nat → AV} {n k : Nat}, tab c (n + 1) k = c k :: tab c n (k + 1)) ∧
  (∀ {α : Type} {a : α} {l : List α}, (a :: l).length = l.length + 1) ∧
  (∀ {α : Type}, ([] : List α).length = 0) ∧
  (∀ {α : Type} {a b : α} {l : List α}, (a :: l).set 0 b = b :: l) ∧
  (∀ {α : Type} {a b : α} {l : List α} {n : Nat}, (a :: l).set (n + 1) b = a :: l.set n b) ∧
  (∀ {α : Type} {a d : α} {l : List α}, (a :: l).getD 0 d = a) ∧
  (∀ {α : Type} {a d : α} {l : List α} {n : Nat}, (a :: l).getD (n + 1) d = l.getD n d) ∧
  (∀ {cs : List AV}, AV.cells (.agg cs) = cs) ∧
  (∀ {k : IntKind} {n : Int}, AV.cells (.int k n) = [.int k n]) ∧
  (∀ {b : Bool}, AV.cells (.bool b) = [.bool b]) ∧
  (∀ {sz n : Nat} {f : Nat → Nat → AV}, AV.cells (.sl sz n f) = [.sl sz n f]) ∧
  (∀ {α : Type} {sz : Nat} {f : α → List AV} {l : List α}, AV.cells (encL sz f l) = [encL sz f l]) ∧
  (∀ {r q g off n : Nat}, AV.cells (.own r q g off n) = [.own r q g off n]) ∧
  (∀ {r q g i f : Nat}, AV.cells (.ptr r q g i f) = [.ptr r q g i f]) ∧
  (∀ {f : Fn} {cs : List AV}, AV.cells (.fn f cs) = [.fn f cs]) ∧
  (AV.cells .nilsl = [.nilsl]) ∧ (AV.cells .nilfn = [.nilfn]) ∧ (AV.cells .nilp = [.nilp]) ∧
  (∀ {s : ByteArray}, AV.cells (.str s) = [.str s]) ∧
  (∀ {cs : List AV}, AV.solid (.agg cs) = true) ∧
  (∀ {k : IntKind} {n : Int}, AV.solid (.int k n) = true) ∧
  (∀ {b : Bool}, AV.solid (.bool b) = true) ∧
  (∀ {sz n : Nat} {f : Nat → Nat → AV}, AV.solid (.sl sz n f) = true) ∧
  (∀ {α : Type} {sz : Nat} {f : α → List AV} {l : List α}, AV.solid (encL sz f l) = true) ∧
  (∀ {r q g off n : Nat}, AV.solid (.own r q g off n) = true) ∧
  (∀ {r q g i f : Nat}, AV.solid (.ptr r q g i f) = true) ∧
  (∀ {f : Fn} {cs : List AV}, AV.solid (.fn f cs) = true) ∧
  (AV.solid .nilsl = true) ∧ (AV.solid .nilfn = true) ∧ (AV.solid .nilp = true) ∧
  (∀ {s : ByteArray}, AV.solid (.str s) = true) ∧
  (∀ {k : IntKind} {n : Int}, AV.wf (.int k n) = InR k n) ∧
  (∀ {b : Bool}, AV.wf (.bool b) = True) ∧
  (∀ {cs : List AV}, AV.wf (.agg cs) = True) ∧
  (∀ {cs : List AV}, AV.wf (.tup cs) = True) ∧
  (∀ {sz n : Nat} {f : Nat → Nat → AV}, AV.wf (.sl sz n f) = (n ≤ big)) ∧
  (∀ {α : Type} {sz : Nat} {f : α → List AV} {l : List α}, AV.wf (encL sz f l) = (l.length ≤ big)) ∧
  (∀ {r q g off n : Nat}, AV.wf (.own r q g off n) = True) ∧
  (∀ {r q g i f : Nat}, AV.wf (.ptr r q g i f) = True) ∧
  (∀ {n : Nat} {c : Nat → AV}, AV.wf (.iptr n c) = True) ∧
  (∀ {f : Fn} {cs : List AV}, AV.wf (.fn f cs) = True) ∧
  (AV.wf .nilsl = True) ∧ (AV.wf .nilfn = True) ∧ (AV.wf .nilp = True) ∧ (AV.wf .undef = True) ∧
  (∀ {s : ByteArray}, AV.wf (.str s) = (s.size ≤ big)) ∧
  (∀ {n : Nat}, Nat.beq n n = true) ∧
  (∀ {a b : Nat}, Nat.beq a b = (a == b)) ∧
  (∀ {b : Bool}, (b && b) = b) ∧ (∀ {b : Bool}, (b && true) = b) ∧ (∀ {b : Bool}, (true && b) = b) ∧ (∀ {b : Bool}, (b && false) = false) ∧ (∀ {b : Bool}, (false && b) = false) ∧
  (∀ {n : Nat}, 0 + n = n) ∧
  (∀ {n : Nat}, ((n : Int).toNat) = n) ∧
  (∀ {n : Nat}, (0 < n + 1) = True) ∧
  (∀ {n : Nat}, (n ≤ n) = True) ∧
  (∀ {α : Type} {a : α}, (a = a) = True) ∧
  (∀ {α : Type} {l : List α}, [] ++ l = l) ∧ (∀ {α : Type} {l : List α}, l ++ [] = l) ∧ (∀ {α : Type} {a : α} {l m : List α}, (a :: l) ++ m = a :: (l ++ m)) ∧
  (∀ {α : Type} {l : List α}, l.drop 0 = l) ∧ (∀ {α : Type} {a : α} {l : List α} {n : Nat}, (a :: l).drop (n + 1) = l.drop n) ∧
  (∀ {α : Type} {l : List α}, l.take 0 = []) ∧ (∀ {α : Type} {a : α} {l : List α} {n : Nat}, (a :: l).take (n + 1) = a :: l.take n) ∧
  (∀ {α : Type} {a : α}, List.replicate 0 a = []) ∧ (∀ {α : Type} {a : α} {n : Nat}, List.replicate (n + 1) a = a :: List.replicate n a) ∧
  (∀ {els : List (List AV)}, setEls els [] = els) ∧ (∀ {els : List (List AV)} {i : Nat} {v : AV} {r : List (Nat × AV)}, setEls els ((i, v) :: r) = setEls (els.set i v.cells) r) ∧
  (∀ {n sz : Nat}, setOk n sz [] = True) ∧ (∀ {n sz i : Nat} {v : AV} {r : List (Nat × AV)}, setOk n sz ((i, v) :: r) = ((v.solid = true ∧ v.cells.length = sz ∧ i < n) ∧ setOk n sz r)) ∧
  (∀ {cs : List AV}, fillA cs [] = cs) ∧ (∀ {cs : List AV} {off size : Nat} {v : AV} {r : List (Nat × Nat × AV)}, fillA cs ((off, size, v) :: r) = fillA (splice cs off v.cells) r) ∧
  (∀ {k : IntKind} {n : Int}, AV.flat0 (.int k n) = true) ∧ (∀ {b : Bool}, AV.flat0 (.bool b) = true) ∧ (∀ {s : ByteArray}, AV.flat0 (.str s) = true) ∧ (AV.flat0 .undef = true) ∧ (AV.flat0 .nilsl = true) ∧ (AV.flat0 .nilp = true) ∧ (AV.flat0 .nilfn = true) ∧ (AV.flat0 .cut = true) ∧
  (∀ {sz n : Nat} {f : Nat → Nat → AV}, AV.flat0 (.sl sz n f) = true) ∧ (∀ {n : Nat} {c : Nat → AV}, AV.flat0 (.iptr n c) = true) ∧ (∀ {α : Type} {sz : Nat} {f : α → List AV} {l : List α}, AV.flat0 (encL sz f l) = true) ∧
  (allFlat [] = true) ∧ (∀ {v : AV} {r : List AV}, allFlat (v :: r) = (v.flat0 && allFlat r)) ∧
  (∀ {n : Nat}, fillOk n [] = True) ∧ (∀ {n off size : Nat} {v : AV} {r : List (Nat × Nat × AV)}, fillOk n ((off, size, v) :: r) = ((v.solid = true ∧ v.cells.length = size ∧ off + size ≤ n) ∧ fillOk n r)) := by
  (repeat' apply And.intro) <;> intros <;> first | rfl | exact Nat.beq_refl _ | exact beq_eq _ _ | simp


/-! ### Values without rows -/

def AV.flat : AV → Bool
  | .agg l => l.all AV.flat0
  | .tup l => l.all AV.flat0
  | a => a.flat0

theorem vw_flat0 {H H2 : AH} {σ : Nat → Nat → Option (Nat × Nat × Nat)} {D : Nat → Nat → Prop} {t : Bool} {a : AV} (h : a.flat0 = true) : Vw H H2 σ D t a a := by
  cases a <;> first | (cases h; done) | constructor

theorem vw_flat {H H2 : AH} {σ : Nat → Nat → Option (Nat × Nat × Nat)} {D : Nat → Nat → Prop} {t : Bool} {a : AV} (h : a.flat = true) : Vw H H2 σ D t a a := by
  have key : ∀ (l : List AV), l.all AV.flat0 = true → ∀ (i : Nat) (x y : AV), l[i]? = some x → l[i]? = some y → Vw H H2 σ D t x y := fun l hl i x y h1 h2 => by
    rw [h1] at h2
    cases h2
    exact vw_flat0 (List.all_eq_true.1 hl x (List.mem_of_getElem? h1))
  cases a with
  | agg l => exact .agg _ _ _ rfl (key l h)
  | tup l => exact .tup _ _ _ rfl (key l h)
  | _ => exact vw_flat0 h

/-- Arguments without rows. -/
theorem lend_flat {H : AH} {D : Nat → Nat → Prop} : ∀ {l : List AV}, l.all AV.flat = true → Lend H D l l
  | [], _ => .nil
  | a :: l, h => by
    simp only [List.all_cons, Bool.and_eq_true] at h
    exact .cons (vw_flat h.1) (lend_flat h.2)

/-- A pure call with arguments without rows. -/
theorem call_flat {P : Program} {f : FuncId} {l : List AV} {r : AV} {H : AH} {nx : Nat} (h : PureFn P f l (· = r)) (hl : l.all AV.flat = true) : CallFix P f l H nx r :=
  call_fix h (lend_flat (D := noR) hl) (.inr fun _ _ h => h)

end Go.Ab

namespace Go.Ab
open Go.RowKit

structure Stm where
  op : Int
  var : Int
  width : Int
  next : Int
  els : Int
  tgt : Int
  e : AV
  cases : List Int

def Stm.cells (s : Stm) : List AV := [.int .i64 s.op, .int .i64 s.var, .int .i64 s.width, .int .i64 s.next, .int .i64 s.els, .int .u32 s.tgt, s.e, encInts s.cases]

structure Blk where
  addr : Int
  stmts : List Stm

def Blk.cells (b : Blk) : List AV := [.int .u32 b.addr, encL 8 Stm.cells b.stmts]

structure Gr where
  addr : Int
  blocks : List Blk

def Gr.cells (g : Gr) : List AV := [.int .u32 g.addr, encL 2 Blk.cells g.blocks]

theorem Blk.two (b : Blk) : [b.cells.getD 0 .undef, b.cells.getD 1 .undef] = b.cells := rfl
theorem Gr.two (g : Gr) : [g.cells.getD 0 .undef, g.cells.getD 1 .undef] = g.cells := rfl

end Go.Ab

namespace Go.Ab
open Go.RowKit

/-- What was loaded from a row that is known. -/
def ldRow (agg : Bool) (n i f g : Nat) (o : Option AObj) (H : AH) (nx : Nat) : ORes := match o with
  | some (.row sz els g') =>
    let v := bif agg then .agg (bif Nat.beq f 0 && Nat.beq n sz then els.getD i [] else sub (els.getD i []) f n) else (els.getD i []).getD f .undef
    ⟨g = g' ∧ i < els.length ∧ f + n ≤ sz, v.wf, v, H, nx⟩
  | _ => bad H nx

def stRow (n r q i f g : Nat) (v : AV) (o : Option AObj) (H : AH) (nx : Nat) : ORes := match o with
  | some (.row sz els g') =>
    ⟨g = g' ∧ i < els.length ∧ f + n ≤ sz ∧ v.solid = true ∧ v.cells.length = n, True, .undef,
        H.set r q (.row sz (els.set i (bif Nat.beq f 0 && Nat.beq n sz then v.cells else splice (els.getD i []) f v.cells)) g'), nx⟩
  | _ => bad H nx

def ixRow (sz r q g off n : Nat) (k : Int) (o : Option AObj) (H : AH) (nx : Nat) : ORes := match o with
  | some (.row sz' _ g') => ⟨sz' = sz ∧ g = g' ∧ 0 ≤ k ∧ k < n, True, .ptr r q g (off + k.toNat) 0, H, nx⟩
  | _ => bad H nx

def slRow (sz r q g off n : Nat) (a b : Int) (o : Option AObj) (H : AH) (nx : Nat) : ORes := match o with
  | some (.row sz' _ g') => ⟨sz' = sz ∧ g = g' ∧ 0 ≤ a ∧ a ≤ b ∧ b ≤ n, True, .own r q g (off + a.toNat) (b - a).toNat, H, nx⟩
  | _ => bad H nx

def clRow (sz r q g off n : Nat) (zero : List AV) (o : Option AObj) (H : AH) (nx : Nat) : ORes := match o with
  | some (.row sz' els g') => ⟨sz' = sz ∧ g = g' ∧ off + n ≤ els.length, True, .undef, H.set r q (.row sz (els.take off ++ List.replicate n zero ++ els.drop (off + n)) g'), nx⟩
  | _ => bad H nx

/-- The elements of a slice whose row is known. -/
def elRow (sz g off n : Nat) (o : Option AObj) : Option (List (List AV)) := match o with
  | some (.row sz' els g') => bif Nat.beq sz' sz && Nat.beq g g' then some ((els.drop off).take n) else none
  | _ => none

def ftRow (off n : Nat) (o : Option AObj) : Prop := match o with
  | some (.row _ els _) => off + n ≤ els.length
  | _ => False

def apRow (sz bytes r q g off n m : Nat) (news : List (List AV)) (ft : Prop) (o : Option AObj) (H : AH) (nx : Nat) : ORes := match o with
  | some (.row sz' els g') =>
    ⟨sz' = sz ∧ g = g' ∧ off + n ≤ els.length ∧ ft ∧ (n + m) * bytes ≤ 140737488355328, True, .own r q (g + 1) 0 (n + m), H.set r q (.row sz ((els.drop off).take n ++ news) (g + 1)), nx⟩
  | _ => bad H nx

/-- An append of known elements. -/
def apTo (sz bytes : Nat) (x : AV) (news : Option (List (List AV))) (m : Option Nat) (ft : Prop) (H : AH) (nx : Nat) : ORes := match news, m with
  | some news, some m => match x with
    | .own r q g off n => apRow sz bytes r q g off n m news ft (H.get r q) H nx
    | .nilsl | .cut => ⟨ft ∧ m * bytes ≤ 140737488355328, True, .own nx 0 0 0 m, H.set nx 0 (.row sz news 0), nx + 1⟩
    | _ => bad H nx
  | _, _ => bad H nx

theorem appendR_def {sz bytes : Nat} {x y : AV} {H : AH} {nx : Nat} : appendR sz bytes x y H nx = apTo sz bytes x (elsOf sz y H) (lenV y) (fits H y) H nx := by
  unfold appendR apTo
  cases elsOf sz y H with
  | none => rfl
  | some news =>
    cases lenV y with
    | none => rfl
    | some m =>
      cases x <;> try rfl
      all_goals
        simp only [apRow]
        split <;> rfl

theorem splice_nil {l : List AV} : splice l 0 [] = l := by simp [splice]
theorem splice_zero {a v : AV} {l vs : List AV} : splice (a :: l) 0 (v :: vs) = v :: splice l 0 vs := by simp [splice]
theorem splice_succ {a : AV} {l vs : List AV} {n : Nat} : splice (a :: l) (n + 1) vs = a :: splice l n vs := by
  simp only [splice, List.take_succ_cons, List.cons_append]
  rw [show n + 1 + vs.length = (n + vs.length) + 1 by omega, List.drop_succ_cons]

/-- The operations on values whose form is known. -/
theorem evR :
  (∀ {sz r q g off n : Nat} {zero : List AV} {H : AH} {nx : Nat}, clearR sz zero (.own r q g off n) H nx = clRow sz r q g off n zero (H.get r q) H nx) ∧
  (∀ {sz r q g off n sz' g' : Nat} {zero : List AV} {els : List (List AV)} {H : AH} {nx : Nat}, clRow sz r q g off n zero (some (.row sz' els g')) H nx = ⟨sz' = sz ∧ g = g' ∧ off + n ≤ els.length, True, .undef, H.set r q (.row sz (els.take off ++ List.replicate n zero ++ els.drop (off + n)) g'), nx⟩) ∧
  (∀ {r q g off n : Nat} {H : AH} {nx : Nat}, cutR (.own r q g off n) H nx = ⟨True, True, .cut, H, nx⟩) ∧ (∀ {H : AH} {nx : Nat}, cutR .nilsl H nx = ⟨True, True, .cut, H, nx⟩) ∧ (∀ {H : AH} {nx : Nat}, cutR .cut H nx = ⟨True, True, .cut, H, nx⟩) ∧ (∀ {α : Type} {sz : Nat} {f : α → List AV} {l : List α} {H : AH} {nx : Nat}, cutR (encL sz f l) H nx = ⟨True, True, .cut, H, nx⟩) ∧
  (∀ {l : List AV}, splice l 0 [] = l) ∧ (∀ {a v : AV} {l vs : List AV}, splice (a :: l) 0 (v :: vs) = v :: splice l 0 vs) ∧ (∀ {a : AV} {l vs : List AV} {n : Nat}, splice (a :: l) (n + 1) vs = a :: splice l n vs) ∧
  (∀ {agg : Bool} {n r q g i f : Nat} {H : AH} {nx : Nat}, loadR agg n (.ptr r q g i f) H nx = ldRow agg n i f g (H.get r q) H nx) ∧
  (∀ {agg : Bool} {n m : Nat} {c : Nat → AV} {H : AH} {nx : Nat}, loadR agg n (.iptr m c) H nx = ⟨n ≤ m, (bif agg then .agg (tab c n 0) else c 0 : AV).wf, bif agg then .agg (tab c n 0) else c 0, H, nx⟩) ∧
  (∀ {agg : Bool} {n i f g sz g' : Nat} {els : List (List AV)} {H : AH} {nx : Nat}, ldRow agg n i f g (some (.row sz els g')) H nx =
    ⟨g = g' ∧ i < els.length ∧ f + n ≤ sz, (bif agg then .agg (bif Nat.beq f 0 && Nat.beq n sz then els.getD i [] else sub (els.getD i []) f n) else (els.getD i []).getD f .undef : AV).wf, bif agg then .agg (bif Nat.beq f 0 && Nat.beq n sz then els.getD i [] else sub (els.getD i []) f n) else (els.getD i []).getD f .undef, H, nx⟩) ∧
  (∀ {n r q g i f : Nat} {v : AV} {H : AH} {nx : Nat}, storeR n (.ptr r q g i f) v H nx = stRow n r q i f g v (H.get r q) H nx) ∧
  (∀ {n r q i f g sz g' : Nat} {els : List (List AV)} {v : AV} {H : AH} {nx : Nat}, stRow n r q i f g v (some (.row sz els g')) H nx =
    ⟨g = g' ∧ i < els.length ∧ f + n ≤ sz ∧ v.solid = true ∧ v.cells.length = n, True, .undef, H.set r q (.row sz (els.set i (bif Nat.beq f 0 && Nat.beq n sz then v.cells else splice (els.getD i []) f v.cells)) g'), nx⟩) ∧
  (∀ {sz r q g off n : Nat} {k : IntKind} {i : Int} {H : AH} {nx : Nat}, idxR sz (.own r q g off n) (.int k i) H nx = ixRow sz r q g off n i (H.get r q) H nx) ∧
  (∀ {sz r q g off n sz' g' : Nat} {els : List (List AV)} {i : Int} {H : AH} {nx : Nat}, ixRow sz r q g off n i (some (.row sz' els g')) H nx = ⟨sz' = sz ∧ g = g' ∧ 0 ≤ i ∧ i < n, True, .ptr r q g (off + i.toNat) 0, H, nx⟩) ∧
  (∀ {r q g off n : Nat} {H : AH} {nx : Nat}, lenR (.own r q g off n) H nx = ⟨True, n ≤ 9223372036854775807, .int .i64 n, H, nx⟩) ∧
  (∀ {H : AH} {nx : Nat}, lenR .nilsl H nx = ⟨True, True, .int .i64 0, H, nx⟩) ∧
  (∀ {H : AH} {nx : Nat}, lenR .cut H nx = ⟨True, True, .int .i64 0, H, nx⟩) ∧
  (∀ {off n r q g i f : Nat} {H : AH} {nx : Nat}, fldaddrR off n (.ptr r q g i f) H nx = ⟨True, True, .ptr r q g i (f + off), H, nx⟩) ∧
  (∀ {off n m : Nat} {c : Nat → AV} {H : AH} {nx : Nat}, fldaddrR off n (.iptr m c) H nx = ⟨off + n ≤ m, True, .iptr n (fun j => c (off + j)), H, nx⟩) ∧
  (∀ {sz r q g off n : Nat} {k k' : IntKind} {a b : Int} {H : AH} {nx : Nat}, sliceR sz (.own r q g off n) (some (.int k a)) (some (.int k' b)) H nx = slRow sz r q g off n a b (H.get r q) H nx) ∧
  (∀ {sz r q g off n : Nat} {k : IntKind} {a : Int} {H : AH} {nx : Nat}, sliceR sz (.own r q g off n) (some (.int k a)) none H nx = slRow sz r q g off n a n (H.get r q) H nx) ∧
  (∀ {sz r q g off n : Nat} {k' : IntKind} {b : Int} {H : AH} {nx : Nat}, sliceR sz (.own r q g off n) none (some (.int k' b)) H nx = slRow sz r q g off n 0 b (H.get r q) H nx) ∧
  (∀ {sz r q g off n sz' g' : Nat} {els : List (List AV)} {a b : Int} {H : AH} {nx : Nat}, slRow sz r q g off n a b (some (.row sz' els g')) H nx = ⟨sz' = sz ∧ g = g' ∧ 0 ≤ a ∧ a ≤ b ∧ b ≤ n, True, .own r q g (off + a.toNat) (b - a).toNat, H, nx⟩) ∧
  (∀ {sz bytes : Nat} {x y : AV} {H : AH} {nx : Nat}, appendR sz bytes x y H nx = apTo sz bytes x (elsOf sz y H) (lenV y) (fits H y) H nx) ∧
  (∀ {sz r q g off n : Nat} {H : AH}, elsOf sz (.own r q g off n) H = elRow sz g off n (H.get r q)) ∧
  (∀ {sz : Nat} {H : AH}, elsOf sz .nilsl H = some []) ∧ (∀ {sz : Nat} {H : AH}, elsOf sz .cut H = some []) ∧
  (∀ {sz g off n sz' g' : Nat} {els : List (List AV)}, elRow sz g off n (some (.row sz' els g')) = bif Nat.beq sz' sz && Nat.beq g g' then some ((els.drop off).take n) else none) ∧
  (∀ {r q g off n : Nat}, lenV (.own r q g off n) = some n) ∧ (lenV .nilsl = some 0) ∧ (lenV .cut = some 0) ∧ (∀ {α : Type} {sz : Nat} {f : α → List AV} {l : List α}, lenV (encL sz f l) = some l.length) ∧
  (∀ {r q g off n : Nat} {H : AH}, fits H (.own r q g off n) = ftRow off n (H.get r q)) ∧ (∀ {H : AH}, fits H .nilsl = True) ∧ (∀ {H : AH}, fits H .cut = True) ∧ (∀ {α : Type} {sz : Nat} {f : α → List AV} {l : List α} {H : AH}, fits H (encL sz f l) = True) ∧
  (∀ {off n sz g : Nat} {els : List (List AV)}, ftRow off n (some (.row sz els g)) = (off + n ≤ els.length)) ∧
  (∀ {sz bytes r q g off n m : Nat} {news : List (List AV)} {ft : Prop} {H : AH} {nx : Nat}, apTo sz bytes (.own r q g off n) (some news) (some m) ft H nx = apRow sz bytes r q g off n m news ft (H.get r q) H nx) ∧
  (∀ {sz bytes m : Nat} {news : List (List AV)} {ft : Prop} {H : AH} {nx : Nat}, apTo sz bytes .nilsl (some news) (some m) ft H nx = ⟨ft ∧ m * bytes ≤ 140737488355328, True, .own nx 0 0 0 m, H.set nx 0 (.row sz news 0), nx + 1⟩) ∧
  (∀ {sz bytes m : Nat} {news : List (List AV)} {ft : Prop} {H : AH} {nx : Nat}, apTo sz bytes .cut (some news) (some m) ft H nx = ⟨ft ∧ m * bytes ≤ 140737488355328, True, .own nx 0 0 0 m, H.set nx 0 (.row sz news 0), nx + 1⟩) ∧
  (∀ {sz bytes r q g off n m sz' g' : Nat} {news els : List (List AV)} {ft : Prop} {H : AH} {nx : Nat}, apRow sz bytes r q g off n m news ft (some (.row sz' els g')) H nx =
    ⟨sz' = sz ∧ g = g' ∧ off + n ≤ els.length ∧ ft ∧ (n + m) * bytes ≤ 140737488355328, True, .own r q (g + 1) 0 (n + m), H.set r q (.row sz ((els.drop off).take n ++ news) (g + 1)), nx⟩) ∧
  (∀ {α : Type} {sz : Nat} {f : α → List AV} {l : List α} {H : AH} {nx : Nat}, lenR (encL sz f l) H nx = ⟨True, l.length ≤ big, .int .i64 l.length, H, nx⟩) ∧
  (∀ {α : Type} {sz : Nat} {f : α → List AV} {l : List α} {H : AH} {nx : Nat} {s : Nat} {k : IntKind} {i : Int}, idxR s (encL sz f l) (.int k i) H nx = ⟨sz = s ∧ 0 ≤ i ∧ i < l.length, True, .iptr s (fun j => ((l.map f).getD i.toNat []).getD j .undef), H, nx⟩) := by
  refine ⟨rfl, rfl, rfl, rfl, rfl, rfl, splice_nil, splice_zero, splice_succ, rfl, rfl, rfl, rfl, rfl, rfl, rfl, rfl, rfl, rfl, rfl, rfl, ?_, ?_, ?_, rfl, appendR_def, rfl, rfl, rfl, rfl, rfl, rfl, rfl, rfl, rfl, rfl, rfl, rfl, rfl, rfl, rfl, rfl, rfl, rfl, rfl⟩
  all_goals
    intro sz r q g off n
    intros
    rename_i H nx
    simp only [sliceR, slRow]
    cases H.get r q with
    | none => rfl
    | some o => cases o <;> rfl

end Go.Ab

namespace Go.Ab
open Go.RowKit

def mkRow (r q g off n : Nat) (o : Option AObj) (H : AH) (nx : Nat) : ORes := match o with
  | some (.row sz els g') => ⟨sz = 1 ∧ g = g' ∧ 0 < n, True, .own r q g off n, H.set r q (.row sz els g'), nx⟩
  | _ => bad H nx

def saRow (r q g off n : Nat) (s : ByteArray) (o : Option AObj) (H : AH) (nx : Nat) : ORes := match o with
  | some (.row sz' els g') =>
    ⟨sz' = 1 ∧ g = g' ∧ off + n ≤ els.length ∧ n + s.size ≤ 140737488355328, True, .own r q (g + 1) 0 (n + s.size), H.set r q (.row 1 ((els.drop off).take n ++ s.data.toList.map cByte) (g + 1)), nx⟩
  | _ => bad H nx

def s3Row (sz r q g off n : Nat) (b c : Int) (o : Option AObj) (H : AH) (nx : Nat) : ORes := match o with
  | some (.row sz' _ g') => ⟨sz' = sz ∧ g = g' ∧ 0 ≤ b ∧ b ≤ c ∧ c ≤ n, True, .own r q g off b.toNat, H, nx⟩
  | _ => bad H nx

def eqTo (neg : Bool) (o : Option Bool) (H : AH) (nx : Nat) : ORes := match o with
  | some t => ⟨True, True, .bool (bif neg then !t else t), H, nx⟩
  | none => bad H nx

def bsTo (ft : Prop) (lv : Bool) (o : Option (List UInt8)) (H : AH) (nx : Nat) : ORes := match o with
  | some l => ⟨ft ∧ lv = true, (AV.str ⟨l.toArray⟩).wf, .str ⟨l.toArray⟩, H, nx⟩
  | none => bad H nx

def bytesO : Option (List (List AV)) → Option (List UInt8)
  | some els => bytesOf els
  | none => none

def mlTo (str : Option IntKind) (ok : Bool) (zero k : AV) (sz g : Nat) (o : Option (Option (Nat × AV))) (H : AH) (nx : Nat) : ORes := match o with
  | some res => ⟨sz = 3 ∧ g = 0 ∧ keyOk str k, (mgot ok zero res).wf, mgot ok zero res, H, nx⟩
  | none => bad H nx

def mlRow (str : Option IntKind) (ok : Bool) (zero k : AV) (o : Option AObj) (H : AH) (nx : Nat) : ORes := match o with
  | some (.row sz (_ :: es) g) => mlTo str ok zero k sz g (mfind k es 0) H nx
  | _ => bad H nx

def msTo (str : Option IntKind) (r : Nat) (k v : AV) (sz g : Nat) (c : Int) (u u' : AV) (es : List (List AV)) (o : Option (Option (Nat × AV))) (H : AH) (nx : Nat) : ORes := match o with
  | some (some (i, _)) => ⟨sz = 3 ∧ g = 0 ∧ keyOk str k, True, .undef, H.set r 0 (.row 3 ([.int .i64 c, u, u'] :: es.set i [k, v, (es.getD i []).getD 2 .undef]) 0), nx⟩
  | some none => ⟨sz = 3 ∧ g = 0 ∧ keyOk str k ∧ c < 1152921504606846976, True, .undef, H.set r 0 (.row 3 ([.int .i64 (c + 1), u, u'] :: (es ++ [[k, v, .int .i64 c]])) 0), nx⟩
  | none => bad H nx

def msRow (str : Option IntKind) (r : Nat) (k v : AV) (o : Option AObj) (H : AH) (nx : Nat) : ORes := match o with
  | some (.row sz (hd :: es) g) => match hd with
    | [.int .i64 c, u, u'] => msTo str r k v sz g c u u' es (mfind k es 0) H nx
    | _ => bad H nx
  | _ => bad H nx

theorem b2sR_def {x : AV} {H : AH} {nx : Nat} : b2sR x H nx = bsTo (fits H x) (lenV x).isSome (bytesO (elsOf 1 x H)) H nx := by
  unfold b2sR bytesO bsTo
  cases elsOf 1 x H with
  | none => rfl
  | some els => rfl

theorem mlookR_def {str : Option IntKind} {ok : Bool} {z k : AV} {r : Nat} {H : AH} {nx : Nat} : mlookR str ok z (.mp r) k H nx = mlRow str ok z k (H.get r 0) H nx := by
  simp only [mlookR, mlRow]
  cases H.get r 0 with
  | none => rfl
  | some o =>
    cases o with
    | fam _ _ => rfl
    | row sz els g =>
      cases els with
      | nil => rfl
      | cons hd es => rfl

theorem msetR_def {str : Option IntKind} {k v : AV} {r : Nat} {H : AH} {nx : Nat} : msetR str (.mp r) k v H nx = msRow str r k v (H.get r 0) H nx := by
  simp only [msetR, msRow]
  cases H.get r 0 with
  | none => rfl
  | some o =>
    cases o with
    | fam _ _ => rfl
    | row sz els g =>
      cases els with
      | nil => rfl
      | cons hd es =>
        simp only
        split
        · rfl
        · rename_i hno
          split
          · exact (hno _ _ _ rfl).elim
          · rfl

theorem sl3R_own {sz r q g off n : Nat} {k k' : IntKind} {b c : Int} {H : AH} {nx : Nat} : sl3R sz (.own r q g off n) (.int k b) (.int k' c) H nx = s3Row sz r q g off n b c (H.get r q) H nx := by
  simp only [sl3R, s3Row]
  cases H.get r q with
  | none => rfl
  | some o => cases o <;> rfl

theorem sappR_own {r q g off n : Nat} {s : ByteArray} {H : AH} {nx : Nat} : sappR (.own r q g off n) (.str s) H nx = saRow r q g off n s (H.get r q) H nx := by
  simp only [sappR, saRow]
  cases H.get r q with
  | none => rfl
  | some o => cases o <;> rfl

theorem markR_own {r q g off n : Nat} {H : AH} {nx : Nat} : markR (.own r q g off n) H nx = mkRow r q g off n (H.get r q) H nx := by
  simp only [markR, mkRow]
  cases H.get r q with
  | none => rfl
  | some o => cases o <;> rfl

theorem bytesOf_map {l : List UInt8} : bytesOf (l.map cByte) = some l := by
  induction l with
  | nil => rfl
  | cons b l ih => simp [bytesOf, cByte, ih]

theorem evX :
  (∀ {r q g i f : Nat} {H : AH} {nx : Nat}, xopR .nilck [.ptr r q g i f] H nx = ⟨True, True, .ptr r q g i f, H, nx⟩) ∧
  (∀ {n : Nat} {c : Nat → AV} {H : AH} {nx : Nat}, xopR .nilck [.iptr n c] H nx = ⟨True, True, .iptr n c, H, nx⟩) ∧
  (∀ {n : Nat} {c : List AV} {H : AH} {nx : Nat}, xopR .nilck [encP n c] H nx = ⟨True, True, encP n c, H, nx⟩) ∧
  (∀ {neg : Bool} {a b : ByteArray} {H : AH} {nx : Nat}, xopR (.seq neg) [.str a, .str b] H nx = ⟨True, True, .bool (bif neg then !decide (a = b) else decide (a = b)), H, nx⟩) ∧
  (∀ {s : ByteArray} {k : IntKind} {i : Int} {H : AH} {nx : Nat}, xopR .sidx [.str s, .int k i] H nx = ⟨0 ≤ i ∧ i < s.size, True, .int .u8 (byteAt s i.toNat), H, nx⟩) ∧
  (∀ {s : ByteArray} {H : AH} {nx : Nat}, xopR .s2b [.str s] H nx = ⟨True, True, .own nx 0 0 0 s.size, H.set nx 0 (.row 1 (s.data.toList.map cByte) 0), nx + 1⟩) ∧
  (∀ {x : AV} {H : AH} {nx : Nat}, xopR .b2s [x] H nx = bsTo (fits H x) (lenV x).isSome (bytesO (elsOf 1 x H)) H nx) ∧
  (∀ {ft : Prop} {lv : Bool} {l : List UInt8} {H : AH} {nx : Nat}, bsTo ft lv (some l) H nx = ⟨ft ∧ lv = true, (⟨l.toArray⟩ : ByteArray).size ≤ big, .str ⟨l.toArray⟩, H, nx⟩) ∧
  (∀ {els : List (List AV)}, bytesO (some els) = bytesOf els) ∧
  (∀ {l : List UInt8}, bytesOf (l.map cByte) = some l) ∧
  (∀ {r q g off n : Nat} {H : AH} {nx : Nat}, xopR .mark [.own r q g off n] H nx = mkRow r q g off n (H.get r q) H nx) ∧
  (∀ {r q g off n sz g' : Nat} {els : List (List AV)} {H : AH} {nx : Nat}, mkRow r q g off n (some (.row sz els g')) H nx = ⟨sz = 1 ∧ g = g' ∧ 0 < n, True, .own r q g off n, H.set r q (.row sz els g'), nx⟩) ∧
  (∀ {r q g off n : Nat} {s : ByteArray} {H : AH} {nx : Nat}, xopR .sapp [.own r q g off n, .str s] H nx = saRow r q g off n s (H.get r q) H nx) ∧
  (∀ {r q g off n sz g' : Nat} {s : ByteArray} {els : List (List AV)} {H : AH} {nx : Nat}, saRow r q g off n s (some (.row sz els g')) H nx =
    ⟨sz = 1 ∧ g = g' ∧ off + n ≤ els.length ∧ n + s.size ≤ 140737488355328, True, .own r q (g + 1) 0 (n + s.size), H.set r q (.row 1 ((els.drop off).take n ++ s.data.toList.map cByte) (g + 1)), nx⟩) ∧
  (∀ {s : ByteArray} {H : AH} {nx : Nat}, xopR .sapp [.nilsl, .str s] H nx = ⟨s.size ≤ 140737488355328, True, .own nx 0 0 0 s.size, H.set nx 0 (.row 1 (s.data.toList.map cByte) 0), nx + 1⟩) ∧
  (∀ {s : ByteArray} {H : AH} {nx : Nat}, xopR .sapp [.cut, .str s] H nx = ⟨s.size ≤ 140737488355328, True, .own nx 0 0 0 s.size, H.set nx 0 (.row 1 (s.data.toList.map cByte) 0), nx + 1⟩) ∧
  (∀ {k k' : IntKind} {a b : Int} {H : AH} {nx : Nat}, xopR .min [.int k a, .int k' b] H nx = ⟨k = k', True, .int k (if b < a then b else a), H, nx⟩) ∧
  (∀ {k k' : IntKind} {a b : Int} {H : AH} {nx : Nat}, xopR .max [.int k a, .int k' b] H nx = ⟨k = k', True, .int k (if a < b then b else a), H, nx⟩) ∧
  (∀ {neg : Bool} {ss : List Nat} {a b : List AV} {H : AH} {nx : Nat}, xopR (.eqs neg ss) [.agg a, .agg b] H nx = eqTo neg (eqCells ss a b) H nx) ∧
  (∀ {neg t : Bool} {H : AH} {nx : Nat}, eqTo neg (some t) H nx = ⟨True, True, .bool (bif neg then !t else t), H, nx⟩) ∧
  (eqCells [] [] [] = some true) ∧
  (∀ {s : List Nat} {k : IntKind} {a b : Int} {l m : List AV}, eqCells (0 :: s) (.int k a :: l) (.int k b :: m) = (eqCells s l m).map (decide (a = b) && ·)) ∧
  (∀ {s : List Nat} {a b : ByteArray} {l m : List AV}, eqCells (1 :: s) (.str a :: l) (.str b :: m) = (eqCells s l m).map (decide (a = b) && ·)) ∧
  (∀ {s : List Nat} {a b : Bool} {l m : List AV}, eqCells (2 :: s) (.bool a :: l) (.bool b :: m) = (eqCells s l m).map ((a == b) && ·)) ∧
  (∀ {f : Bool → Bool} {a : Bool}, Option.map f (some a) = some (f a)) ∧
  (∀ {sz r q g off n : Nat} {k k' : IntKind} {b c : Int} {H : AH} {nx : Nat}, xopR (.sl3 sz) [.own r q g off n, .int k b, .int k' c] H nx = s3Row sz r q g off n b c (H.get r q) H nx) ∧
  (∀ {sz r q g off n sz' g' : Nat} {b c : Int} {els : List (List AV)} {H : AH} {nx : Nat}, s3Row sz r q g off n b c (some (.row sz' els g')) H nx = ⟨sz' = sz ∧ g = g' ∧ 0 ≤ b ∧ b ≤ c ∧ c ≤ n, True, .own r q g off b.toNat, H, nx⟩) ∧
  (∀ {sz : Nat} {k k' : IntKind} {b c : Int} {H : AH} {nx : Nat}, xopR (.sl3 sz) [.nilsl, .int k b, .int k' c] H nx = ⟨b = 0 ∧ c = 0, True, .nilsl, H, nx⟩) ∧
  (∀ {H : AH} {nx : Nat}, xopR .mkmap [] H nx = ⟨True, True, .mp nx, H.set nx 0 (.row 3 [[.int .i64 0, .undef, .undef]] 0), nx + 1⟩) ∧
  (∀ {str : Option IntKind} {ok : Bool} {z k : AV} {r : Nat} {H : AH} {nx : Nat}, xopR (.mlook str ok z) [.mp r, k] H nx = mlRow str ok z k (H.get r 0) H nx) ∧
  (∀ {str : Option IntKind} {ok : Bool} {z k : AV} {sz g : Nat} {hd : List AV} {es : List (List AV)} {H : AH} {nx : Nat}, mlRow str ok z k (some (.row sz (hd :: es) g)) H nx = mlTo str ok z k sz g (mfind k es 0) H nx) ∧
  (∀ {str : Option IntKind} {ok : Bool} {z k : AV} {sz g : Nat} {res : Option (Nat × AV)} {H : AH} {nx : Nat}, mlTo str ok z k sz g (some res) H nx = ⟨sz = 3 ∧ g = 0 ∧ keyOk str k, (mgot ok z res).wf, mgot ok z res, H, nx⟩) ∧
  (∀ {str : Option IntKind} {k v : AV} {r : Nat} {H : AH} {nx : Nat}, xopR (.mset str) [.mp r, k, v] H nx = msRow str r k v (H.get r 0) H nx) ∧
  (∀ {str : Option IntKind} {k v : AV} {r sz g : Nat} {c : Int} {u u' : AV} {es : List (List AV)} {H : AH} {nx : Nat}, msRow str r k v (some (.row sz ([.int .i64 c, u, u'] :: es) g)) H nx = msTo str r k v sz g c u u' es (mfind k es 0) H nx) ∧
  (∀ {str : Option IntKind} {k v : AV} {r sz g i : Nat} {c : Int} {u u' x : AV} {es : List (List AV)} {H : AH} {nx : Nat}, msTo str r k v sz g c u u' es (some (some (i, x))) H nx =
    ⟨sz = 3 ∧ g = 0 ∧ keyOk str k, True, .undef, H.set r 0 (.row 3 ([.int .i64 c, u, u'] :: es.set i [k, v, (es.getD i []).getD 2 .undef]) 0), nx⟩) ∧
  (∀ {str : Option IntKind} {k v : AV} {r sz g : Nat} {c : Int} {u u' : AV} {es : List (List AV)} {H : AH} {nx : Nat}, msTo str r k v sz g c u u' es (some none) H nx =
    ⟨sz = 3 ∧ g = 0 ∧ keyOk str k ∧ c < 1152921504606846976, True, .undef, H.set r 0 (.row 3 ([.int .i64 (c + 1), u, u'] :: (es ++ [[k, v, .int .i64 c]])) 0), nx⟩) ∧
  (∀ {q k : IntKind} {n : Int}, keyOk (some q) (.int k n) = (q = k)) ∧ (∀ {s : ByteArray}, keyOk none (.str s) = True) ∧
  (∀ {z : AV} {r : Option (Nat × AV)}, mgot false z r = mval z r) ∧ (∀ {z : AV} {r : Option (Nat × AV)}, mgot true z r = .tup [mval z r, .bool r.isSome]) ∧
  (∀ {z v : AV} {i : Nat}, mval z (some (i, v)) = v) ∧ (∀ {z : AV}, mval z none = z) ∧
  (∀ {r : Nat}, AV.cells (.mp r) = [.mp r]) ∧ (AV.cells .nilmp = [.nilmp]) ∧ (∀ {r : Nat}, AV.cells (.it r) = [.it r]) ∧
  (∀ {r : Nat}, AV.solid (.mp r) = true) ∧ (AV.solid .nilmp = true) ∧ (∀ {r : Nat}, AV.solid (.it r) = true) ∧
  (∀ {r : Nat}, AV.wf (.mp r) = True) ∧ (AV.wf .nilmp = True) ∧ (∀ {r : Nat}, AV.wf (.it r) = True) ∧
  (∀ {s : ByteArray} {H : AH} {nx : Nat}, slenR (.str s) H nx = ⟨True, s.size ≤ big, .int .i64 s.size, H, nx⟩) ∧
  (∀ {b : Bool}, (!!b) = b) := by
  refine ⟨rfl, rfl, rfl, rfl, rfl, rfl, b2sR_def, rfl, rfl, bytesOf_map, markR_own, rfl, sappR_own, rfl, rfl, rfl, rfl, rfl, ?_, rfl, ?_, ?_, ?_, ?_, rfl, @fun sz r q g off n k k' b c H nx => sl3R_own (k := k) (k' := k'), rfl, rfl, rfl, mlookR_def, rfl, rfl, msetR_def, rfl, rfl, rfl, rfl, rfl, rfl, rfl, rfl, rfl, rfl, rfl, rfl, rfl, rfl, rfl, rfl, rfl, rfl, rfl, by simp⟩
  · intro neg ss a b H nx
    show eqsR neg ss (.agg a) (.agg b) H nx = _
    unfold eqsR eqTo
    simp only
    cases h : eqCells ss a b <;> simp only [h]
  · simp [eqCells]
  · intro s k a b l m; simp [eqCells]
  · intro s a b l m; simp [eqCells]
  · intro s a b l m; simp [eqCells]

end Go.Ab

namespace Go.Ab
open Go.RowKit

section
variable {H HH : AH} {σ : Nat → Nat → Option (Nat × Nat × Nat)} {D : Nat → Nat → Prop} {t : Bool}

theorem vw_int_iff {k k' : IntKind} {n m : Int} : Vw H HH σ D t (.int k n) (.int k' m) = (k = k' ∧ n = m) := by
  refine propext ⟨fun h => by cases h; exact ⟨rfl, rfl⟩, ?_⟩
  rintro ⟨rfl, rfl⟩
  exact .int _ _ _
theorem vw_bool_iff {a b : Bool} : Vw H HH σ D t (.bool a) (.bool b) = (a = b) := by
  refine propext ⟨fun h => by cases h; rfl, ?_⟩
  rintro rfl
  exact .bool _ _
theorem vw_own_iff {r q g o n r' q' g' o' n' : Nat} : Vw H HH σ D true (.own r q g o n) (.own r' q' g' o' n') = ((σ r' q' = some (r, q, g - g') ∧ g' ≤ g) ∧ o = o' ∧ n = n') := by
  refine propext ⟨fun h => ?_, ?_⟩
  · cases h
    rename_i d hs hg
    subst hg
    exact ⟨⟨by rw [hs, Nat.add_sub_cancel_left], by omega⟩, rfl, rfl⟩
  · rintro ⟨⟨h1, h2⟩, rfl, rfl⟩
    exact .own r q g (g - g') o n r' q' g' h1 (by omega)
theorem vw_ptr_iff {r q g i f r' q' g' i' f' : Nat} : Vw H HH σ D true (.ptr r q g i f) (.ptr r' q' g' i' f') = ((σ r' q' = some (r, q, g - g') ∧ g' ≤ g) ∧ i = i' ∧ f = f') := by
  refine propext ⟨fun h => ?_, ?_⟩
  · cases h
    rename_i d hs hg
    subst hg
    exact ⟨⟨by rw [hs, Nat.add_sub_cancel_left], by omega⟩, rfl, rfl⟩
  · rintro ⟨⟨h1, h2⟩, rfl, rfl⟩
    exact .ptr r q g (g - g') i f r' q' g' h1 (by omega)

/-- Lists of values, one by one. -/
def VwL (H HH : AH) (σ : Nat → Nat → Option (Nat × Nat × Nat)) (D : Nat → Nat → Prop) (t : Bool) : List AV → List AV → Prop
  | [], [] => True
  | a :: l, b :: m => Vw H HH σ D t a b ∧ VwL H HH σ D t l m
  | _, _ => False

theorem VwL.get : ∀ {l m : List AV}, VwL H HH σ D t l m → l.length = m.length ∧ ∀ (i : Nat) (a b : AV), l[i]? = some a → m[i]? = some b → Vw H HH σ D t a b
  | [], [], _ => ⟨rfl, fun i a b h => by cases h⟩
  | a :: l, b :: m, h => by
    obtain ⟨h1, h2⟩ := VwL.get h.2
    refine ⟨by simp [h1], fun i x y hx hy => ?_⟩
    cases i with
    | zero => cases hx; cases hy; exact h.1
    | succ i => exact h2 i x y (by simpa using hx) (by simpa using hy)
  | [], b :: m, h => h.elim
  | a :: l, [], h => h.elim

theorem VwL.of : ∀ {l m : List AV}, l.length = m.length → (∀ (i : Nat) (a b : AV), l[i]? = some a → m[i]? = some b → Vw H HH σ D t a b) → VwL H HH σ D t l m
  | [], [], _, _ => trivial
  | a :: l, b :: m, h, hh => ⟨hh 0 a b rfl rfl, VwL.of (by simpa using h) (fun i x y hx hy => hh (i + 1) x y (by simpa using hx) (by simpa using hy))⟩
  | [], b :: m, h, _ => by cases h
  | a :: l, [], h, _ => by cases h

theorem vw_fn_iff {f f' : Fn} {l m : List AV} : Vw H HH σ D t (.fn f l) (.fn f' m) = (f = f' ∧ VwL H HH σ D t l m) := by
  refine propext ⟨fun h => ?_, ?_⟩
  · cases h with
    | fn _ _ _ _ hl h => exact ⟨rfl, VwL.of hl h⟩
  · rintro ⟨rfl, h⟩
    exact .fn _ _ _ _ h.get.1 h.get.2
theorem vw_agg_iff {l m : List AV} : Vw H HH σ D t (.agg l) (.agg m) = VwL H HH σ D t l m := by
  refine propext ⟨fun h => ?_, fun h => .agg _ _ _ h.get.1 h.get.2⟩
  cases h with
  | agg _ _ _ hl h => exact VwL.of hl h
theorem vw_tup_iff {l m : List AV} : Vw H HH σ D t (.tup l) (.tup m) = VwL H HH σ D t l m := by
  refine propext ⟨fun h => ?_, fun h => .tup _ _ _ h.get.1 h.get.2⟩
  cases h with
  | tup _ _ _ hl h => exact VwL.of hl h

theorem vw_new_iff {r' q' g' o n : Nat} : Vw H HH σ D true .nilsl (.own r' q' g' o n) = (σ r' q' = none ∧ (∃ sz, HH.get r' q' = some (.row sz [] 0)) ∧ g' = 0 ∧ o = 0 ∧ n = 0) := by
  refine propext ⟨fun h => ?_, ?_⟩
  · cases h with
    | new _ _ sz hs hg => exact ⟨hs, ⟨sz, hg⟩, rfl, rfl, rfl⟩
  · rintro ⟨h1, ⟨sz, h2⟩, rfl, rfl, rfl⟩
    exact .new _ _ sz h1 h2

/-- A row, seen otherwise. -/
def rowIs (H HH : AH) (σ : Nat → Nat → Option (Nat × Nat × Nat)) (D : Nat → Nat → Prop) (sz : Nat) (els2 : List (List AV)) (g : Nat) (o : Option AObj) : Prop := match o with
  | some (.row sz' els g') => (sz' = sz ∧ g' = g) ∧ RowV H HH σ D els els2
  | _ => False

def rowAt (H HH : AH) (tb : Tab) (ds : List Nat) (sz : Nat) (els2 : List (List AV)) (g2 : Nat) : Option (Nat × Nat) → Prop
  | some (r, d) => rowIs H HH tb.sig (inD ds) sz els2 (g2 + d) (H.get r 0)
  | none => els2 = [] ∧ g2 = 0

theorem rowsV_row_iff {tb : Tab} {ds : List Nat} {n r' sz g2 : Nat} {els2 : List (List AV)} {u : AH} :
    rowsV H HH tb ds n ((r', .row sz els2 g2) :: u) = (r' < n ∧ rowAt H HH tb ds sz els2 g2 (tb.at r') ∧ rowsV H HH tb ds n u) := by
  simp only [rowsV, Nat.blt_eq]
  congr 2
  cases tb.at r' with
  | none => rfl
  | some p =>
    obtain ⟨r, d⟩ := p
    simp only [rowAt, rowIs]
    refine propext ⟨?_, fun h => ?_⟩
    · rintro ⟨els, h1, h2⟩
      rw [h1]
      exact ⟨⟨rfl, rfl⟩, h2⟩
    · cases ho : H.get r 0 with
      | none => rw [ho] at h; exact h.elim
      | some o =>
        rw [ho] at h
        cases o with
        | fam _ _ => exact h.elim
        | row sz' els g' =>
          obtain ⟨⟨rfl, rfl⟩, h⟩ := h
          exact ⟨els, rfl, h⟩

theorem rowV_flat {els : List (List AV)} (h : ∀ c ∈ els, allFlat c = true) : RowV H HH σ D els els := by
  refine ⟨rfl, fun i c2 hi => ?_⟩
  refine ⟨c2, hi, rfl, fun j x y h1 h2 => ?_⟩
  rw [h1] at h2
  cases h2
  exact vw_flat0 (allFlat_get (h c2 (List.mem_of_getElem? hi)) h1)

theorem rowV_refl_iff {els : List (List AV)} (h : ∀ c ∈ els, allFlat c = true) : RowV H HH σ D els els = True := eq_true (rowV_flat h)

/-- Rows without references. -/
def FlatRows (els : List (List AV)) : Prop := ∀ c ∈ els, allFlat c = true
theorem flatRows_nil : FlatRows [] = True := by simp [FlatRows]
theorem flatRows_cons {c : List AV} {l : List (List AV)} : FlatRows (c :: l) = (allFlat c = true ∧ FlatRows l) := by simp [FlatRows]
theorem flatRows_append {l m : List (List AV)} : FlatRows (l ++ m) = (FlatRows l ∧ FlatRows m) := by
  unfold FlatRows
  simp only [List.mem_append, eq_iff_iff]
  exact ⟨fun h => ⟨fun c hc => h c (.inl hc), fun c hc => h c (.inr hc)⟩, fun h c hc => hc.elim (h.1 c) (h.2 c)⟩
theorem flatRows_map {α : Type} {f : α → List AV} {l : List α} : FlatRows (l.map f) = ∀ a ∈ l, allFlat (f a) = true := by simp [FlatRows]
theorem flatRows_rep {n : Nat} {c : List AV} (h : allFlat c = true) : FlatRows (List.replicate n c) = True := by
  refine eq_true fun x hx => ?_
  rw [(List.mem_replicate.1 hx).2]
  exact h
theorem flatRows_set {l : List (List AV)} {i : Nat} {c : List AV} (h : allFlat c = true) (hl : FlatRows l) : FlatRows (l.set i c) = True := by
  refine eq_true fun x hx => ?_
  rcases List.mem_or_eq_of_mem_set hx with hx | rfl
  · exact hl x hx
  · exact h

theorem rowV_snoc {A : List (List AV)} {a b : List AV} (h : FlatRows A) : RowV H HH σ D (A ++ [a]) (A ++ [b]) = VwL H HH σ D true a b := by
  refine propext ⟨fun hr => ?_, fun hv => ?_⟩
  · obtain ⟨c, h1, h2, h3⟩ := hr.2 A.length b (by simp)
    simp at h1
    subst h1
    exact VwL.of h2.symm h3
  · refine ⟨by simp, fun i c2 hi => ?_⟩
    by_cases hlt : i < A.length
    · rw [List.getElem?_append_left hlt] at hi
      refine ⟨c2, by rw [List.getElem?_append_left hlt]; exact hi, rfl, fun j x y h1 h2 => ?_⟩
      rw [h1] at h2
      cases h2
      exact vw_flat0 (allFlat_get (h c2 (List.mem_of_getElem? hi)) h1)
    · have he : i = A.length := by
        have := (List.getElem?_eq_some_iff.1 hi).1
        simp at this
        omega
      subst he
      simp at hi
      subst hi
      exact ⟨a, by simp, hv.get.1.symm, hv.get.2⟩

abbrev cI (n : Int) : List AV := [.int .i64 n]
abbrev cN (n : Nat) : List AV := [.int .i64 (n : Int)]
theorem rowV_nil_iff : RowV H HH σ D [] [] = True := eq_true (rowV_flat (by simp))
theorem rowV_one {a b : List AV} : RowV H HH σ D [a] [b] = VwL H HH σ D true a b := by
  refine propext ⟨fun h => ?_, fun h => ?_⟩
  · obtain ⟨c, h1, h2, h3⟩ := h.2 0 b rfl
    cases h1
    exact VwL.of h2.symm h3
  · refine ⟨rfl, fun i c2 hi => ?_⟩
    cases i with
    | zero => cases hi; exact ⟨a, rfl, h.get.1.symm, h.get.2⟩
    | succ i => simp at hi

theorem sig_nil {r' q' : Nat} : Tab.sig [] r' q' = none := rfl
theorem sig_cons {a b d r' q' : Nat} {tb : Tab} : Tab.sig ((a, b, d) :: tb) r' q' = bif a == r' then some (b, q', d) else Tab.sig tb r' q' := by
  unfold Tab.sig
  simp only [Tab.at, beq_eq]
  cases a == r' <;> rfl
theorem at_nil {x : Nat} : Tab.at [] x = none := rfl
theorem at_cons {a b d x : Nat} {tb : Tab} : Tab.at ((a, b, d) :: tb) x = bif a == x then some (b, d) else Tab.at tb x := by simp only [Tab.at, beq_eq]

end

theorem take_map_len {α β : Type} {f : α → β} {l : List α} : (l.map f).take l.length = l.map f := by rw [List.take_of_length_le (by simp)]

/-- Small equations, in one. -/
theorem evU : (∀ {α β : Type} {f : α → β} {asv : List α}, (asv.map f).length = asv.length) ∧ (∀ {α β : Type} {f : α → β} {l : List α}, (l.map f).take l.length = l.map f) ∧ (∀ {α : Type} {l : List α}, l.take l.length = l) ∧
    (∀ n : Nat, n * 1 = n) ∧ (∀ n : Nat, 1 * n = n) ∧ ((!true) = false) ∧ ((!false) = true) ∧ (∀ {α β : Type} {f : α → β} {a : α}, (some a).map f = some (f a)) ∧ (∀ {h : Decidable True}, @decide True h = true) ∧ (∀ {h : Decidable False}, @decide False h = false) ∧
    (∀ b : Bool, (false != b) = b) ∧ (∀ b : Bool, (true != b) = !b) ∧ (∀ b : Bool, (b != false) = b) ∧ (∀ b : Bool, (b != true) = !b) :=
  ⟨List.length_map _, take_map_len, List.take_length, Nat.mul_one, Nat.one_mul, rfl, rfl, rfl, decide_true _, decide_false _, Bool.false_bne, Bool.true_bne, Bool.bne_false, Bool.bne_true⟩

theorem evV : (∀ n : Nat, (n < n) = False) ∧ (∀ {α β : Type} {f : α → β} {a b : List α}, (a ++ b).map f = a.map f ++ b.map f) ∧ (∀ {α β : Type} {f : α → β} {a : α} {l : List α}, (a :: l).map f = f a :: l.map f) ∧ (∀ {α β : Type} {f : α → β}, [].map f = []) ∧
    (∀ {α : Type} {a b : List α}, (a ++ b).length = a.length + b.length) ∧ (∀ {α : Type} {a : α} {l : List α}, (a :: l).length = l.length + 1) ∧ (∀ {α : Type}, ([] : List α).length = 0) ∧ (∀ {α : Type} {p : α → Bool}, [].filter p = []) ∧ (∀ {α : Type} {l : List α}, l.take 0 = []) ∧
    (∀ {α β : Type} {f : α → β} {l : List α}, (l.map f).length = l.length) ∧ (∀ {α : Type} {n : Nat} {a : α}, (List.replicate n a).length = n) ∧ (∀ {α : Type} {l : List α} {i : Nat} {a : α}, (l.set i a).length = l.length) ∧
    (∀ a b : Nat, ((a + b : Nat) : Int) = a + b) ∧ (∀ a : Int, 0 + a = a) ∧ (∀ n : Nat, n + 0 = n) ∧ (∀ n : Nat, n - n = 0) ∧ (∀ n : Nat, n - 0 = n) :=
  ⟨fun _ => eq_false (Nat.lt_irrefl _), List.map_append, rfl, rfl, List.length_append, rfl, rfl, rfl, List.take_zero, List.length_map _, List.length_replicate, List.length_set, Int.natCast_add, Int.zero_add, Nat.add_zero, Nat.sub_self, Nat.sub_zero⟩

/-- What is known, seen otherwise. -/
theorem evW :
  (∀ {H HH : AH} {tb : Tab} {ds : List Nat} {K : Kn}, slotsV H HH tb ds [] K = True) ∧
  (∀ {H HH : AH} {tb : Tab} {ds : List Nat} {K : Kn} {j : Nat} {v : AV} {u : Kn}, slotsV H HH tb ds ((j, v) :: u) K = (Vw H HH tb.sig (inD ds) true (K.get j) v ∧ slotsV H HH tb ds u K)) ∧
  (∀ {H HH : AH} {tb : Tab} {ds : List Nat} {n : Nat}, rowsV H HH tb ds n [] = True) ∧
  (∀ {H HH : AH} {tb : Tab} {ds : List Nat} {n r' sz g2 : Nat} {els2 : List (List AV)} {u : AH}, rowsV H HH tb ds n ((r', .row sz els2 g2) :: u) = (r' < n ∧ rowAt H HH tb ds sz els2 g2 (tb.at r') ∧ rowsV H HH tb ds n u)) ∧
  (∀ {H HH : AH} {tb : Tab} {ds : List Nat} {sz g2 r d : Nat} {els2 : List (List AV)}, rowAt H HH tb ds sz els2 g2 (some (r, d)) = rowIs H HH tb.sig (inD ds) sz els2 (g2 + d) (H.get r 0)) ∧
  (∀ {H HH : AH} {tb : Tab} {ds : List Nat} {sz g2 : Nat} {els2 : List (List AV)}, rowAt H HH tb ds sz els2 g2 none = (els2 = [] ∧ g2 = 0)) ∧
  (∀ {H HH : AH} {σ : Nat → Nat → Option (Nat × Nat × Nat)} {D : Nat → Nat → Prop} {sz g sz' g' : Nat} {els els2 : List (List AV)}, rowIs H HH σ D sz els2 g (some (.row sz' els g')) = ((sz' = sz ∧ g' = g) ∧ RowV H HH σ D els els2)) ∧
  (∀ {H HH : AH} {σ : Nat → Nat → Option (Nat × Nat × Nat)} {D : Nat → Nat → Prop}, RowV H HH σ D [] [] = True) ∧
  (∀ {H HH : AH} {σ : Nat → Nat → Option (Nat × Nat × Nat)} {D : Nat → Nat → Prop} {A : List (List AV)} {a b : List AV}, FlatRows A → RowV H HH σ D (A ++ [a]) (A ++ [b]) = VwL H HH σ D true a b) ∧
  (∀ {H HH : AH} {σ : Nat → Nat → Option (Nat × Nat × Nat)} {D : Nat → Nat → Prop} {els : List (List AV)}, FlatRows els → RowV H HH σ D els els = True) ∧
  (FlatRows [] = True) ∧ (∀ {c : List AV} {l : List (List AV)}, FlatRows (c :: l) = (allFlat c = true ∧ FlatRows l)) ∧ (∀ {l m : List (List AV)}, FlatRows (l ++ m) = (FlatRows l ∧ FlatRows m)) ∧
  (∀ {α : Type} {f : α → List AV} {l : List α}, FlatRows (l.map f) = ∀ a ∈ l, allFlat (f a) = true) ∧ (∀ {n : Nat} {c : List AV}, allFlat c = true → FlatRows (List.replicate n c) = True) ∧
  (∀ {l : List (List AV)} {i : Nat} {c : List AV}, allFlat c = true → FlatRows l → FlatRows (l.set i c) = True) ∧
  (∀ {H HH : AH} {σ : Nat → Nat → Option (Nat × Nat × Nat)} {D : Nat → Nat → Prop} {t : Bool} {a : AV}, a.flat0 = true → Vw H HH σ D t a a = True) ∧
  (∀ {H HH : AH} {σ : Nat → Nat → Option (Nat × Nat × Nat)} {D : Nat → Nat → Prop} {a b : List AV}, RowV H HH σ D [a] [b] = VwL H HH σ D true a b) ∧
  (∀ {H HH : AH} {σ : Nat → Nat → Option (Nat × Nat × Nat)} {D : Nat → Nat → Prop} {t : Bool}, VwL H HH σ D t [] [] = True) ∧
  (∀ {H HH : AH} {σ : Nat → Nat → Option (Nat × Nat × Nat)} {D : Nat → Nat → Prop} {t : Bool} {a b : AV} {l m : List AV}, VwL H HH σ D t (a :: l) (b :: m) = (Vw H HH σ D t a b ∧ VwL H HH σ D t l m)) ∧
  (∀ {H HH : AH} {σ : Nat → Nat → Option (Nat × Nat × Nat)} {D : Nat → Nat → Prop} {t : Bool} {k k' : IntKind} {n m : Int}, Vw H HH σ D t (.int k n) (.int k' m) = (k = k' ∧ n = m)) ∧
  (∀ {H HH : AH} {σ : Nat → Nat → Option (Nat × Nat × Nat)} {D : Nat → Nat → Prop} {t : Bool} {a b : Bool}, Vw H HH σ D t (.bool a) (.bool b) = (a = b)) ∧
  (∀ {H HH : AH} {σ : Nat → Nat → Option (Nat × Nat × Nat)} {D : Nat → Nat → Prop} {r q g o n r' q' g' o' n' : Nat}, Vw H HH σ D true (.own r q g o n) (.own r' q' g' o' n') = ((σ r' q' = some (r, q, g - g') ∧ g' ≤ g) ∧ o = o' ∧ n = n')) ∧
  (∀ {H HH : AH} {σ : Nat → Nat → Option (Nat × Nat × Nat)} {D : Nat → Nat → Prop} {r q g i f r' q' g' i' f' : Nat}, Vw H HH σ D true (.ptr r q g i f) (.ptr r' q' g' i' f') = ((σ r' q' = some (r, q, g - g') ∧ g' ≤ g) ∧ i = i' ∧ f = f')) ∧
  (∀ {H HH : AH} {σ : Nat → Nat → Option (Nat × Nat × Nat)} {D : Nat → Nat → Prop} {t : Bool} {f f' : Fn} {l m : List AV}, Vw H HH σ D t (.fn f l) (.fn f' m) = (f = f' ∧ VwL H HH σ D t l m)) ∧
  (∀ {H HH : AH} {σ : Nat → Nat → Option (Nat × Nat × Nat)} {D : Nat → Nat → Prop} {t : Bool} {l m : List AV}, Vw H HH σ D t (.agg l) (.agg m) = VwL H HH σ D t l m) ∧
  (∀ {H HH : AH} {σ : Nat → Nat → Option (Nat × Nat × Nat)} {D : Nat → Nat → Prop} {t : Bool} {l m : List AV}, Vw H HH σ D t (.tup l) (.tup m) = VwL H HH σ D t l m) ∧
  (∀ {H HH : AH} {σ : Nat → Nat → Option (Nat × Nat × Nat)} {D : Nat → Nat → Prop} {r' q' g' o n : Nat}, Vw H HH σ D true .nilsl (.own r' q' g' o n) = (σ r' q' = none ∧ (∃ sz, HH.get r' q' = some (.row sz [] 0)) ∧ g' = 0 ∧ o = 0 ∧ n = 0)) ∧
  (∀ {H HH : AH} {σ : Nat → Nat → Option (Nat × Nat × Nat)} {D : Nat → Nat → Prop} {t : Bool} {a : AV}, Vw H HH σ D t a .undef = True) ∧
  (∀ {H HH : AH} {σ : Nat → Nat → Option (Nat × Nat × Nat)} {D : Nat → Nat → Prop} {t : Bool}, Vw H HH σ D t .nilsl .nilsl = True) ∧
  (∀ {H HH : AH} {σ : Nat → Nat → Option (Nat × Nat × Nat)} {D : Nat → Nat → Prop} {t : Bool}, Vw H HH σ D t .nilfn .nilfn = True) ∧
  (∀ {H HH : AH} {σ : Nat → Nat → Option (Nat × Nat × Nat)} {D : Nat → Nat → Prop} {t : Bool}, Vw H HH σ D t .nilp .nilp = True) ∧
  (∀ {H HH : AH} {σ : Nat → Nat → Option (Nat × Nat × Nat)} {D : Nat → Nat → Prop} {t : Bool}, Vw H HH σ D t .cut .cut = True) ∧
  (∀ {H HH : AH} {σ : Nat → Nat → Option (Nat × Nat × Nat)} {D : Nat → Nat → Prop} {t : Bool} {s : ByteArray}, Vw H HH σ D t (.str s) (.str s) = True) ∧
  (∀ {H HH : AH} {σ : Nat → Nat → Option (Nat × Nat × Nat)} {D : Nat → Nat → Prop} {t : Bool} {n : Nat} {c : Nat → AV}, Vw H HH σ D t (.iptr n c) (.iptr n c) = True) ∧
  (∀ {H HH : AH} {σ : Nat → Nat → Option (Nat × Nat × Nat)} {D : Nat → Nat → Prop} {t : Bool} {sz n : Nat} {f : Nat → Nat → AV}, Vw H HH σ D t (.sl sz n f) (.sl sz n f) = True) ∧
  (∀ {H HH : AH} {σ : Nat → Nat → Option (Nat × Nat × Nat)} {D : Nat → Nat → Prop} {t : Bool} {α : Type} {sz : Nat} {f : α → List AV} {l : List α}, Vw H HH σ D t (encL sz f l) (encL sz f l) = True) ∧
  (∀ {H HH : AH} {σ : Nat → Nat → Option (Nat × Nat × Nat)} {D : Nat → Nat → Prop} {t : Bool} {α : Type} {sz : Nat} {f : α → List AV}, Vw H HH σ D t .nilsl (encL sz f []) = True) ∧
  (∀ {r' q' : Nat}, Tab.sig [] r' q' = none) ∧
  (∀ {a b d r' q' : Nat} {tb : Tab}, Tab.sig ((a, b, d) :: tb) r' q' = bif a == r' then some (b, q', d) else Tab.sig tb r' q') ∧
  (∀ {x : Nat}, Tab.at [] x = none) ∧
  (∀ {a b d x : Nat} {tb : Tab}, Tab.at ((a, b, d) :: tb) x = bif a == x then some (b, d) else Tab.at tb x) ∧
  (∀ {ds : List Nat} {r q : Nat}, inD ds r q = (memN ds r = true)) := by
  refine ⟨rfl, rfl, rfl, rowsV_row_iff, rfl, rfl, rfl, rowV_nil_iff, rowV_snoc, rowV_refl_iff, flatRows_nil, flatRows_cons, flatRows_append, flatRows_map, flatRows_rep, flatRows_set, fun h => eq_true (vw_flat0 h), rowV_one, rfl, rfl, vw_int_iff, vw_bool_iff, vw_own_iff, vw_ptr_iff, vw_fn_iff, vw_agg_iff, vw_tup_iff, vw_new_iff, eq_true (.undef _ _), eq_true (.nilsl _), eq_true (.nilfn _), eq_true (.nilp _), eq_true (.cut _), eq_true (.str _ _), eq_true (.iptr _ _ _), eq_true (.sl _ _ _ _), eq_true (.sl _ _ _ _), eq_true vw_nil, sig_nil, sig_cons, at_nil, at_cons, rfl⟩

end Go.Ab

namespace Go.Ab
open Go.RowKit

/-- Where the callee's row r lies with the caller. -/
def Tab.to (tb : Tab) (nx r : Nat) : Nat := match tb.at r with
  | some (r', _) => r'
  | none => nx + r

/-- The rows numbered anew. -/
def AH.renL (ρ : Nat → Nat) : AH → AH
  | [] => []
  | (r, o) :: t => (ρ r, o.ren ρ) :: AH.renL ρ t

def AH.cutL (olds : List Nat) : AH → AH
  | [] => []
  | (r, o) :: t => bif memN olds r then AH.cutL olds t else (r, o) :: AH.cutL olds t

/-- The caller's rows behind the call. -/
def AH.over (H : AH) (tb : Tab) (nx : Nat) (H0 : AH) : AH := H.cutL (tb.map (·.2.1)) ++ H0.renL (tb.to nx)

/-- Old numbers below nx, no generation struck. -/
def Tab.plain (nx : Nat) : Tab → Bool
  | [] => true
  | (r', r, d) :: t => Nat.blt r nx && Nat.beq d 0 && !(memN (t.map (·.1)) r') && Tab.plain nx t

theorem Tab.plain_at {nx : Nat} : ∀ {t : Tab}, t.plain nx = true → ∀ {x r d}, t.at x = some (r, d) → r < nx ∧ d = 0
  | [], _, x, r, d, h => by cases h
  | (r', r0, d0) :: t, h, x, r, d, hx => by
    simp only [Tab.plain, Bool.and_eq_true] at h
    obtain ⟨⟨⟨h1, h2⟩, _⟩, h3⟩ := h
    simp only [Tab.at] at hx
    cases hb : Nat.beq r' x with
    | true => rw [hb] at hx; cases hx; exact ⟨by simpa [Nat.blt_eq] using h1, beq_true h2⟩
    | false => rw [hb] at hx; exact Tab.plain_at h3 hx

theorem Tab.at_mem : ∀ {t : Tab} {x r d}, t.at x = some (r, d) → x ∈ t.map (·.1) ∧ r ∈ t.map (·.2.1)
  | [], x, r, d, h => by cases h
  | (r', r0, d0) :: t, x, r, d, h => by
    simp only [Tab.at] at h
    cases hb : Nat.beq r' x with
    | true => rw [hb] at h; cases h; rw [← beq_true hb]; simp
    | false =>
      rw [hb] at h
      have := Tab.at_mem h
      exact ⟨by simp only [List.map_cons, List.mem_cons]; exact .inr this.1, by simp only [List.map_cons, List.mem_cons]; exact .inr this.2⟩

theorem Tab.at_of_old {nx : Nat} : ∀ {t : Tab}, t.plain nx = true → ∀ {r}, r ∈ t.map (·.2.1) → ∃ x d, t.at x = some (r, d)
  | [], _, r, h => by cases h
  | (r', r0, d0) :: t, h, r, hr => by
    simp only [Tab.plain, Bool.and_eq_true, Bool.not_eq_true'] at h
    obtain ⟨⟨_, h2⟩, h3⟩ := h
    simp only [List.map_cons, List.mem_cons] at hr
    rcases hr with rfl | hr
    · exact ⟨r', d0, by simp [Tab.at]⟩
    · obtain ⟨x, d, hx⟩ := Tab.at_of_old h3 hr
      refine ⟨x, d, ?_⟩
      have : r' ≠ x := fun e => by
        have := (memN_iff _ _).2 (Tab.at_mem hx).1
        rw [← e, h2] at this
        cases this
      simp only [Tab.at]
      rw [beq_ne this]
      exact hx

section
variable {tb : Tab} {nx nx0 : Nat} {H H0 : AH}

theorem Tab.to_inj (hok : tb.ok nx0 [] = true) (hp : tb.plain nx = true) {x y : Nat} (h : tb.to nx x = tb.to nx y) : x = y := by
  unfold Tab.to at h
  cases hx : tb.at x with
  | none =>
    cases hy : tb.at y with
    | none => rw [hx, hy] at h; simp only at h; omega
    | some p => rw [hx, hy] at h; have := (Tab.plain_at hp (d := p.2) hy).1; simp only at h; omega
  | some p =>
    cases hy : tb.at y with
    | none => rw [hx, hy] at h; have := (Tab.plain_at hp (d := p.2) hx).1; simp only at h; omega
    | some p' =>
      rw [hx, hy] at h
      simp only at h
      exact Tab.ok_inj hok (d := p.2) (e := p'.2) hx (by rw [hy, h])

theorem AH.look_append (A B : AH) (r : Nat) : AH.look (A ++ B) r = match A.look r with
    | some o => some o
    | none => B.look r := by
  induction A with
  | nil => rfl
  | cons p t ih =>
    obtain ⟨j, o⟩ := p
    simp only [List.cons_append, AH.look, ih]
    cases Nat.beq j r <;> rfl

theorem AH.look_cutL (l : List Nat) (H : AH) (r : Nat) : (H.cutL l).look r = bif memN l r then none else H.look r := by
  induction H with
  | nil => simp only [AH.cutL, AH.look]; cases memN l r <;> rfl
  | cons p t ih =>
    obtain ⟨j, o⟩ := p
    simp only [AH.cutL]
    cases hm : memN l j with
    | true =>
      simp only [cond_true, ih, AH.look]
      cases hb : Nat.beq j r with
      | true => rw [← beq_true hb, hm]; rfl
      | false => rfl
    | false =>
      simp only [cond_false, AH.look, ih]
      cases hb : Nat.beq j r with
      | true => rw [← beq_true hb, hm]; rfl
      | false => rfl

theorem AH.look_renL {ρ : Nat → Nat} (hρ : ∀ x y, ρ x = ρ y → x = y) (H : AH) (r : Nat) : (H.renL ρ).look (ρ r) = (H.look r).map (AObj.ren ρ) := by
  induction H with
  | nil => rfl
  | cons p t ih =>
    obtain ⟨j, o⟩ := p
    simp only [AH.renL, AH.look, ih]
    by_cases h : j = r
    · subst h; simp
    · rw [beq_ne h, beq_ne (fun e => h (hρ _ _ e))]; rfl

theorem AH.look_renL_no {ρ : Nat → Nat} (H : AH) (x : Nat) (hx : ∀ r, ρ r ≠ x) : (H.renL ρ).look x = none := by
  induction H with
  | nil => rfl
  | cons p t ih =>
    obtain ⟨j, o⟩ := p
    simp only [AH.renL, AH.look, ih]
    rw [beq_ne (hx j)]
    rfl

theorem AH.over_in (hok : tb.ok nx0 [] = true) (hp : tb.plain nx = true) (hH : ∀ r o, H.look r = some o → r < nx) (r q : Nat) :
    (H.over tb nx H0).get (tb.to nx r) q = (H0.get r q).map (AObj.ren (tb.to nx)) := by
  unfold AH.get AH.over
  rw [AH.look_append, AH.look_cutL, AH.look_renL (fun x y h => Tab.to_inj hok hp h)]
  have : (bif memN (tb.map (·.2.1)) (tb.to nx r) then none else H.look (tb.to nx r)) = none := by
    unfold Tab.to
    cases hx : tb.at r with
    | some p =>
      simp only
      rw [(memN_iff _ _).2 (Tab.at_mem (d := p.2) hx).2]
      rfl
    | none =>
      simp only
      cases hl : H.look (nx + r) with
      | none => cases memN (tb.map (·.2.1)) (nx + r) <;> rfl
      | some o => have := hH _ _ hl; omega
  rw [this]
  simp only
  cases H0.look r with
  | none => rfl
  | some o => simp [AObj.part_ren]

theorem AH.over_out (r q : Nat) (hp : tb.plain nx = true) (hr : ∀ r0, tb.to nx r0 ≠ r) : (H.over tb nx H0).get r q = H.get r q := by
  unfold AH.get AH.over
  rw [AH.look_append, AH.look_cutL, AH.look_renL_no _ _ hr]
  have : memN (tb.map (·.2.1)) r = false := by
    cases hm : memN (tb.map (·.2.1)) r with
    | false => rfl
    | true =>
      obtain ⟨x, d, hx⟩ := Tab.at_of_old hp ((memN_iff _ _).1 hm)
      exact absurd (by unfold Tab.to; rw [hx]) (hr x)
  rw [this]
  simp only [cond_false]
  cases H.look r <;> rfl

theorem AH.over_lt (hok : tb.ok nx0 [] = true) (hp : tb.plain nx = true) (hH : ∀ r o, H.look r = some o → r < nx) {nx' : Nat} (h0 : ∀ r o, H0.look r = some o → r < nx') (r : Nat) (o : AObj) (h : (H.over tb nx H0).look r = some o) : r < nx + nx' := by
  unfold AH.over at h
  rw [AH.look_append, AH.look_cutL] at h
  cases hl : H.look r with
  | some o' => have := hH _ _ hl; omega
  | none =>
    rw [hl] at h
    have h2 : (H0.renL (tb.to nx)).look r = some o := by cases hm : memN (tb.map (·.2.1)) r <;> rw [hm] at h <;> exact h
    by_cases hx : ∃ r0, tb.to nx r0 = r
    · obtain ⟨r0, rfl⟩ := hx
      rw [AH.look_renL (fun x y h => Tab.to_inj hok hp h)] at h2
      obtain ⟨o1, h3, _⟩ := Option.map_eq_some_iff.1 h2
      have := h0 _ _ h3
      unfold Tab.to
      cases hx : tb.at r0 with
      | none => simp only; omega
      | some p => have := (Tab.plain_at hp (d := p.2) hx).1; simp only; omega
    · rw [AH.look_renL_no _ _ (fun r0 e => hx ⟨r0, e⟩)] at h2
      cases h2

/-- A view does not look at the rows it comes from, but for those that are frozen. -/
theorem vw_from {H H2 HH : AH} {σ : Nat → Nat → Option (Nat × Nat × Nat)} {t : Bool} {a b : AV} (h : Vw H HH σ (inD []) t a b) : Vw H2 HH σ (inD []) t a b := by
  induction h with
  | undef => exact .undef _ _
  | int => exact .int _ _ _
  | bool => exact .bool _ _
  | str => exact .str _ _
  | nilp => exact .nilp _
  | nilfn => exact .nilfn _
  | cut => exact .cut _
  | mp => exact .mp _ _ ‹_›
  | nilmp => exact .nilmp _
  | it => exact .it _ _ ‹_›
  | nilsl => exact .nilsl _
  | iptr => exact .iptr _ _ _
  | sl => exact .sl _ _ _ _
  | nil0 => exact .nil0 _ _ _
  | slf _ _ _ _ _ _ ih => exact .slf _ _ _ _ _ ih
  | iptrf _ _ _ _ _ ih => exact .iptrf _ _ _ _ ih
  | own => exact .own _ _ _ _ _ _ _ _ _ ‹_› ‹_›
  | ptr => exact .ptr _ _ _ _ _ _ _ _ _ ‹_› ‹_›
  | new => exact .new _ _ _ ‹_› ‹_›
  | frz => rename_i hD _ _ _ _ _; cases hD
  | frzp => rename_i hD _ _ _ _ _; cases hD
  | fn _ _ _ _ hl _ ih => exact .fn _ _ _ _ hl ih
  | agg _ _ _ hl _ ih => exact .agg _ _ _ hl ih
  | tup _ _ _ hl _ ih => exact .tup _ _ _ hl ih

end

section
variable {P : Program} {L : Nat → Prop} {H H0 H' : AH} {nx nx0 nx' : Nat} {tb : Tab}

/-- The caller's other rows. -/
def othr (ι : Inj) (H : AH) (tb : Tab) (nx b : Nat) : Prop := ∃ r q sz els g l, (∀ r0, tb.to nx r0 ≠ r) ∧ H.get r q = some (.row sz els g) ∧ ι r q g = some l ∧ 0 < l.cap * l.sz ∧ l.block = b

def AH.keepL (l : List Nat) : AH → AH
  | [] => []
  | (r, o) :: t => bif memN l r then (r, o) :: AH.keepL l t else AH.keepL l t

theorem AH.look_keepL (l : List Nat) (H : AH) (r : Nat) : (H.keepL l).look r = bif memN l r then H.look r else none := by
  induction H with
  | nil => simp only [AH.keepL, AH.look]; cases memN l r <;> rfl
  | cons p t ih =>
    obtain ⟨j, o⟩ := p
    simp only [AH.keepL]
    cases hm : memN l j with
    | true =>
      simp only [cond_true, AH.look, ih]
      cases hb : Nat.beq j r with
      | true => rw [← beq_true hb, hm]; rfl
      | false => rfl
    | false =>
      simp only [cond_false, ih, AH.look]
      cases hb : Nat.beq j r with
      | true => rw [← beq_true hb, hm]; rfl
      | false => rfl

theorem AH.get_keepL (l : List Nat) (H : AH) (r q : Nat) : (H.keepL l).get r q = bif memN l r then H.get r q else none := by
  unfold AH.get
  rw [AH.look_keepL]
  cases memN l r <;> rfl

theorem to_old (hp : tb.plain nx = true) {r : Nat} (hr : r < nx) : memN (tb.map (·.2.1)) r = true ↔ ∃ r0, tb.to nx r0 = r := by
  constructor
  · intro h
    obtain ⟨x, d, hx⟩ := Tab.at_of_old hp ((memN_iff _ _).1 h)
    exact ⟨x, by unfold Tab.to; rw [hx]⟩
  · rintro ⟨x, rfl⟩
    unfold Tab.to at hr ⊢
    cases hx : tb.at x with
    | none => rw [hx] at hr; simp only at hr; omega
    | some p => exact (memN_iff _ _).2 (Tab.at_mem (d := p.2) hx).2

open Classical in
/-- Where the rows lie behind the call, by the caller's numbers. -/
noncomputable def overI (ι ι' : Inj) (tb : Tab) (nx : Nat) : Inj := fun r q g => if h : ∃ r0, tb.to nx r0 = r then ι' h.choose q g else ι r q g

theorem overI_in (hok : tb.ok nx0 [] = true) (hp : tb.plain nx = true) (ι ι' : Inj) (r q g : Nat) : overI ι ι' tb nx (tb.to nx r) q g = ι' r q g := by
  unfold overI
  have h : ∃ r0, tb.to nx r0 = tb.to nx r := ⟨r, rfl⟩
  rw [dif_pos h, Tab.to_inj hok hp h.choose_spec]

theorem overI_out (ι ι' : Inj) (r q g : Nat) (hr : ∀ r0, tb.to nx r0 ≠ r) : overI ι ι' tb nx r q g = ι r q g := by
  unfold overI
  rw [dif_neg (fun ⟨r0, h⟩ => hr r0 h)]

variable {w w' : World} {ι : Inj}

theorem live_split (hp : tb.plain nx = true) (rel : RelH w L ι H nx) (b : Nat) : live ι H b ↔ othr ι H tb nx b ∨ live ι (H.keepL (tb.map (·.2.1))) b := by
  constructor
  · rintro ⟨r, q, sz, els, g, l, h1, h2, h3, rfl⟩
    have hr := rel.idx _ _ _ _ h2
    by_cases hx : ∃ r0, tb.to nx r0 = r
    · refine .inr ⟨r, q, sz, els, g, l, ?_, h2, h3, rfl⟩
      rw [AH.get_keepL, (to_old hp hr).2 hx]
      exact h1
    · exact .inl ⟨r, q, sz, els, g, l, fun r0 e => hx ⟨r0, e⟩, h1, h2, h3, rfl⟩
  · rintro (⟨r, q, sz, els, g, l, _, h1, h2, h3, rfl⟩ | ⟨r, q, sz, els, g, l, h1, h2, h3, rfl⟩)
    · exact ⟨r, q, sz, els, g, l, h1, h2, h3, rfl⟩
    · rw [AH.get_keepL] at h1
      cases hm : memN (tb.map (·.2.1)) r with
      | false => rw [hm] at h1; cases h1
      | true => rw [hm] at h1; exact ⟨r, q, sz, els, g, l, h1, h2, h3, rfl⟩

/-- The rows that are handed over, alone: the others are none of the callee's business. -/
theorem RelH.keep (hp : tb.plain nx = true) (rel : RelH w L ι H nx) :
    (∀ b, Lt (fun b => L b ∨ othr ι H tb nx b) ι (H.keepL (tb.map (·.2.1))) b ↔ Lt L ι H b) ∧ RelH w (fun b => L b ∨ othr ι H tb nx b) ι (H.keepL (tb.map (·.2.1))) nx := by
  have hlt : ∀ b, Lt (fun b => L b ∨ othr ι H tb nx b) ι (H.keepL (tb.map (·.2.1))) b ↔ Lt L ι H b := by
    intro b
    simp only [Lt, live_split hp rel b, or_assoc]
  have hget : ∀ {r q o}, (H.keepL (tb.map (·.2.1))).get r q = some o → H.get r q = some o ∧ memN (tb.map (·.2.1)) r = true := by
    intro r q o h
    rw [AH.get_keepL] at h
    cases hm : memN (tb.map (·.2.1)) r with
    | false => rw [hm] at h; cases h
    | true => rw [hm] at h; exact ⟨h, rfl⟩
  refine ⟨hlt, fun r q sz els g h => ?_, fun r1 q1 r2 q2 s1 e1 g1 l1 s2 e2 g2 l2 h1 h2 => rel.apart _ _ _ _ _ _ _ _ _ _ _ _ (hget h1).1 (hget h2).1, fun b hb hL => ?_, rel.idx, fun r o h => ?_, fun r q sz els g h => rel.gen _ _ _ _ _ (hget h).1, fun b hb => ?_⟩
  · have : Lt (fun b => L b ∨ othr ι H tb nx b) ι (H.keepL (tb.map (·.2.1))) = Lt L ι H := by funext b; exact propext (hlt b)
    rw [this]
    exact rel.row _ _ _ _ _ (hget h).1
  · rcases hL with hL | ⟨r, q, sz, els, g, l, h1, h2, h3, h4, h5⟩
    · exact rel.out b ((live_split hp rel b).2 (.inr hb)) hL
    · obtain ⟨r', q', sz', els', g', l', k1, k2, k3, k4⟩ := hb
      obtain ⟨k1, k5⟩ := hget k1
      obtain ⟨rfl, rfl⟩ := rel.apart _ _ _ _ _ _ _ _ _ _ _ _ h2 k1 h3 k2 h4 k3 (h5.trans k4.symm)
      obtain ⟨r0, e⟩ := (to_old hp (rel.idx _ _ _ _ h3)).1 k5
      exact h1 r0 e
  · rw [AH.look_keepL] at h
    cases hm : memN (tb.map (·.2.1)) r with
    | false => rw [hm] at h; cases h
    | true => rw [hm] at h; exact rel.dom _ _ h
  · rcases hb with hb | hb
    · exact rel.Lsz b hb
    · exact rel.live_lt ((live_split hp rel b).2 (.inl hb))

theorem Step.over (hok : tb.ok nx0 [] = true) (hp : tb.plain nx = true) (rel : RelH w L ι H nx) {ι0 ι' : Inj} (h0 : ∀ r q g l, ι (tb.to nx r) q g = some l → tb.at r ≠ none → ι0 r q g = some l)
    (hl0 : ∀ b, live ι0 H0 b → live ι (H.keepL (tb.map (·.2.1))) b) (st : Step w (fun b => L b ∨ othr ι H tb nx b) ι0 H0 nx0 w' ι' H' nx') :
    Step w L ι H nx w' (overI ι ι' tb nx) (H.over tb nx H') (nx + nx') ∧ ∀ v a, VR w' (Lt (fun b => L b ∨ othr ι H tb nx b) ι' H') ι' v a → VR w' (Lt L (overI ι ι' tb nx) (H.over tb nx H')) (overI ι ι' tb nx) v (a.ren (tb.to nx)) := by
  have hin := fun r q => AH.over_in (H0 := H') hok hp rel.dom r q
  have hout := fun r q hr => AH.over_out (H := H) (H0 := H') r q hp hr
  have iin := overI_in hok hp ι ι'
  have iout := fun r q g hr => overI_out (tb := tb) (nx := nx) ι ι' r q g hr
  have hlive : ∀ b, live (overI ι ι' tb nx) (H.over tb nx H') b ↔ live ι' H' b ∨ othr ι H tb nx b := by
    intro b
    constructor
    · rintro ⟨r, q, sz, els, g, l, h1, h2, h3, rfl⟩
      by_cases hx : ∃ r0, tb.to nx r0 = r
      · obtain ⟨r0, rfl⟩ := hx
        rw [hin] at h1
        rw [iin] at h2
        obtain ⟨o, h4, h5⟩ := Option.map_eq_some_iff.1 h1
        cases o with
        | fam _ _ => cases h5
        | row sz0 els0 g0 => cases h5; exact .inl ⟨_, _, _, _, _, _, h4, h2, h3, rfl⟩
      · have hr : ∀ r0, tb.to nx r0 ≠ r := fun r0 e => hx ⟨r0, e⟩
        rw [hout r q hr] at h1
        rw [iout r q g hr] at h2
        exact .inr ⟨r, q, sz, els, g, l, hr, h1, h2, h3, rfl⟩
    · rintro (⟨r, q, sz, els, g, l, h1, h2, h3, rfl⟩ | ⟨r, q, sz, els, g, l, hr, h1, h2, h3, rfl⟩)
      · exact ⟨tb.to nx r, q, sz, _, g, l, by rw [hin, h1]; rfl, by rw [iin]; exact h2, h3, rfl⟩
      · exact ⟨r, q, sz, els, g, l, by rw [hout r q hr]; exact h1, by rw [iout r q g hr]; exact h2, h3, rfl⟩
  have hLt : Lt L (overI ι ι' tb nx) (H.over tb nx H') = Lt (fun b => L b ∨ othr ι H tb nx b) ι' H' := by
    funext b
    apply propext
    simp only [Lt, hlive]
    constructor
    · rintro (h | h | h)
      · exact .inl (.inl h)
      · exact .inr h
      · exact .inl (.inr h)
    · rintro ((h | h) | h)
      · exact .inl h
      · exact .inr (.inr h)
      · exact .inr (.inl h)
  have hold0 : ∀ b, live ι0 H0 b → live ι H b := fun b hb => (live_split hp rel b).2 (.inr (hl0 b hb))
  have hsame : ∀ b, b < w.heap.size → ¬ live ι0 H0 b → w'.heap[b]? = w.heap[b]? := st.ext.block
  have inj : ∀ r q g l, ι r q g = some l → overI ι ι' tb nx r q g = some l := by
    intro r q g l h
    by_cases hx : ∃ r0, tb.to nx r0 = r
    · obtain ⟨r0, rfl⟩ := hx
      rw [iin]
      refine st.inj _ _ _ _ (h0 _ _ _ _ h fun hn => ?_)
      have := rel.idx _ _ _ _ h
      unfold Tab.to at this
      rw [hn] at this
      simp only at this
      omega
    · rw [iout r q g (fun r0 e => hx ⟨r0, e⟩)]
      exact h
  have hnew : ∀ {v a}, VR w' (Lt (fun b => L b ∨ othr ι H tb nx b) ι' H') ι' v a → VR w' (Lt L (overI ι ι' tb nx) (H.over tb nx H')) (overI ι ι' tb nx) v (a.ren (tb.to nx)) := by
    intro v a h
    rw [hLt]
    exact h.ren (fun r q g l h => by rw [iin]; exact h)
  have hold : ∀ {v a}, VR w (Lt L ι H) ι v a → VR w' (Lt L (overI ι ι' tb nx) (H.over tb nx H')) (overI ι ι' tb nx) v a := by
    intro v a h
    refine h.mono (fun b hb hn => ⟨hsame b hb fun h' => hn (.inr (hold0 b h')), fun h' => ?_⟩) inj
    rw [hLt] at h'
    rcases h' with (h' | h') | h'
    · exact hn (.inl h')
    · exact hn (.inr ((live_split hp rel b).2 (.inl h')))
    · rcases st.lv b h' with h' | h'
      · exact hn (.inr (hold0 b h'))
      · omega
  have oth_no : ∀ b, othr ι H tb nx b → ¬ live ι0 H0 b := fun b h1 h2 => (rel.keep hp).2.out b (hl0 b h2) (.inr h1)
  have lv : ∀ b, live (overI ι ι' tb nx) (H.over tb nx H') b → live ι H b ∨ w.heap.size ≤ b := by
    intro b hb
    rcases (hlive b).1 hb with hb | hb
    · rcases st.lv b hb with hb | hb
      · exact .inl (hold0 b hb)
      · exact .inr hb
    · exact .inl ((live_split hp rel b).2 (.inl hb))
  refine ⟨⟨⟨st.ext.os, st.ext.tape, st.ext.output, st.ext.size, fun b hb hn => hsame b hb fun h => hn (hold0 b h)⟩, inj, ?_, lv⟩, fun v a h => hnew h⟩
  constructor
  · intro r q sz els g h
    by_cases hx : ∃ r0, tb.to nx r0 = r
    · obtain ⟨r0, rfl⟩ := hx
      rw [hin] at h
      obtain ⟨o, h4, h5⟩ := Option.map_eq_some_iff.1 h
      cases o with
      | fam _ _ => cases h5
      | row sz0 els0 g0 =>
        cases h5
        obtain ⟨l, h1, ok⟩ := st.rel.row _ _ _ _ _ h4
        refine ⟨l, by rw [iin]; exact h1, ok.view (fun _ => rfl) (by simp) (fun i c hi => ?_)⟩
        rw [List.getElem?_map] at hi
        obtain ⟨c0, h2, rfl⟩ := Option.map_eq_some_iff.1 hi
        refine ⟨c0, h2, by simp, fun j a a' hj hj' v hv => ?_⟩
        rw [List.getElem?_map, hj] at hj'
        cases hj'
        exact hnew hv
    · have hr : ∀ r0, tb.to nx r0 ≠ r := fun r0 e => hx ⟨r0, e⟩
      rw [hout r q hr] at h
      obtain ⟨l, h1, ok⟩ := rel.row _ _ _ _ _ h
      exact ⟨l, by rw [iout r q g hr]; exact h1, ok.trans (fun hp => hsame _ (ok.blk_lt hp) (oth_no _ ⟨r, q, sz, els, g, l, hr, h, h1, hp, rfl⟩)) (fun v a hv => hold hv)⟩
  · intro r1 q1 r2 q2 s1 e1 g1 l1 s2 e2 g2 l2 h1 h2 h3 h4 h5 h6 h7
    have key : ∀ r q s e g l, (H.over tb nx H').get r q = some (.row s e g) → overI ι ι' tb nx r q g = some l → 0 < l.cap * l.sz →
        (∃ r0 e0, tb.to nx r0 = r ∧ H'.get r0 q = some (.row s e0 g) ∧ ι' r0 q g = some l) ∨ ((∀ r0, tb.to nx r0 ≠ r) ∧ H.get r q = some (.row s e g) ∧ ι r q g = some l) := by
      intro r q s e g l a1 a2 a3
      by_cases hx : ∃ r0, tb.to nx r0 = r
      · obtain ⟨r0, rfl⟩ := hx
        rw [hin] at a1
        rw [iin] at a2
        obtain ⟨o, a4, a5⟩ := Option.map_eq_some_iff.1 a1
        cases o with
        | fam _ _ => cases a5
        | row sz0 els0 g0 => cases a5; exact .inl ⟨r0, _, rfl, a4, a2⟩
      · have hr : ∀ r0, tb.to nx r0 ≠ r := fun r0 e => hx ⟨r0, e⟩
        rw [hout r q hr] at a1
        rw [iout r q g hr] at a2
        exact .inr ⟨hr, a1, a2⟩
    have cross : ∀ {r q s e g l r' q' s' e' g' l'}, H'.get r q = some (.row s e g) → ι' r q g = some l → 0 < l.cap * l.sz → (∀ r0, tb.to nx r0 ≠ r') → H.get r' q' = some (.row s' e' g') → ι r' q' g' = some l' → 0 < l'.cap * l'.sz → l.block = l'.block → False := by
      intro r q s e g l r' q' s' e' g' l' a1 a2 a3 b0 b1 b2 b3 b4
      exact st.rel.out l.block ⟨_, _, _, _, _, _, a1, a2, a3, rfl⟩ (.inr ⟨_, _, _, _, _, _, b0, b1, b2, b3, b4.symm⟩)
    rcases key _ _ _ _ _ _ h1 h3 h5 with ⟨x, ex, rfl, a1, a2⟩ | ⟨a0, a1, a2⟩
    · rcases key _ _ _ _ _ _ h2 h4 h6 with ⟨y, ey, rfl, b1, b2⟩ | ⟨b0, b1, b2⟩
      · obtain ⟨rfl, rfl⟩ := st.rel.apart _ _ _ _ _ _ _ _ _ _ _ _ a1 b1 a2 b2 h5 h6 h7
        exact ⟨rfl, rfl⟩
      · exact (cross a1 a2 h5 b0 b1 b2 h6 h7).elim
    · rcases key _ _ _ _ _ _ h2 h4 h6 with ⟨y, ey, rfl, b1, b2⟩ | ⟨b0, b1, b2⟩
      · exact (cross b1 b2 h6 a0 a1 a2 h5 h7.symm).elim
      · exact rel.apart _ _ _ _ _ _ _ _ _ _ _ _ a1 b1 a2 b2 h5 h6 h7
  · intro b hb hL
    rcases (hlive b).1 hb with hb | hb
    · exact st.rel.out b hb (.inl hL)
    · exact rel.out b ((live_split hp rel b).2 (.inl hb)) hL
  · intro r q g l h
    by_cases hx : ∃ r0, tb.to nx r0 = r
    · obtain ⟨r0, rfl⟩ := hx
      rw [iin] at h
      have := st.rel.idx _ _ _ _ h
      unfold Tab.to
      cases hx : tb.at r0 with
      | none => simp only; omega
      | some p => have := (Tab.plain_at hp (d := p.2) hx).1; simp only; omega
    · rw [iout r q g (fun r0 e => hx ⟨r0, e⟩)] at h
      have := rel.idx _ _ _ _ h
      omega
  · exact fun r o h => AH.over_lt hok hp rel.dom st.rel.dom r o h
  · intro r q sz els g h g2 l h2
    by_cases hx : ∃ r0, tb.to nx r0 = r
    · obtain ⟨r0, rfl⟩ := hx
      rw [hin] at h
      rw [iin] at h2
      obtain ⟨o, h4, h5⟩ := Option.map_eq_some_iff.1 h
      cases o with
      | fam _ _ => cases h5
      | row sz0 els0 g0 => cases h5; exact st.rel.gen _ _ _ _ _ h4 _ _ h2
    · have hr : ∀ r0, tb.to nx r0 ≠ r := fun r0 e => hx ⟨r0, e⟩
      rw [hout r q hr] at h
      rw [iout r q g2 hr] at h2
      exact rel.gen _ _ _ _ _ h _ _ h2
  · intro b hb
    exact Nat.lt_of_lt_of_le (rel.Lsz b hb) st.ext.size

/-- A CALL THAT IS GIVEN ROWS. -/
theorem call_own {f : FuncId} {asv bs : List AV} {Post k : AV → AH → Nat → Prop} (tb : Tab) (nx0 : Nat) (H0 : AH) (h : CallOk P f bs H0 nx0 Post) (hok : tb.ok nx0 [] = true) (hp : tb.plain nx = true)
    (hr : rowsV H H0 tb [] nx0 H0) (ha : VwL H H0 tb.sig (inD []) true asv bs) (hk : ∀ v H' nx', Post v H' nx' → k (v.ren (tb.to nx)) (H.over tb nx H') (nx + nx')) : CallOk P f asv H nx k := by
  intro w L ι vs rel hv
  obtain ⟨hlt, relS⟩ := rel.keep hp (L := L)
  have hltE : Lt (fun b => L b ∨ othr ι H tb nx b) ι (H.keepL (tb.map (·.2.1))) = Lt L ι H := by funext b; exact propext (hlt b)
  have hsig : ∀ {r' q' r q d}, tb.sig r' q' = some (r, q, d) → tb.at r' = some (r, d) ∧ q = q' ∧ d = 0 := by
    intro r' q' r q d h
    unfold Tab.sig at h
    cases e1 : tb.at r' with
    | none => rw [e1] at h; cases h
    | some p1 =>
      rw [e1] at h
      simp only [Option.some.injEq, Prod.mk.injEq] at h
      obtain ⟨rfl, rfl, rfl⟩ := h
      exact ⟨rfl, rfl, (Tab.plain_at hp (d := p1.2) e1).2⟩
  have vw : View 0 (H.keepL (tb.map (·.2.1))) H0 nx0 tb.sig (inD []) := by
    refine ⟨Nat.zero_le _, fun r q h => absurd h (Nat.not_lt_zero _), ?_, fun _ _ _ _ _ _ h => (by cases h), ?_, rowsV_dom hr, fun r' q' sz els2 g2 h2 => ?_⟩
    · intro r1 q1 r2 q2 r q d1 d2 h1 h2
      obtain ⟨a1, a2, _⟩ := hsig h1
      obtain ⟨b1, b2, _⟩ := hsig h2
      exact ⟨Tab.ok_inj hok a1 b1, by rw [← a2, ← b2]⟩
    · intro r' q' x h
      unfold Tab.sig at h
      cases e1 : tb.at r' with
      | none => rw [e1] at h; cases h
      | some p1 => exact (Tab.ok_at hok (d := p1.2) e1).1
    · rcases rowsV_row hr r' q' sz els2 g2 h2 with ⟨r, q, d, els, a1, a2, a3⟩ | h3
      · refine .inl ⟨r, q, d, els, a1, ?_, a3.1, fun i c2 hi => ?_⟩
        · rw [AH.get_keepL, (memN_iff _ _).2 (Tab.at_mem (d := d) (hsig a1).1).2]
          exact a2
        · obtain ⟨c, hc, hl, hv⟩ := a3.2 i c2 hi
          exact ⟨c, hc, hl, fun j a b ha hb => vw_from (hv j a b ha hb)⟩
      · exact .inr h3
  have args : ∀ {asv bs : List AV} {us : List Value}, VwL H H0 tb.sig (inD []) true asv bs → VRs w (Lt L ι H) ι us asv → VRs w (Lt (fun b => L b ∨ othr ι H tb nx b) (viewI H0 tb.sig ι) H0) (viewI H0 tb.sig ι) us bs := by
    intro asv bs us h hv
    induction hv generalizing bs with
    | nil =>
      cases bs with
      | nil => exact .nil
      | cons b bs => exact h.elim
    | cons h1 _ ih =>
      cases bs with
      | nil => exact h.elim
      | cons b bs =>
        refine .cons ?_ (ih h.2)
        rw [← hltE] at h1
        exact vw.vr relS (vw_from h.1) h1
  refine (h w _ _ vs (vw.rel relS) (args ha hv)).mono fun e w' ⟨v, ι', H', nx', a, h3, h4, _, h6, h7⟩ => ?_
  have hi : ∀ r q g l, ι (tb.to nx r) q g = some l → tb.at r ≠ none → viewI H0 tb.sig ι r q g = some l := by
    intro r q g l h hn
    unfold viewI Tab.sig
    unfold Tab.to at h
    cases e1 : tb.at r with
    | none => exact absurd e1 hn
    | some p =>
      rw [e1] at h
      have := (Tab.plain_at hp (d := p.2) e1).2
      simp only [this]
      exact h
  obtain ⟨h8, h9⟩ := Step.over hok hp rel hi (fun b hb => vw.lv hb) h4
  exact ⟨v, _, _, _, _, h3, h8, Nat.le_add_right _ _, h9 v a h6, hk _ _ _ h7⟩

end
end Go.Ab

namespace Go.Ab
open Go.RowKit

theorem ren_flat0 {ρ : Nat → Nat} {a : AV} (h : a.flat0 = true) : a.ren ρ = a := by
  cases a <;> first | (cases h; done) | simp [AV.ren]

theorem ren_allFlat {ρ : Nat → Nat} : ∀ {l : List AV}, allFlat l = true → l.map (AV.ren ρ) = l
  | [], _ => rfl
  | a :: l, h => by
    simp only [allFlat, Bool.and_eq_true] at h
    rw [List.map_cons, ren_flat0 h.1, ren_allFlat h.2]

theorem ren_rows {ρ : Nat → Nat} {els : List (List AV)} (h : FlatRows els) : els.map (fun c => c.map (AV.ren ρ)) = els := by
  conv => rhs; rw [← List.map_id els]
  exact List.map_congr_left fun c hc => ren_allFlat (h c hc)

theorem to_nil {nx r : Nat} : Tab.to [] nx r = nx + r := rfl
theorem to_cons {a b d nx r : Nat} {tb : Tab} : Tab.to ((a, b, d) :: tb) nx r = bif a == r then b else Tab.to tb nx r := by
  unfold Tab.to
  rw [at_cons]
  cases a == r <;> rfl

/-- What a call that was given rows leaves. -/
theorem evZ :
  (∀ {nx r : Nat}, Tab.to [] nx r = nx + r) ∧ (∀ {a b d nx r : Nat} {tb : Tab}, Tab.to ((a, b, d) :: tb) nx r = bif a == r then b else Tab.to tb nx r) ∧
  (∀ {H H0 : AH} {tb : Tab} {nx : Nat}, H.over tb nx H0 = H.cutL (tb.map (·.2.1)) ++ H0.renL (tb.to nx)) ∧
  (∀ {l : List Nat}, AH.cutL l [] = []) ∧ (∀ {l : List Nat} {r : Nat} {o : AObj} {t : AH}, AH.cutL l ((r, o) :: t) = bif memN l r then AH.cutL l t else (r, o) :: AH.cutL l t) ∧
  (∀ {ρ : Nat → Nat}, AH.renL ρ [] = []) ∧ (∀ {ρ : Nat → Nat} {r : Nat} {o : AObj} {t : AH}, AH.renL ρ ((r, o) :: t) = (ρ r, o.ren ρ) :: AH.renL ρ t) ∧
  (∀ {ρ : Nat → Nat} {sz g : Nat} {els : List (List AV)}, FlatRows els → AObj.ren ρ (.row sz els g) = .row sz els g) ∧
  (∀ {ρ : Nat → Nat} {sz g : Nat} {c : List AV}, AObj.ren ρ (.row sz [c] g) = .row sz [c.map (AV.ren ρ)] g) ∧
  (∀ {ρ : Nat → Nat} {a : AV}, a.flat0 = true → AV.ren ρ a = a) ∧
  (∀ {ρ : Nat → Nat} {r q g o n : Nat}, AV.ren ρ (.own r q g o n) = .own (ρ r) q g o n) ∧ (∀ {ρ : Nat → Nat} {r q g o n : Nat}, AV.ren ρ (.ptr r q g o n) = .ptr (ρ r) q g o n) ∧
  (∀ {ρ : Nat → Nat} {l : List AV}, AV.ren ρ (.agg l) = .agg (l.map (AV.ren ρ))) ∧ (∀ {ρ : Nat → Nat} {l : List AV}, AV.ren ρ (.tup l) = .tup (l.map (AV.ren ρ))) ∧
  (∀ {ρ : Nat → Nat} {f : Fn} {l : List AV}, AV.ren ρ (.fn f l) = .fn f (l.map (AV.ren ρ))) ∧
  (∀ {α β : Type} {f : α → β}, List.map f [] = []) ∧ (∀ {α β : Type} {f : α → β} {a : α} {l : List α}, List.map f (a :: l) = f a :: List.map f l) ∧
  (FlatRows [] = True) ∧ (∀ {c : List AV} {l : List (List AV)}, FlatRows (c :: l) = (allFlat c = true ∧ FlatRows l)) ∧ (∀ {l m : List (List AV)}, FlatRows (l ++ m) = (FlatRows l ∧ FlatRows m)) ∧
  (∀ {α : Type} {f : α → List AV} {l : List α}, FlatRows (l.map f) = ∀ a ∈ l, allFlat (f a) = true) ∧ (∀ {n : Nat} {c : List AV}, allFlat c = true → FlatRows (List.replicate n c) = True) ∧
  (∀ {l : List (List AV)} {i : Nat} {c : List AV}, allFlat c = true → FlatRows l → FlatRows (l.set i c) = True) := by
  refine ⟨to_nil, to_cons, rfl, rfl, rfl, rfl, rfl, fun h => ?_, rfl, ren_flat0, ?_, ?_, ?_, ?_, ?_, rfl, rfl, flatRows_nil, flatRows_cons, flatRows_append, flatRows_map, flatRows_rep, flatRows_set⟩
  · simp only [AObj.ren]
    exact congrArg (fun e => AObj.row _ e _) (ren_rows h)
  all_goals (intros; simp [AV.ren])

/-- Rows and values without references. -/
theorem evF :
  (FlatRows [] = True) ∧ (∀ {c : List AV} {l : List (List AV)}, FlatRows (c :: l) = (allFlat c = true ∧ FlatRows l)) ∧ (∀ {l m : List (List AV)}, FlatRows (l ++ m) = (FlatRows l ∧ FlatRows m)) ∧
  (∀ {α : Type} {f : α → List AV} {l : List α}, FlatRows (l.map f) = ∀ a ∈ l, allFlat (f a) = true) ∧ (∀ {n : Nat} {c : List AV}, allFlat c = true → FlatRows (List.replicate n c) = True) ∧
  (∀ {l : List (List AV)} {i : Nat} {c : List AV}, allFlat c = true → FlatRows l → FlatRows (l.set i c) = True) :=
  ⟨flatRows_nil, flatRows_cons, flatRows_append, flatRows_map, flatRows_rep, flatRows_set⟩

/-- The first B numbers stay. -/
def Tab.idB (t : Tab) : Nat → Bool
  | 0 => true
  | B + 1 => (match t.at B with
    | some (r, d) => Nat.beq r B && Nat.beq d 0
    | none => false) && Tab.idB t B

theorem Tab.idB_at {t : Tab} : ∀ {B : Nat}, t.idB B = true → ∀ r, r < B → t.at r = some (r, 0)
  | 0, _, r, h => absurd h (Nat.not_lt_zero _)
  | B + 1, hb, r, h => by
    simp only [Tab.idB, Bool.and_eq_true] at hb
    by_cases e : r = B
    · subst e
      cases hx : t.at r with
      | none => rw [hx] at hb; simp at hb
      | some p =>
        obtain ⟨a, d⟩ := p
        rw [hx] at hb
        simp only [Bool.and_eq_true] at hb
        rw [beq_true hb.1.1, beq_true hb.1.2]
    · exact Tab.idB_at hb.2 r (by omega)

/-- WHAT IS KNOWN, SEEN OTHERWISE, by a table (for a function that was given B rows). -/
theorem Ent.tabB {B : Nat} {K K2 : Kn} {H H2 : AH} {nx nx2 : Nat} (t : Tab) (ds : List Nat) (hB : Nat.ble B nx2 = true) (hid : t.idB B = true) (hok : t.ok nx2 ds = true) (hr : rowsV H H2 t ds nx2 H2) (hK : slotsV H H2 t ds K2 K) : Ent B K H nx K2 H2 nx2 := by
  refine Ent.view t.sig (inD ds) ⟨Nat.le_of_ble_eq_true hB, fun r q h => ?_, ?_, ?_, ?_, rowsV_dom hr, rowsV_row hr⟩ (slotsV_get hK)
  · unfold Tab.sig
    rw [Tab.idB_at hid r h]
  · intro r1 q1 r2 q2 r q d1 d2 h1 h2
    unfold Tab.sig at h1 h2
    cases e1 : t.at r1 with
    | none => rw [e1] at h1; cases h1
    | some p1 =>
      cases e2 : t.at r2 with
      | none => rw [e2] at h2; cases h2
      | some p2 =>
        rw [e1] at h1
        rw [e2] at h2
        simp only [Option.some.injEq, Prod.mk.injEq] at h1 h2
        obtain ⟨rfl, rfl, rfl⟩ := h1
        obtain ⟨h3, rfl, rfl⟩ := h2
        refine ⟨Tab.ok_inj hok (d := p1.2) (e := p2.2) e1 ?_, rfl⟩
        rw [e2, ← h3]
  · intro r' q' r q d h
    unfold Tab.sig at h
    cases e1 : t.at r' with
    | none => rw [e1] at h; cases h
    | some p1 =>
      rw [e1] at h
      simp only [Option.some.injEq, Prod.mk.injEq] at h
      obtain ⟨rfl, _, rfl⟩ := h
      have := (Tab.ok_at hok (d := p1.2) e1).2.1
      unfold inD
      rw [this]
      exact Bool.false_ne_true
  · intro r' q' x h
    unfold Tab.sig at h
    cases e1 : t.at r' with
    | none => rw [e1] at h; cases h
    | some p1 => exact (Tab.ok_at hok (d := p1.2) e1).1

/-- What a call leaves, seen otherwise. -/
def RetEnt (B : Nat) (Q : AV → AH → Nat → Prop) (v : AV) (H : AH) (nx : Nat) : Prop := ∃ v2 H2 nx2, Ent B [(0, v)] H nx [(0, v2)] H2 nx2 ∧ Q v2 H2 nx2

theorem call_ent {P : Program} {f : FuncId} {args : List AV} {H : AH} {nx : Nat} {Q : AV → AH → Nat → Prop} (h : CallOk P f args H nx (RetEnt nx Q)) : CallOk P f args H nx Q := by
  intro w L ι vs rel hv
  refine (h w L ι vs rel hv).mono fun e w' ⟨v, ι', H', nx', a, h1, st, h3, h4, v2, H2, nx2, ⟨h5, h6⟩, h7⟩ => ?_
  obtain ⟨ι2, r1, r2, r3, r4⟩ := h6 w' L ι' #[v] st.rel (fun i => by
    cases i with
    | zero => exact h4
    | succ i => exact .undef _ _)
  exact ⟨v, ι2, H2, nx2, v2, h1, ⟨st.ext, fun r q g l hl => r4 r q g l (rel.idx _ _ _ _ hl) (st.inj _ _ _ _ hl), r1, fun b hb => st.lv b (r3 b hb)⟩, h5, r2 0, h7⟩

end Go.Ab

namespace Go.Ab
open Go.RowKit

section
variable {α : Type} {c : α → List AV} {sz : Nat}

/-- The slices: the i-th is the whole row i of family F. -/
def fe (F n : Nat) (ll : Nat → List α) (gs : Nat → Nat) : List (List AV) := (List.range n).map fun i => [.own F (i + 1) (gs i) 0 (ll i).length]
/-- The rows. -/
def fi (c : α → List AV) (n : Nat) (ll : Nat → List α) (gs : Nat → Nat) : List (List (List AV) × Nat) := (List.range n).map fun i => ((ll i).map c, gs i)

theorem fe_len {F n : Nat} {ll : Nat → List α} {gs : Nat → Nat} : (fe F n ll gs).length = n := by simp [fe]
theorem fi_get {n k : Nat} {ll : Nat → List α} {gs : Nat → Nat} (h : k < n) : (fi c n ll gs)[k]? = some ((ll k).map c, gs k) := by simp [fi, h]

theorem fi_getD {n k : Nat} {ll : Nat → List α} {gs : Nat → Nat} : (fi c n ll gs)[k]? = if k < n then some ((ll k).map c, gs k) else none := by
  split
  · exact fi_get ‹_›
  · simp [fi]; omega

variable {H HH : AH} {σ : Nat → Nat → Option (Nat × Nat × Nat)} {D : Nat → Nat → Prop} {t : Bool}

theorem rowV_fe {F F' n : Nat} {ll : Nat → List α} {gs : Nat → Nat} (h : ∀ i, σ F' (i + 1) = some (F, i + 1, 0)) : RowV H HH σ D (fe F n ll gs) (fe F' n ll gs) := by
  refine ⟨by simp [fe_len], fun i c2 hi => ?_⟩
  unfold fe at hi ⊢
  simp only [List.getElem?_map, Option.map_eq_some_iff] at hi ⊢
  obtain ⟨k, hk, rfl⟩ := hi
  refine ⟨_, ⟨k, hk, rfl⟩, rfl, fun j x y h1 h2 => ?_⟩
  cases j with
  | succ j => cases h1
  | zero =>
    cases h1
    cases h2
    exact .own _ _ _ 0 _ _ _ _ _ (h k) rfl

theorem rowV_fe_new {F' n : Nat} (h : ∀ i, σ F' (i + 1) = none) (hg : ∀ i, i < n → ∃ sz, HH.get F' (i + 1) = some (.row sz [] 0)) : RowV H HH σ D (List.replicate n [.nilsl]) (fe (α := α) F' n (fun _ => []) (fun _ => 0)) := by
  refine ⟨by simp [fe_len], fun i c2 hi => ?_⟩
  unfold fe at hi
  simp only [List.getElem?_map, Option.map_eq_some_iff] at hi
  obtain ⟨k, hk, rfl⟩ := hi
  obtain ⟨hkl, rfl⟩ := List.getElem?_eq_some_iff.1 hk
  simp at hkl
  refine ⟨[.nilsl], by simp [hkl], rfl, fun j x y h1 h2 => ?_⟩
  cases j with
  | succ j => cases h1
  | zero =>
    cases h1
    cases h2
    simp only [List.getElem_range, List.length_nil]
    obtain ⟨s, hs⟩ := hg i hkl
    exact .new _ _ s (h i) hs

theorem fi_part {F n : Nat} {ll : Nat → List α} {gs : Nat → Nat} (h : HH.look F = some (.fam sz (fi c n ll gs))) {i : Nat} (hi : i < n) : HH.get F (i + 1) = some (.row sz ((ll i).map c) (gs i)) := by
  unfold AH.get
  rw [h]
  simp only [Option.bind_some, AObj.part, fi_get hi, Option.map_some]

theorem rowV_fe_start {F' n : Nat} (h : ∀ i, σ F' (i + 1) = none) (hF : HH.look F' = some (.fam sz (fi c n (fun _ => []) (fun _ => 0)))) : RowV H HH σ D (List.replicate n [.nilsl]) (fe (α := α) F' n (fun _ => []) (fun _ => 0)) :=
  rowV_fe_new h (fun i hi => ⟨sz, fi_part hF hi⟩)

/-- A family, seen otherwise. -/
def famIs (sz : Nat) (c : α → List AV) (n : Nat) (ll : Nat → List α) (gs : Nat → Nat) (d : Nat) (o : Option AObj) : Prop := o = some (.fam sz (fi c n ll gs)) ∧ d = 0
def famAt (H : AH) (sz : Nat) (c : α → List AV) (n : Nat) (ll : Nat → List α) (gs : Nat → Nat) : Option (Nat × Nat) → Prop
  | some (r, d) => famIs sz c n ll gs d (H.look r)
  | none => ∀ i, i < n → ll i = [] ∧ gs i = 0

theorem rowsV_fam {tb : Tab} {ds : List Nat} {n r' m : Nat} {ll : Nat → List α} {gs : Nat → Nat} {u : AH} (hc : ∀ a, allFlat (c a) = true) (h1 : r' < n) (h2 : famAt H sz c m ll gs (tb.at r')) (h3 : rowsV H HH tb ds n u) :
    rowsV H HH tb ds n ((r', .fam sz (fi c m ll gs)) :: u) := by
  refine ⟨by simpa [Nat.blt_eq] using h1, ?_, h3⟩
  cases hx : tb.at r' with
  | none =>
    rw [hx] at h2
    intro i p hp
    rw [fi_getD] at hp
    split at hp
    · rename_i hi
      cases hp
      obtain ⟨e1, e2⟩ := h2 i hi
      rw [e1, e2]
      rfl
    · cases hp
  | some p =>
    obtain ⟨r, d⟩ := p
    rw [hx] at h2
    obtain ⟨h4, rfl⟩ := h2
    intro i p hp
    rw [fi_getD] at hp
    split at hp
    · rename_i hi
      cases hp
      exact ⟨_, fi_part h4 hi, rowV_flat (by intro x hx; obtain ⟨a, _, rfl⟩ := List.mem_map.1 hx; exact hc a)⟩
    · cases hp

end
end Go.Ab

namespace Go.Ab
open Go.RowKit

end Go.Ab

namespace Go.Ab
open Go.RowKit

section
variable {HH : Type} {enc : TypeId × Value → HH} {P : Program} {w : World} {base : Nat} {spare : Nat → Bool} {held : Bool} {L : Nat → Prop}

theorem mapM_get2 {α β : Type} {f : α → Option β} : ∀ {l : List α} {r : List β}, l.mapM f = some r → r.length = l.length ∧ ∀ (i : Nat) (a : α), l[i]? = some a → ∃ b, r[i]? = some b ∧ f a = some b
  | [], r, h => by
    simp only [List.mapM_nil, Option.pure_def, Option.some.injEq] at h
    subst h
    exact ⟨rfl, fun i a h => by simp at h⟩
  | x :: l, r, h => by
    simp only [List.mapM_cons, Option.bind_eq_bind, Option.bind_eq_some_iff, Option.pure_def, Option.some.injEq] at h
    obtain ⟨b, h1, bs, h2, rfl⟩ := h
    obtain ⟨h3, h4⟩ := mapM_get2 h2
    refine ⟨by simp [h3], fun i a hi => ?_⟩
    cases i with
    | zero => cases hi; exact ⟨b, rfl, h1⟩
    | succ i => exact h4 i a hi

theorem cells_get {a : Addr} {n : Nat} {cs : List Value} (h : w.cells? base a n = some cs) : cs.length = n ∧ ∀ j, j < n → w.cell? (a.add j) = some (cs.getD j undef) := by
  unfold World.cells? at h
  split at h
  · obtain ⟨h1, h2⟩ := mapM_get2 h
    refine ⟨by simpa using h1, fun j hj => ?_⟩
    obtain ⟨b, h3, h4⟩ := h2 j j (by simp [hj])
    rw [h4, List.getD_eq_getElem?_getD, h3]
    rfl
  · cases h

/-- A row of cells, as values that are only read. -/
def ElOk (w : World) (L : Nat → Prop) (vs : List Value) (asv : List AV) : Prop := ∀ j, j < vs.length → VR w L noI (vs.getD j undef) (asv.getD j .undef) ∧ (vs.getD j undef).oneCell' = true

theorem inR_wf {k : IntKind} {n : Int} (h : (Lit.int k n).wf = true) : InR k n := by
  unfold Lit.wf at h
  simpa [InR] using h

theorem el_int {k : IntKind} {t : TypeId} (ht : P.underlying t = some (.int k)) {fuel : Nat} {cs : List Value} {y : DataW HH × List MemPlace} (h : DataW.trod enc P w base spare held fuel t cs = some y) :
    ∃ n : Int, cs = [.int k n] ∧ InR k n := by
  obtain ⟨n, rfl, _, hw⟩ := DataW.trod_int ht h
  exact ⟨n, rfl, inR_wf hw⟩

end
end Go.Ab

namespace Go.Ab
open Go.RowKit

theorem getD_map {α β : Type} {f : α → β} {l : List α} {i : Nat} {d : β} (h : i < l.length) : (l.map f).getD i d = f l[i] := map_getD (List.getElem?_eq_getElem h)
theorem sliceR_to {sz s : Nat} {α : Type} {f : α → List AV} {l : List α} {k : IntKind} {b : Int} {H : AH} {nx : Nat} : sliceR s (encL sz f l) none (some (.int k b)) H nx = ⟨sz = s ∧ (0 : Int) ≤ 0 ∧ 0 ≤ b ∧ b ≤ l.length, True, .sl s (b - 0).toNat (fun i j => ((l.map f).getD ((0 : Int).toNat + i) []).getD j .undef), H, nx⟩ := rfl
theorem sliceR_from {sz s : Nat} {α : Type} {f : α → List AV} {l : List α} {k : IntKind} {a : Int} {H : AH} {nx : Nat} : sliceR s (encL sz f l) (some (.int k a)) none H nx = ⟨sz = s ∧ 0 ≤ a ∧ a ≤ l.length ∧ (l.length : Int) ≤ l.length, True, .sl s ((l.length : Int) - a).toNat (fun i j => ((l.map f).getD (a.toNat + i) []).getD j .undef), H, nx⟩ := rfl

theorem dF {p : Prop} (h : ¬ p) {inst : Decidable p} : @decide p inst = false := decide_eq_false h
theorem dT {p : Prop} (h : p) {inst : Decidable p} : @decide p inst = true := decide_eq_true h

end Go.Ab

namespace Go.Ab
open Go.RowKit

section
variable {P : Program}

def KEq (K K' : Kn) : Prop := ∀ i, K.get i = K'.get i

theorem Kn.get_drop' (K : Kn) (l : List Nat) (x : Nat) : (K.drop l).get x = bif memN l x then .undef else K.get x := by
  induction K with
  | nil => cases memN l x <;> rfl
  | cons p t ih =>
    obtain ⟨j, u⟩ := p
    simp only [Kn.drop]
    cases hm : memN l j with
    | true =>
      simp only [cond_true, ih, Kn.get]
      cases hb : Nat.beq j x with
      | true => rw [beq_true hb] at hm; rw [hm]; rfl
      | false => rfl
    | false =>
      simp only [cond_false, Kn.get, ih]
      cases hb : Nat.beq j x with
      | true => rw [beq_true hb] at hm; rw [hm]; rfl
      | false => rfl

theorem KEq.fn {K K' : Kn} (h : KEq K K') : K.get = K'.get := funext h
theorem KEq.rfl' (K : Kn) : KEq K K := fun _ => rfl
theorem KEq.set {K K' : Kn} (h : KEq K K') (d : Nat) (v : AV) : KEq (K.set d v) (K'.set d v) := fun i => by rw [Kn.get_set, Kn.get_set, h i]
theorem KEq.setO {K K' : Kn} (h : KEq K K') (d : Option Nat) (v : AV) : KEq (Go.Ab.setO K d v) (Go.Ab.setO K' d v) := by
  cases d with
  | none => exact h
  | some d => exact h.set d v
theorem KEq.drop {K K' : Kn} (h : KEq K K') (l : List Nat) : KEq (K.drop l) (K'.drop l) := fun i => by rw [Kn.get_drop', Kn.get_drop', h i]

theorem ExK_ext {fx : Bool} {o : AOper} {K K' : Kn} {H : AH} {nx : Nat} {k k' : Kn → AH → Nat → Prop} (hk : ∀ K K' H nx, KEq K K' → k K H nx → k' K' H nx) (hK : KEq K K') (h : ExK P fx o K H nx k) : ExK P fx o K' H nx k' := by
  have key : bodyK P fx o.op K.get H nx (fun v H' nx' => k (setO K o.dst v) H' nx') → bodyK P fx o.op K'.get H nx (fun v H' nx' => k' (setO K' o.dst v) H' nx') := fun h => by
    rw [← hK.fn]
    exact bodyK_mono (fun v H nx h => hk _ _ _ _ (hK.setO _ _) h) h
  unfold ExK at *
  cases hg : o.guard with
  | none => rw [hg] at h; exact key h
  | some p =>
    obtain ⟨t, want⟩ := p
    rw [hg] at h
    simp only at h ⊢
    rw [← hK t]
    cases hv : grd want (K.get t) with
    | some b => rw [hv] at h; exact ⟨fun e => key (h.1 e), fun e => hk _ _ _ _ (hK.setO _ _) (h.2 e)⟩
    | none => rw [hv] at h; exact h

def QLe (Q Q' : QT) : Prop := ∀ e K K' H nx, KEq K K' → Q e K H nx → Q' e K' H nx
def QExt (Q : QT) : Prop := QLe Q Q

theorem aops_ext {Q Q' : QT} (hq : QLe Q Q') {drop : List Nat} : ∀ {os : List AOper} {K K' : Kn} {H : AH} {nx : Nat}, KEq K K' → aops P os drop Q K H nx → aops P os drop Q' K' H nx
  | [], _, _, _, _, hK, h => hq _ _ _ _ _ (hK.drop _) h
  | _ :: _, _, _, _, _, hK, h => ExK_ext (fun _ _ _ _ hK h => aops_ext hq hK h) hK h

theorem awpT_ext {Q Q' : QT} (hq : QLe Q Q') {drop : List Nat} : ∀ {t : DTree} {K K' : Kn} {H : AH} {nx : Nat}, KEq K K' → awpT P t drop Q K H nx → awpT P t drop Q' K' H nx
  | .done, _, _, _, _, hK, h => hq _ _ _ _ _ (hK.drop _) h
  | .stop, _, _, _, _, _, _ => trivial
  | .step _ _, _, _, _, _, hK, h => ExK_ext (fun _ _ _ _ hK h => awpT_ext hq hK h) hK h
  | .alt _ _ _, _, _, _, _, hK, h => ⟨ExK_ext (fun _ _ _ _ hK h => awpT_ext hq hK h) hK h.1, awpT_ext hq hK h.2⟩

theorem Ent.ext {B : Nat} {K K' K2 : Kn} {H H2 : AH} {nx nx2 : Nat} (hK : KEq K K') (h : Ent B K H nx K2 H2 nx2) : Ent B K' H nx K2 H2 nx2 := ⟨h.1, fun w L ι tmps rel hk => h.2 w L ι tmps rel (by rw [hK.fn]; exact hk)⟩

/-- What light code asks depends on the slots' values alone; it asks less for a weaker end. -/
theorem awp_ext {B : Nat} : ∀ {c : ACode} {Q Q' : QT} {K K' : Kn} {H : AH} {nx : Nat}, QLe Q Q' → KEq K K' → awp P B c Q K H nx → awp P B c Q' K' H nx := by
  intro c
  induction c with
  | skip => intro Q Q' K K' H nx hq hK h; exact hq _ _ _ _ _ hK h
  | region os drop => intro Q Q' K K' H nx hq hK h; exact aops_ext hq hK h
  | draw t drop => intro Q Q' K K' H nx hq hK h; exact awpT_ext hq hK h
  | seq a b iha ihb =>
    intro Q Q' K K' H nx hq hK h
    refine iha (fun e K K' H nx hK h => ?_) hK h
    cases e with
    | normal => exact @ihb Q Q' K K' H nx hq hK h
    | exit id => exact hq _ _ _ _ _ hK h
    | ret => exact hq _ _ _ _ _ hK h
    | goto l => exact hq _ _ _ _ _ hK h
  | cond c a b iha ihb =>
    intro Q Q' K K' H nx hq hK h
    unfold awp at h ⊢
    have e : ev K'.get c = ev K.get c := by rw [hK.fn]
    rw [e]
    cases hv : ev K.get c <;> rw [hv] at h <;> first | exact h | skip
    exact ⟨fun e => iha hq hK (h.1 e), fun e => ihb hq hK (h.2 e)⟩
  | block id c ih =>
    intro Q Q' K K' H nx hq hK h
    refine ih (fun e K K' H nx hK h => ?_) hK h
    cases e with
    | normal => exact hq _ _ _ _ _ hK h
    | exit id' =>
      simp only at h ⊢
      cases hb : Nat.beq id' id <;> rw [hb] at h <;> exact hq _ _ _ _ _ hK h
    | ret => exact hq _ _ _ _ _ hK h
    | goto l => exact hq _ _ _ _ _ hK h
  | loop c ih =>
    intro Q Q' K K' H nx hq hK h
    obtain ⟨α, S, N, inv, μ, ⟨a, ha, he⟩, hb⟩ := h
    refine ⟨α, S, N, inv, μ, ⟨a, ha, he.ext hK⟩, fun a ha hw => ih (fun e K K' H nx hK h => ?_) (KEq.rfl' _) (hb a ha hw)⟩
    cases e with
    | normal => obtain ⟨a', h1, h2, h3⟩ := h; exact ⟨a', h1, h2, h3.ext hK⟩
    | exit id => exact hq _ _ _ _ _ hK h
    | ret => exact hq _ _ _ _ _ hK h
    | goto l => exact hq _ _ _ _ _ hK h
  | exit id => intro Q Q' K K' H nx hq hK h; exact hq _ _ _ _ _ hK h
  | ret => intro Q Q' K K' H nx hq hK h; exact hq _ _ _ _ _ hK h
  | mark n c ih =>
    intro Q Q' K K' H nx hq hK h hw
    obtain ⟨K2, H2, nx2, h1, h2⟩ := h (fun i => by rw [hK i]; exact hw i)
    exact ⟨K2, H2, nx2, h1.ext hK, ih hq (KEq.rfl' _) h2⟩
  | join a b iha ihb =>
    intro Q Q' K K' H nx hq hK h
    obtain ⟨α, S, N, inv, h1, h2⟩ := h
    refine ⟨α, S, N, inv, iha (fun e K K' H nx hK h => ?_) hK h1, fun x hx hw => ihb hq (KEq.rfl' _) (h2 x hx hw)⟩
    cases e with
    | normal => obtain ⟨a', h1, h2⟩ := h; exact ⟨a', h1, h2.ext hK⟩
    | exit id => exact hq _ _ _ _ _ hK h
    | ret => exact hq _ _ _ _ _ hK h
    | goto l => exact hq _ _ _ _ _ hK h
  | scope c ih =>
    intro Q Q' K K' H nx hq hK h
    refine ih (fun e K K' H nx hK h => ?_) hK h
    cases e with
    | goto l => exact h
    | normal => exact hq _ _ _ _ _ hK h
    | exit id => exact hq _ _ _ _ _ hK h
    | ret => exact hq _ _ _ _ _ hK h
  | label l => intro Q Q' K K' H nx hq hK h; exact hq _ _ _ _ _ hK h
  | goto l => intro Q Q' K K' H nx hq hK h; exact hq _ _ _ _ _ hK h
  | jump l a b iha ihb =>
    intro Q Q' K K' H nx hq hK h
    obtain ⟨α, S, N, inv, μ, h1, h2⟩ := h
    refine ⟨α, S, N, inv, μ, iha (fun e K K' H nx hK h => ?_) hK h1, fun x hx hw => ihb (fun e K K' H nx hK h => ?_) (KEq.rfl' _) (h2 x hx hw)⟩
    · cases e with
      | goto l => obtain ⟨h0, a', h1, h2⟩ := h; exact ⟨h0, a', h1, h2.ext hK⟩
      | normal => exact hq _ _ _ _ _ hK h
      | exit id => exact hq _ _ _ _ _ hK h
      | ret => exact hq _ _ _ _ _ hK h
    · cases e with
      | goto l => obtain ⟨h0, a', h1, h2, h3⟩ := h; exact ⟨h0, a', h1, h2, h3.ext hK⟩
      | normal => exact hq _ _ _ _ _ hK h
      | exit id => exact hq _ _ _ _ _ hK h
      | ret => exact hq _ _ _ _ _ hK h

theorem QExt.seq {B : Nat} {b : ACode} {Q : QT} (h : QExt Q) : QExt (seqQ P B b Q) := by
  intro e K K' H nx hK h'
  cases e with
  | normal => exact awp_ext h hK h'
  | exit id => exact h _ _ _ _ _ hK h'
  | ret => exact h _ _ _ _ _ hK h'
  | goto l => exact h _ _ _ _ _ hK h'
theorem QExt.block {id : Nat} {Q : QT} (h : QExt Q) : QExt (blockQ id Q) := by
  intro e K K' H nx hK h'
  cases e with
  | normal => exact h _ _ _ _ _ hK h'
  | exit id' =>
    unfold blockQ at *
    simp only at h' ⊢
    cases hb : Nat.beq id' id <;> rw [hb] at h' <;> exact h _ _ _ _ _ hK h'
  | ret => exact h _ _ _ _ _ hK h'
  | goto l => exact h _ _ _ _ _ hK h'
theorem QExt.loop {B : Nat} {α : Type} {S : α → Kn × AH} {N : Nat} {inv : α → Prop} {μ : α → Nat} {a : α} {Q : QT} (h : QExt Q) : QExt (loopQ B S N inv μ a Q) := by
  intro e K K' H nx hK h'
  cases e with
  | normal => obtain ⟨a', h1, h2, h3⟩ := h'; exact ⟨a', h1, h2, h3.ext hK⟩
  | exit id => exact h _ _ _ _ _ hK h'
  | ret => exact h _ _ _ _ _ hK h'
  | goto l => exact h _ _ _ _ _ hK h'
theorem QExt.join {B : Nat} {α : Type} {S : α → Kn × AH} {N : Nat} {inv : α → Prop} {Q : QT} (h : QExt Q) : QExt (joinQ B S N inv Q) := by
  intro e K K' H nx hK h'
  cases e with
  | normal => obtain ⟨a', h1, h2⟩ := h'; exact ⟨a', h1, h2.ext hK⟩
  | exit id => exact h _ _ _ _ _ hK h'
  | ret => exact h _ _ _ _ _ hK h'
  | goto l => exact h _ _ _ _ _ hK h'
theorem retSide_ext {K K' : Kn} {H : AH} {nx : Nat} (hK : KEq K K') (rs : List ARet) (h : retSide K H nx rs) : retSide K' H nx rs := by
  induction rs with
  | nil => exact h
  | cons r rs ih =>
    cases r with
    | tmp t => exact ih h
    | cell t a n =>
      unfold retSide at h ⊢
      rw [← hK t]
      exact ⟨h.1, ih h.2⟩
theorem retVals_ext {K K' : Kn} {H : AH} {nx : Nat} (hK : KEq K K') (rs : List ARet) : retVals K H nx rs = retVals K' H nx rs := by
  induction rs with
  | nil => rfl
  | cons r rs ih =>
    cases r with
    | tmp t =>
      unfold retVals
      rw [hK t, ih]
    | cell t a n =>
      unfold retVals
      rw [hK t, ih]
theorem QExt.retK {rs : List ARet} {Post : AV → AH → Nat → Prop} : QExt (retK rs Post) := by
  intro e K K' H nx hK h'
  unfold Go.Ab.retK at *
  cases e with
  | exit id => exact h'
  | goto l => exact h'
  | normal => exact ⟨retSide_ext hK _ h'.1, by rw [← retVals_ext hK]; exact h'.2⟩
  | ret => exact ⟨retSide_ext hK _ h'.1, by rw [← retVals_ext hK]; exact h'.2⟩

/-! ### A region that draws its order -/

/-! The state of a region: the slots of the operations done have their values; the rows are those after so many calls. -/

def setAll : Kn → List (Nat × AV) → Kn
  | K, [] => K
  | K, (d, v) :: r => setAll (K.set d v) r

abbrev Plan := List (Nat × List Nat × List Nat)
def beqL : List Nat → List Nat → Bool
  | [], [] => true
  | a :: l, b :: m => Nat.beq a b && beqL l m
  | _, _ => false
theorem beqL_true : ∀ {l m : List Nat}, beqL l m = true → l = m
  | [], [], _ => rfl
  | a :: l, b :: m, h => by
    simp only [beqL, Bool.and_eq_true] at h
    rw [beq_true h.1, beqL_true h.2]
  | [], _ :: _, h => by cases h
  | _ :: _, [], h => by cases h

def memP : Plan → Nat → List Nat → List Nat → Bool
  | [], _, _, _ => false
  | (i, k, k') :: r, a, b, c => (Nat.beq i a && (beqL k b && beqL k' c)) || memP r a b c

def anyP : Plan → Nat → Bool
  | [], _ => false
  | (i, k, k') :: r, a => (Nat.beq i a && beqL k k') || anyP r a

def memS : List (List Nat) → List Nat → Bool
  | [], _ => false
  | a :: r, b => beqL a b || memS r b
theorem memS_iff : ∀ {l : List (List Nat)} {b : List Nat}, memS l b = true → b ∈ l
  | [], _, h => by cases h
  | a :: r, b, h => by
    simp only [memS, Bool.or_eq_true] at h
    rcases h with h | h
    · rw [beqL_true h]; simp
    · exact List.mem_cons_of_mem _ (memS_iff h)

/-- May operation i come, when of those that change rows S are done? -/
def compat (Ls : List Nat) (A : List (List Nat)) (i : Nat) (S : List Nat) : Bool :=
  !memN S i && (Ls.all (fun m => !memN (A.getD i []) m || memN S m) && S.all fun m => !memN (A.getD m []) i)
def nextS (Ls : List Nat) (i : Nat) (S : List Nat) : List Nat := Ls.filter fun m => Nat.beq m i || memN S m

/-- The checks over numbers. A: what must come before each operation, closed; St: which of the operations that change rows (Ls) may be done together. -/
structure DrawOk (ops : List AOper) (deps : List (List Nat)) (Ls : List Nat) (A : List (List Nat)) (St : List (List Nat)) (plan : Plan) (ks : List Nat) : Prop where
  low : ∀ (i : Nat), i < ops.length → ∀ j ∈ deps.getD i [], j < i
  clo : ∀ (i : Nat), i < ops.length → ∀ j ∈ A.getD i [], j ∈ deps.getD i [] ∨ ∃ d ∈ deps.getD i [], j ∈ A.getD d []
  one : ∀ (i j d : Nat), i < ops.length → j < ops.length → (ops.getD i default).dst = some d → (ops.getD j default).dst = some d → i = j
  keys : ∀ k ∈ ks, ∃ o ∈ ops, o.dst = some k
  look : ∀ (i : Nat), i < ops.length → ∀ t ∈ (ops.getD i default).looks, (∃ j ∈ A.getD i [], (ops.getD j default).dst = some t) ∨ ∀ o ∈ ops, o.dst ≠ some t
  lin : ∀ i ∈ Ls, i < ops.length
  st0 : [] ∈ St
  stc : ∀ S ∈ St, ∀ i ∈ Ls, compat Ls A i S = true → nextS Ls i S ∈ St
  plan : ∀ (i : Nat), i < ops.length → ((ops.getD i default).fixed = true ∧ (ops.getD i default).sees = false ∧ i ∉ Ls ∧ anyP plan i = true) ∨
    (i ∉ Ls ∧ ∀ S ∈ St, compat Ls A i S = true → memP plan i S S = true) ∨ (i ∈ Ls ∧ ∀ S ∈ St, compat Ls A i S = true → memP plan i S (nextS Ls i S) = true)

def allB (n : Nat) (p : Nat → Bool) : Bool := (List.range n).all p

def drawOk (ops : List AOper) (deps : List (List Nat)) (Ls : List Nat) (A : List (List Nat)) (St : List (List Nat)) (plan : Plan) (ks : List Nat) : Bool :=
  allB ops.length (fun i => (deps.getD i []).all fun j => Nat.blt j i) &&
  allB ops.length (fun i => (A.getD i []).all fun j => memN (deps.getD i []) j || (deps.getD i []).any fun d => memN (A.getD d []) j) &&
  allB ops.length (fun i => allB i fun j => match (ops.getD i default).dst, (ops.getD j default).dst with | some d, some e => !Nat.beq d e | _, _ => true) &&
  ks.all (fun k => ops.any fun o => match o.dst with | some d => Nat.beq d k | none => false) &&
  allB ops.length (fun i => (ops.getD i default).looks.all fun t => ((A.getD i []).any fun j => match (ops.getD j default).dst with | some d => Nat.beq d t | none => false) || ops.all fun o => match o.dst with | some d => !Nat.beq d t | none => true) &&
  Ls.all (fun i => Nat.blt i ops.length) &&
  memS St [] &&
  St.all (fun S => Ls.all fun i => !compat Ls A i S || memS St (nextS Ls i S)) &&
  allB ops.length (fun i => bif memN Ls i then St.all fun S => !compat Ls A i S || memP plan i S (nextS Ls i S)
    else ((ops.getD i default).fixed && (!(ops.getD i default).sees && anyP plan i)) || St.all fun S => !compat Ls A i S || memP plan i S S)

theorem allB_spec {n : Nat} {p : Nat → Bool} (h : allB n p = true) {i : Nat} (hi : i < n) : p i = true := List.all_eq_true.1 h i (List.mem_range.2 hi)

theorem impB {a b : Bool} (h : (!a || b) = true) (ha : a = true) : b = true := by
  subst ha
  simpa using h

theorem drawOk_ok {ops : List AOper} {deps : List (List Nat)} {Ls : List Nat} {A : List (List Nat)} {St : List (List Nat)} {plan : Plan} {ks : List Nat} (h : drawOk ops deps Ls A St plan ks = true) : DrawOk ops deps Ls A St plan ks := by
  unfold drawOk at h
  simp only [Bool.and_eq_true] at h
  obtain ⟨⟨⟨⟨⟨⟨⟨⟨h1, h2⟩, h3⟩, h4⟩, h5⟩, h6⟩, h7⟩, h8⟩, h9⟩ := h
  have hone : ∀ i j d, i < ops.length → j < i → (ops.getD i default).dst = some d → (ops.getD j default).dst = some d → False := fun i j d hi hj e1 e2 => by
    have := allB_spec (allB_spec h3 hi) hj
    rw [e1, e2] at this
    simp [beq_refl'] at this
  constructor
  · intro i hi j hj
    exact Nat.le_of_ble_eq_true (List.all_eq_true.1 (allB_spec h1 hi) j hj)
  · intro i hi j hj
    have := List.all_eq_true.1 (allB_spec h2 hi) j hj
    rcases Bool.or_eq_true_iff.1 this with this | this
    · exact .inl ((memN_iff _ _).1 this)
    · obtain ⟨d, hd, hm⟩ := List.any_eq_true.1 this
      exact .inr ⟨d, hd, (memN_iff _ _).1 hm⟩
  · intro i j d hi hj e1 e2
    rcases Nat.lt_trichotomy i j with h | h | h
    · exact (hone j i d hj h e2 e1).elim
    · exact h
    · exact (hone i j d hi h e1 e2).elim
  · intro k hk
    obtain ⟨o, ho, hd⟩ := List.any_eq_true.1 (List.all_eq_true.1 h4 k hk)
    refine ⟨o, ho, ?_⟩
    cases e : o.dst with
    | none => rw [e] at hd; cases hd
    | some d => rw [e] at hd; rw [beq_true hd]
  · intro i hi t ht
    have := List.all_eq_true.1 (allB_spec h5 hi) t ht
    rcases Bool.or_eq_true_iff.1 this with this | this
    · obtain ⟨j, hj, hd⟩ := List.any_eq_true.1 this
      refine .inl ⟨j, hj, ?_⟩
      cases e : (ops.getD j default).dst with
      | none => rw [e] at hd; cases hd
      | some d => rw [e] at hd; rw [beq_true hd]
    · refine .inr fun o ho e => ?_
      have := List.all_eq_true.1 this o ho
      rw [e] at this
      simp [beq_refl'] at this
  · intro i hi
    exact Nat.le_of_ble_eq_true (List.all_eq_true.1 h6 i hi)
  · exact memS_iff h7
  · intro S hS i hi hc
    exact memS_iff (impB (List.all_eq_true.1 (List.all_eq_true.1 h8 S hS) i hi) hc)
  · intro i hi
    have := allB_spec h9 hi
    cases hm : memN Ls i with
    | true =>
      rw [hm] at this
      exact .inr (.inr ⟨(memN_iff _ _).1 hm, fun S hS hc => impB (List.all_eq_true.1 this S hS) hc⟩)
    | false =>
      rw [hm] at this
      have hno := memN_false hm
      rcases Bool.or_eq_true_iff.1 this with this | this
      · simp only [Bool.and_eq_true, Bool.not_eq_true'] at this
        exact .inl ⟨this.1, this.2.1, hno, this.2.2⟩
      · exact .inr (.inl ⟨hno, fun S hS hc => impB (List.all_eq_true.1 this S hS) hc⟩)

theorem setAll_get : ∀ {vs : List (Nat × AV)} {K : Kn} {t : Nat}, t ∉ vs.map (·.1) → (setAll K vs).get t = K.get t
  | [], _, _, _ => rfl
  | (d, v) :: r, K, t, h => by
    simp only [List.map_cons, List.mem_cons, not_or] at h
    rw [setAll, setAll_get h.2, Kn.get_set, if_neg h.1]

/-- The state. -/
structure DInv (ops : List AOper) (deps : List (List Nat)) (Ls : List Nat) (St : List (List Nat)) (Kf : Kn) (hs : List Nat → AH × Nat) (l : List Bool) (K : Kn) (H : AH) (nx : Nat) : Prop where
  clo : ∀ i, i < ops.length → getB l i = true → ∀ j ∈ deps.getD i [], getB l j = true
  done : ∀ i d, i < ops.length → getB l i = true → (ops.getD i default).dst = some d → K.get d = Kf.get d
  rest : ∀ t, (∀ o ∈ ops, o.dst ≠ some t) → K.get t = Kf.get t
  here : Ls.filter (getB l) ∈ St
  rows : (H, nx) = hs (Ls.filter (getB l))

end
end Go.Ab

namespace Go.Ab
open Go.RowKit

def AV.lt0 (n : Nat) : AV → Bool
  | .ptr r _ _ _ _ => Nat.blt r n
  | .own r _ _ _ _ => Nat.blt r n
  | .mp r => Nat.blt r n
  | .it r => Nat.blt r n
  | .fn _ _ | .agg _ | .tup _ => false
  | _ => true

theorem AV.lt0_below {n : Nat} {a : AV} (h : a.lt0 n = true) : AV.Below n a := by
  cases a <;> first | (cases h; done) | (constructor; done) | (constructor; exact Nat.le_of_ble_eq_true h)

def elsLt (n : Nat) (els : List (List AV)) : Prop := ∀ c ∈ els, c.all (AV.lt0 n) = true

def rowsLt (n : Nat) : AH → Prop
  | [] => True
  | (r, .row _ els _) :: t => (r < n ∧ elsLt n els) ∧ rowsLt n t
  | (r, .fam _ ins) :: t => (r < n ∧ ∀ p ∈ ins, elsLt n p.1) ∧ rowsLt n t

theorem rowsLt_look {n : Nat} : ∀ {H : AH}, rowsLt n H → ∀ {r : Nat} {o : AObj}, H.look r = some o → r < n ∧ ∀ q sz els g, o.part q = some (.row sz els g) → elsLt n els
  | [], _, _, _, h => by cases h
  | (j, .row s e g0) :: t, h, r, o, hl => by
    simp only [AH.look] at hl
    cases hb : Nat.beq j r with
    | true =>
      rw [hb] at hl
      simp only [cond_true, Option.some.injEq] at hl
      subst hl
      rw [← beq_true hb]
      refine ⟨h.1.1, fun q sz els g hp => ?_⟩
      cases q with
      | zero => simp only [AObj.part, Option.some.injEq, AObj.row.injEq] at hp; rw [← hp.2.1]; exact h.1.2
      | succ q => simp [AObj.part] at hp
    | false => rw [hb] at hl; exact rowsLt_look h.2 hl
  | (j, .fam s ins) :: t, h, r, o, hl => by
    simp only [AH.look] at hl
    cases hb : Nat.beq j r with
    | true =>
      rw [hb] at hl
      simp only [cond_true, Option.some.injEq] at hl
      subst hl
      rw [← beq_true hb]
      refine ⟨h.1.1, fun q sz els g hp => ?_⟩
      cases q with
      | zero => simp [AObj.part] at hp
      | succ i =>
        simp only [AObj.part] at hp
        obtain ⟨p, hp1, hp2⟩ := Option.map_eq_some_iff.1 hp
        cases hp2
        exact h.1.2 p (List.mem_of_getElem? hp1)
    | false => rw [hb] at hl; exact rowsLt_look h.2 hl

theorem rowsLt_get {n : Nat} {H : AH} (h : rowsLt n H) {r q sz : Nat} {els : List (List AV)} {g : Nat} (hg : H.get r q = some (.row sz els g)) : r < n ∧ elsLt n els := by
  unfold AH.get at hg
  obtain ⟨o, h1, h2⟩ := Option.bind_eq_some_iff.1 hg
  have := rowsLt_look h h1
  exact ⟨this.1, this.2 q sz els g h2⟩

theorem live_upto {n : Nat} {H : AH} (h : rowsLt n H) (ι : Inj) (b : Nat) : live (ι.upto n) H b ↔ live ι H b := by
  constructor
  · rintro ⟨r, q, sz, els, g, l, h1, h2, h3, h4⟩
    refine ⟨r, q, sz, els, g, l, h1, ?_, h3, h4⟩
    simp only [Inj.upto] at h2
    split at h2
    · exact h2
    · cases h2
  · rintro ⟨r, q, sz, els, g, l, h1, h2, h3, h4⟩
    exact ⟨r, q, sz, els, g, l, h1, by simp only [Inj.upto]; rw [if_pos (rowsLt_get h h1).1]; exact h2, h3, h4⟩

theorem RelH.low {w : World} {L : Nat → Prop} {ι : Inj} {H : AH} {nx n : Nat} (rel : RelH w L ι H nx) (h : rowsLt n H) : RelH w L (ι.upto n) H n := by
  have hlt : Lt L (ι.upto n) H = Lt L ι H := by
    funext b
    simp only [Lt, live_upto h]
  constructor
  · intro r q sz els g hg
    obtain ⟨l, h1, ok⟩ := rel.row r q sz els g hg
    have hr := rowsLt_get h hg
    refine ⟨l, by simp only [Inj.upto]; rw [if_pos hr.1]; exact h1, ok.hsz, ok.wide, ok.plain, ok.spec, fun i c j a hi hj => ?_⟩
    obtain ⟨v, h2, h3, h4⟩ := ok.hold i c j a hi hj
    rw [hlt]
    exact ⟨v, h2, h3, h4.upto (AV.lt0_below (List.all_eq_true.1 (hr.2 c (List.mem_of_getElem? hi)) a (List.mem_of_getElem? hj)))⟩
  · intro r1 q1 r2 q2 s1 e1 g1 l1 s2 e2 g2 l2 h1 h2 h3 h4
    simp only [Inj.upto] at h3 h4
    rw [if_pos (rowsLt_get h h1).1] at h3
    rw [if_pos (rowsLt_get h h2).1] at h4
    exact rel.apart _ _ _ _ _ _ _ _ _ _ _ _ h1 h2 h3 h4
  · intro b hb
    exact rel.out b ((live_upto h ι b).1 hb)
  · intro r q g l hl
    simp only [Inj.upto] at hl
    split at hl
    · assumption
    · cases hl
  · intro r o hl
    exact (rowsLt_look h hl).1
  · intro r q sz els g hg g2 l hl
    simp only [Inj.upto] at hl
    rw [if_pos (rowsLt_get h hg).1] at hl
    exact rel.gen _ _ _ _ _ hg _ _ hl
  · exact rel.Lsz

/-! rows in the order of their numbers -/
def AH.ins (r : Nat) (o : AObj) : AH → AH
  | [] => [(r, o)]
  | (j, u) :: t => if r = j then (r, o) :: t else if r < j then (r, o) :: (j, u) :: t else (j, u) :: AH.ins r o t
theorem flat_map {α : Type} {f : α → List AV} {l : List α} (h : ∀ a, allFlat (f a) = true) : FlatRows (l.map f) := fun c hc => by
  obtain ⟨a, _, rfl⟩ := List.mem_map.1 hc
  exact h a
theorem flat_one {c : List AV} (h : allFlat c = true) : FlatRows [c] := fun d hd => by rw [List.mem_singleton.1 hd]; exact h
theorem flat_nil : FlatRows [] := fun d hd => by cases hd
theorem flat_cons {c : List AV} {l : List (List AV)} (h : allFlat c = true) (h2 : FlatRows l) : FlatRows (c :: l) := fun d hd => by
  rcases List.mem_cons.1 hd with rfl | hd
  · exact h
  · exact h2 d hd
theorem flat_plus {l m : List (List AV)} (h : FlatRows l) (h2 : FlatRows m) : FlatRows (l ++ m) := fun d hd => by
  rcases List.mem_append.1 hd with hd | hd
  · exact h d hd
  · exact h2 d hd
theorem vwl_flat {H HH : AH} {σ : Nat → Nat → Option (Nat × Nat × Nat)} {D : Nat → Nat → Prop} {t : Bool} : ∀ {l : List AV}, allFlat l = true → VwL H HH σ D t l l
  | [], _ => trivial
  | a :: l, h => by
    simp only [allFlat, Bool.and_eq_true] at h
    exact ⟨vw_flat0 h.1, vwl_flat h.2⟩
theorem RowV.of_flat {H HH : AH} {σ : Nat → Nat → Option (Nat × Nat × Nat)} {D : Nat → Nat → Prop} {els : List (List AV)} (h : FlatRows els) : RowV H HH σ D els els := rowV_flat h

end Go.Ab

namespace Go.Ab
open Go.RowKit

theorem evA : type_of% @evS ∧ type_of% @evZ ∧ type_of% @evX ∧ type_of% @evK ∧ type_of% @evB ∧ type_of% @evL ∧ type_of% @evR := ⟨@evS, @evZ, @evX, @evK, @evB, @evL, @evR⟩
theorem evWA : type_of% @evW ∧ type_of% @evK ∧ type_of% @evB ∧ type_of% @evL := ⟨@evW, @evK, @evB, @evL⟩
theorem dis1 {p : Prop} (h : p := by first | omega | (simp only [evF, evL, implies_true, and_self]; done) | fail) : p := h
theorem fin1 {p : Prop} (h : p := by (repeat' with_reducible apply And.intro) <;> first | omega | exact vw_nats rfl rfl (by omega) | exact vw_ints rfl rfl (by omega) | exact vw_bools rfl rfl (by omega) | exact rowV_flat (by repeat' first | exact bytes_flat | exact flat1 | refine flat_app ?_ ?_) | exact rowV_fe (fun _ => rfl) | exact rowV_fe_start (c := cN) (fun _ => rfl) rfl | exact rowsV_fam (fun _ => rfl) (by decide) ⟨rfl, rfl⟩ trivial | exact rowsV_fam (fun _ => rfl) (by decide) (fun _ _ => ⟨rfl, rfl⟩) trivial | (simp; done) | fail) : p := h
theorem fin2 {p : Prop} (h : p := by ((repeat' with_reducible apply And.intro) <;> first | omega | rfl | exact vwl_flat rfl | (refine RowV.of_flat ?_; (repeat' (first | exact flat_map (fun _ => rfl) | exact flat_map (fun _ => encN_flat) | exact flat_map (fun _ => encX_flat) | exact flat_one encN_flat | exact flat_one encX_flat | exact flat_rep rfl | exact flat_nil | exact flat_one rfl | refine flat_plus ?_ ?_ | refine flat_cons rfl ?_ | refine flat_cons encN_flat ?_ | refine flat_cons encX_flat ?_)); done) | ((repeat' (first | exact flat_map (fun _ => rfl) | exact flat_map (fun _ => encN_flat) | exact flat_map (fun _ => encX_flat) | exact flat_one encN_flat | exact flat_one encX_flat | exact flat_rep rfl | exact flat_nil | exact flat_one rfl | refine flat_plus ?_ ?_ | refine flat_cons rfl ?_ | refine flat_cons encN_flat ?_ | refine flat_cons encX_flat ?_)); done) | exact vw_nats rfl rfl (by omega) | exact vw_ints rfl rfl (by omega) | exact vw_bools rfl rfl (by omega) | exact rowV_fe (fun _ => rfl) | exact rowsV_fam (fun _ => rfl) (by decide) ⟨rfl, rfl⟩ trivial | exact rowsV_fam (fun _ => rfl) (by decide) (fun _ _ => ⟨rfl, rfl⟩) trivial | (simp; done) | fail)) : p := h

end Go.Ab
