/-
  Part 1 of the proof: how the calls of this program run, over values instead of memory, and what each function computes.
-/
set_option linter.unusedVariables false
set_option linter.unusedSimpArgs false

namespace Go.Ab

/-- The successors of each node. -/
abbrev Adj := List (List Nat)
def suc (E : Adj) (k : Nat) : List Nat := E.getD k []
/-- All successors are nodes. -/
def Adj.ok (E : Adj) : Prop := ∀ k, ∀ n ∈ suc E k, n < E.length

/-- One more node. -/
def fromAdd (x : Int) (out : List Nat) (c : Nat) : List Nat := if (c : Int) ≠ x ∧ c ∉ out then out ++ [c] else out
def fromGo (E : Adj) (x : Int) : Nat → Nat → List Nat → List Nat
  | 0, _, out => out
  | f + 1, i, out => match out[i]? with
    | some b => fromGo E x f (i + 1) ((suc E b).foldl (fromAdd x) out)
    | none => out
def fromL (E : Adj) (a x : Int) : List Nat := if a = x ∨ a < 0 ∨ (E.length : Int) ≤ a then [] else fromGo E x E.length 0 [a.toNat]

def reachL (E : Adj) : List Bool := (List.range E.length).map fun b => decide (b ∈ fromL E 0 (-1))
def predL (E : Adj) : List (List Nat) := (List.range E.length).map fun b => (List.range E.length).filter fun a => decide (b ∈ suc E a)

/-- A search: (seen, post). -/
def dfs (E : Adj) : Nat → Nat → List Nat × List Nat → List Nat × List Nat
  | 0, _, s => s
  | f + 1, k, s =>
    let s1 := (suc E k).foldl (fun s n => if n ∈ s.1 then s else dfs E f n s) (s.1 ++ [k], s.2)
    (s1.1, s1.2 ++ [k])
def orderL (E : Adj) : List Nat := if E.length = 0 then [] else (dfs E E.length 0 ([], [])).2.reverse

/-- The strict dominators of each node. -/
def sdomP (E : Adj) (a b : Nat) : Bool := decide (a ∈ fromL E 0 (-1)) && decide (b ∈ fromL E 0 (-1)) && decide (b ≠ a) && decide (b ∉ fromL E 0 a)
def strictL (E : Adj) : List (List Nat) := (List.range E.length).map fun b => (List.range E.length).filter fun a => sdomP E a b

/-- The element of a list whose own list is the longest one, or -1. -/
def nearAdd (l : List (List Nat)) (best : Int) (a : Nat) : Int := if best < 0 ∨ (suc l best.toNat).length < (suc l a).length then a else best
def nearL (l : List (List Nat)) (b : Nat) : Int := (suc l b).foldl (nearAdd l) (-1)
def treeL (E : Adj) : List Int := (List.range E.length).map (nearL (strictL E))

/-- Does a come up, from b on? -/
def domGo (t : List Int) (a : Int) : Nat → Int → Bool
  | 0, _ => false
  | f + 1, b => if 0 ≤ b ∧ b < t.length then (if a = b then true else domGo t a f (t.getD b.toNat 0)) else false
def domL (t : List Int) (a b : Int) : Bool := if a < 0 ∨ (t.length : Int) ≤ a then false else domGo t a (t.length + 1) b

def frontP (E : Adj) (b w : Nat) : Bool :=
  decide (b ∈ fromL E 0 (-1)) && (suc (predL E) w).any (fun v => decide (v ∈ fromL E 0 (-1)) && (v == b || decide (b ∈ suc (strictL E) v))) && decide (b ∉ suc (strictL E) w)
def frontL (E : Adj) : List (List Nat) := (List.range E.length).map fun b => (List.range E.length).filter fun w => frontP E b w

def leavesL (E : Adj) (l : List Nat) : Bool := l.any fun k => (suc E k).isEmpty
def pdomP (E : Adj) (b a : Nat) : Bool := leavesL E (fromL E b (-1)) && decide (a ≠ b) && !leavesL E (fromL E b a)
def postsL (E : Adj) : List (List Nat) := (List.range E.length).map fun b => (List.range E.length).filter fun a => pdomP E b a
def postL (E : Adj) : List Int := (List.range E.length).map (nearL (postsL E))

/-! ### Paths -/

/-- A path from a that avoids X. -/
inductive RA (E : Adj) (X : Nat → Prop) (a : Nat) : Nat → Prop
  | refl : ¬ X a → RA E X a a
  | step {b c : Nat} : RA E X a b → c ∈ suc E b → ¬ X c → RA E X a c

end Go.Ab
