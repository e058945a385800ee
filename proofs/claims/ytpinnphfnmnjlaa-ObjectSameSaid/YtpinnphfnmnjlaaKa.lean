/-
  Part 1 of the proof: how the calls of this program run, over values instead of memory, and what each function computes.
-/
set_option linter.unusedVariables false
set_option linter.unusedSimpArgs false
set_option linter.unnecessarySimpa false
set_option linter.unusedSectionVars false

namespace Go.Ab

structure Sec where
  name : ByteArray
  addr : UInt32
  data : List UInt8
  wr : Bool
  ex : Bool

structure Sym where
  name : ByteArray
  addr : UInt32
  kind : Int

structure Rel where
  sec : Int
  off : Int
  kind : Int
  sym : ByteArray
  add : Int

structure Bin where
  entry : UInt32
  secs : List Sec
  syms : List Sym
  rels : List Rel

def okByte (n : Nat) : Bool := decide (97 ≤ n ∧ n ≤ 122) || decide (65 ≤ n ∧ n ≤ 90) || decide (48 ≤ n ∧ n ≤ 57) || decide (n = 95) || decide (n = 46)
def nameOk (s : ByteArray) : Bool := s.data.toList.all (fun b => okByte b.toNat) && decide (1 ≤ s.size) && decide (s.size ≤ 32)

/-- The address after a section. -/
def Sec.to (s : Sec) : Nat := min (s.addr.toNat + s.data.length) 4294967295
/-- Do two sections share an address? -/
def meetS (x s : Sec) : Bool := decide (max x.addr.toNat s.addr.toNat < min x.to s.to)
def stackS (s : Sec) : Bool := decide (max s.addr.toNat 978944 < min s.to 983040)

def findS (l : List Sec) (a : UInt32) : Option Nat := l.findIdx? fun s => decide (s.addr.toNat ≤ a.toNat) && decide (a.toNat < s.to)

/-- The error of a section behind others. -/
def oneS (pre : List Sec) (s : Sec) : Int :=
  if 65536 < s.data.length then 6 else if nameOk s.name = false then 3 else if (pre.any fun x => decide (x.name = s.name)) = true then 8
  else if 4294967295 < s.addr.toNat + s.data.length ∨ stackS s = true then 7 else 0

/-- The first error that f reports of the elements of a list, each with those before it. -/
def firstE {α : Type} (f : List α → α → Int) (l : List α) : Nat → Nat → Int
  | 0, _ => 0
  | n + 1, i => match l[i]? with
    | some x => if f (l.take i) x ≠ 0 then f (l.take i) x else firstE f l n (i + 1)
    | none => 0

def lapS (pre : List Sec) (s : Sec) : Int := if (pre.any fun x => meetS x s) = true then 10 else 0

def checkS (l : List Sec) : Int :=
  if 16 < l.length then 6 else if firstE oneS l l.length 0 ≠ 0 then firstE oneS l l.length 0 else firstE lapS l l.length 0

theorem firstE_step {α : Type} {f : List α → α → Int} {l : List α} {n i : Nat} (h : i < l.length) : firstE f l (n + 1) i = if f (l.take i) l[i] ≠ 0 then f (l.take i) l[i] else firstE f l n (i + 1) := by
  simp only [firstE, List.getElem?_eq_getElem h]
theorem firstE_end {α : Type} {f : List α → α → Int} {l : List α} {n i : Nat} (h : l.length ≤ i) : firstE f l n i = 0 := by
  cases n with
  | zero => rfl
  | succ n => simp only [firstE, List.getElem?_eq_none h]

def symName (_ : List Sym) (s : Sym) : Int := if nameOk s.name = false then 3 else 0
def symTwice (pre : List Sym) (s : Sym) : Int := if (pre.any fun x => decide (x.name = s.name)) = true then 8 else 0
def symKind (_ : List Sym) (s : Sym) : Int := if s.kind ≠ 1 ∧ s.kind ≠ 2 then 2 else 0
def thenE (a b : Int) : Int := if a ≠ 0 then a else b
def checkY (l : List Sym) : Int :=
  if 256 < l.length then 6 else thenE (firstE symName l l.length 0) (thenE (firstE symTwice l l.length 0) (firstE symKind l l.length 0))

def oneR (o : Bin) (_ : List Rel) (r : Rel) : Int :=
  if (r.kind ≠ 1 ∧ r.kind ≠ 2) ∨ r.sec < 0 ∨ (o.secs.length : Int) ≤ r.sec then 2
  else if r.off < 0 ∨ ((match o.secs[r.sec.toNat]? with | some s => (s.data.length : Int) | none => 0) - 4 < r.off) then 7
  else if (o.syms.any fun s => decide (s.name = r.sym)) = false then 17 else 0

def nearR (a b : Rel) : Bool := decide (a.sec = b.sec) && decide (a.off - b.off < 4) && decide (b.off - a.off < 4)
def lapR (pre : List Rel) (r : Rel) : Int := if (pre.any fun x => nearR r x) = true then 10 else 0

def checkR (o : Bin) : Int :=
  thenE (checkS o.secs) (thenE (checkY o.syms) (if 256 < o.rels.length then 6 else thenE (firstE (oneR o) o.rels o.rels.length 0) (firstE lapR o.rels o.rels.length 0)))

def checkO (o : Bin) : Int :=
  thenE (checkR o) (match findS o.secs o.entry with
    | some k => match o.secs[k]? with
      | some s => if s.ex then 0 else 11
      | none => 11
    | none => 11)

end Go.Ab
