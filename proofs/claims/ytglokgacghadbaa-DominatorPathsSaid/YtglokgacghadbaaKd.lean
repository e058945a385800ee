/-
  Part 4 of the proof: how the calls of this program run, over values instead of memory, and what each function computes.
-/
import Derived.ProofKit
import Derived.Test.YtglokgacghadbaaRows
import Derived.WalkKit
import Derived.OpenShut
import Derived.ShutString
import Derived.ChangeOld
import Derived.Below
import Derived.Test.YtglokgacghadbaaProg
import Derived.KernelRfl
import Derived.Test.YtglokgacghadbaaKc
set_option linter.unusedVariables false
set_option linter.unusedSimpArgs false

namespace Go.Ab
open Go.RowKit

section
variable {H HH : AH} {σ : Nat → Nat → Option (Nat × Nat × Nat)} {D : Nat → Nat → Prop} {t : Bool}

theorem vw_int_iff {k k' : IntKind} {n m : Int} : Vw H HH σ D t (.int k n) (.int k' m) = (k = k' ∧ n = m) := by
  refine propext ⟨fun h => by cases h; exact ⟨rfl, rfl⟩, ?_⟩
  rintro ⟨rfl, rfl⟩
  exact .int _ _ _
theorem vw_bool_iff {a b : Bool} : Vw H HH σ D t (.bool a) (.bool b) = (a = b) := by
  refine propext ⟨fun h => by cases h; rfl, ?_⟩
  rintro rfl
  exact .bool _ _
theorem vw_own_iff {r q g o n r' q' g' o' n' : Nat} : Vw H HH σ D true (.own r q g o n) (.own r' q' g' o' n') = ((σ r' q' = some (r, q, g - g') ∧ g' ≤ g) ∧ o = o' ∧ n = n') := by
  refine propext ⟨fun h => ?_, ?_⟩
  · cases h
    rename_i d hs hg
    subst hg
    exact ⟨⟨by rw [hs, Nat.add_sub_cancel_left], by omega⟩, rfl, rfl⟩
  · rintro ⟨⟨h1, h2⟩, rfl, rfl⟩
    exact .own r q g (g - g') o n r' q' g' h1 (by omega)
theorem vw_ptr_iff {r q g i f r' q' g' i' f' : Nat} : Vw H HH σ D true (.ptr r q g i f) (.ptr r' q' g' i' f') = ((σ r' q' = some (r, q, g - g') ∧ g' ≤ g) ∧ i = i' ∧ f = f') := by
  refine propext ⟨fun h => ?_, ?_⟩
  · cases h
    rename_i d hs hg
    subst hg
    exact ⟨⟨by rw [hs, Nat.add_sub_cancel_left], by omega⟩, rfl, rfl⟩
  · rintro ⟨⟨h1, h2⟩, rfl, rfl⟩
    exact .ptr r q g (g - g') i f r' q' g' h1 (by omega)

/-- Lists of values, one by one. -/
def VwL (H HH : AH) (σ : Nat → Nat → Option (Nat × Nat × Nat)) (D : Nat → Nat → Prop) (t : Bool) : List AV → List AV → Prop
  | [], [] => True
  | a :: l, b :: m => Vw H HH σ D t a b ∧ VwL H HH σ D t l m
  | _, _ => False

theorem VwL.get : ∀ {l m : List AV}, VwL H HH σ D t l m → l.length = m.length ∧ ∀ (i : Nat) (a b : AV), l[i]? = some a → m[i]? = some b → Vw H HH σ D t a b
  | [], [], _ => ⟨rfl, fun i a b h => by cases h⟩
  | a :: l, b :: m, h => by
    obtain ⟨h1, h2⟩ := VwL.get h.2
    refine ⟨by simp [h1], fun i x y hx hy => ?_⟩
    cases i with
    | zero => cases hx; cases hy; exact h.1
    | succ i => exact h2 i x y (by simpa using hx) (by simpa using hy)
  | [], b :: m, h => h.elim
  | a :: l, [], h => h.elim

theorem VwL.of : ∀ {l m : List AV}, l.length = m.length → (∀ (i : Nat) (a b : AV), l[i]? = some a → m[i]? = some b → Vw H HH σ D t a b) → VwL H HH σ D t l m
  | [], [], _, _ => trivial
  | a :: l, b :: m, h, hh => ⟨hh 0 a b rfl rfl, VwL.of (by simpa using h) (fun i x y hx hy => hh (i + 1) x y (by simpa using hx) (by simpa using hy))⟩
  | [], b :: m, h, _ => by cases h
  | a :: l, [], h, _ => by cases h

theorem vw_fn_iff {f f' : Fn} {l m : List AV} : Vw H HH σ D t (.fn f l) (.fn f' m) = (f = f' ∧ VwL H HH σ D t l m) := by
  refine propext ⟨fun h => ?_, ?_⟩
  · cases h with
    | fn _ _ _ _ hl h => exact ⟨rfl, VwL.of hl h⟩
  · rintro ⟨rfl, h⟩
    exact .fn _ _ _ _ h.get.1 h.get.2
theorem vw_agg_iff {l m : List AV} : Vw H HH σ D t (.agg l) (.agg m) = VwL H HH σ D t l m := by
  refine propext ⟨fun h => ?_, fun h => .agg _ _ _ h.get.1 h.get.2⟩
  cases h with
  | agg _ _ _ hl h => exact VwL.of hl h
theorem vw_tup_iff {l m : List AV} : Vw H HH σ D t (.tup l) (.tup m) = VwL H HH σ D t l m := by
  refine propext ⟨fun h => ?_, fun h => .tup _ _ _ h.get.1 h.get.2⟩
  cases h with
  | tup _ _ _ hl h => exact VwL.of hl h

theorem vw_new_iff {r' q' g' o n : Nat} : Vw H HH σ D true .nilsl (.own r' q' g' o n) = (σ r' q' = none ∧ (∃ sz, HH.get r' q' = some (.row sz [] 0)) ∧ g' = 0 ∧ o = 0 ∧ n = 0) := by
  refine propext ⟨fun h => ?_, ?_⟩
  · cases h with
    | new _ _ sz hs hg => exact ⟨hs, ⟨sz, hg⟩, rfl, rfl, rfl⟩
  · rintro ⟨h1, ⟨sz, h2⟩, rfl, rfl, rfl⟩
    exact .new _ _ sz h1 h2

/-- A row, seen otherwise. -/
def rowIs (H HH : AH) (σ : Nat → Nat → Option (Nat × Nat × Nat)) (D : Nat → Nat → Prop) (sz : Nat) (els2 : List (List AV)) (g : Nat) (o : Option AObj) : Prop := match o with
  | some (.row sz' els g') => (sz' = sz ∧ g' = g) ∧ RowV H HH σ D els els2
  | _ => False

def rowAt (H HH : AH) (tb : Tab) (ds : List Nat) (sz : Nat) (els2 : List (List AV)) (g2 : Nat) : Option (Nat × Nat) → Prop
  | some (r, d) => rowIs H HH tb.sig (inD ds) sz els2 (g2 + d) (H.get r 0)
  | none => els2 = [] ∧ g2 = 0

theorem rowsV_row_iff {tb : Tab} {ds : List Nat} {n r' sz g2 : Nat} {els2 : List (List AV)} {u : AH} :
    rowsV H HH tb ds n ((r', .row sz els2 g2) :: u) = (r' < n ∧ rowAt H HH tb ds sz els2 g2 (tb.at r') ∧ rowsV H HH tb ds n u) := by
  simp only [rowsV, Nat.blt_eq]
  congr 2
  cases tb.at r' with
  | none => rfl
  | some p =>
    obtain ⟨r, d⟩ := p
    simp only [rowAt, rowIs]
    refine propext ⟨?_, fun h => ?_⟩
    · rintro ⟨els, h1, h2⟩
      rw [h1]
      exact ⟨⟨rfl, rfl⟩, h2⟩
    · cases ho : H.get r 0 with
      | none => rw [ho] at h; exact h.elim
      | some o =>
        rw [ho] at h
        cases o with
        | fam _ _ => exact h.elim
        | row sz' els g' =>
          obtain ⟨⟨rfl, rfl⟩, h⟩ := h
          exact ⟨els, rfl, h⟩

theorem rowV_flat {els : List (List AV)} (h : ∀ c ∈ els, allFlat c = true) : RowV H HH σ D els els := by
  intro i c2 hi
  refine ⟨c2, hi, rfl, fun j x y h1 h2 => ?_⟩
  rw [h1] at h2
  cases h2
  exact vw_flat0 (allFlat_get (h c2 (List.mem_of_getElem? hi)) h1)

theorem rowV_refl_iff {els : List (List AV)} (h : ∀ c ∈ els, allFlat c = true) : RowV H HH σ D els els = True := eq_true (rowV_flat h)

/-- Rows without references. -/
def FlatRows (els : List (List AV)) : Prop := ∀ c ∈ els, allFlat c = true
theorem flatRows_nil : FlatRows [] = True := by simp [FlatRows]
theorem flatRows_cons {c : List AV} {l : List (List AV)} : FlatRows (c :: l) = (allFlat c = true ∧ FlatRows l) := by simp [FlatRows]
theorem flatRows_append {l m : List (List AV)} : FlatRows (l ++ m) = (FlatRows l ∧ FlatRows m) := by
  unfold FlatRows
  simp only [List.mem_append, eq_iff_iff]
  exact ⟨fun h => ⟨fun c hc => h c (.inl hc), fun c hc => h c (.inr hc)⟩, fun h c hc => hc.elim (h.1 c) (h.2 c)⟩
theorem flatRows_map {α : Type} {f : α → List AV} {l : List α} : FlatRows (l.map f) = ∀ a ∈ l, allFlat (f a) = true := by simp [FlatRows]
theorem flatRows_rep {n : Nat} {c : List AV} (h : allFlat c = true) : FlatRows (List.replicate n c) = True := by
  refine eq_true fun x hx => ?_
  rw [(List.mem_replicate.1 hx).2]
  exact h
theorem flatRows_set {l : List (List AV)} {i : Nat} {c : List AV} (h : allFlat c = true) (hl : FlatRows l) : FlatRows (l.set i c) = True := by
  refine eq_true fun x hx => ?_
  rcases List.mem_or_eq_of_mem_set hx with hx | rfl
  · exact hl x hx
  · exact h

theorem rowV_snoc {A : List (List AV)} {a b : List AV} (h : FlatRows A) : RowV H HH σ D (A ++ [a]) (A ++ [b]) = VwL H HH σ D true a b := by
  refine propext ⟨fun hr => ?_, fun hv => ?_⟩
  · obtain ⟨c, h1, h2, h3⟩ := hr A.length b (by simp)
    simp at h1
    subst h1
    exact VwL.of h2.symm h3
  · intro i c2 hi
    by_cases hlt : i < A.length
    · rw [List.getElem?_append_left hlt] at hi
      refine ⟨c2, by rw [List.getElem?_append_left hlt]; exact hi, rfl, fun j x y h1 h2 => ?_⟩
      rw [h1] at h2
      cases h2
      exact vw_flat0 (allFlat_get (h c2 (List.mem_of_getElem? hi)) h1)
    · have he : i = A.length := by
        have := (List.getElem?_eq_some_iff.1 hi).1
        simp at this
        omega
      subst he
      simp at hi
      subst hi
      exact ⟨a, by simp, hv.get.1.symm, hv.get.2⟩

abbrev cI (n : Int) : List AV := [.int .i64 n]
abbrev cN (n : Nat) : List AV := [.int .i64 (n : Int)]
abbrev cB (b : Bool) : List AV := [.bool b]

theorem rowV_nil_iff : RowV H HH σ D [] [] = True := eq_true (rowV_flat (by simp))
theorem rowV_one {a b : List AV} : RowV H HH σ D [a] [b] = VwL H HH σ D true a b := by
  refine propext ⟨fun h => ?_, fun h => ?_⟩
  · obtain ⟨c, h1, h2, h3⟩ := h 0 b rfl
    cases h1
    exact VwL.of h2.symm h3
  · intro i c2 hi
    cases i with
    | zero => cases hi; exact ⟨a, rfl, h.get.1.symm, h.get.2⟩
    | succ i => simp at hi

theorem sig_nil {r' q' : Nat} : Tab.sig [] r' q' = none := rfl
theorem sig_cons {a b d r' q' : Nat} {tb : Tab} : Tab.sig ((a, b, d) :: tb) r' q' = bif a == r' then some (b, q', d) else Tab.sig tb r' q' := by
  unfold Tab.sig
  simp only [Tab.at, beq_eq]
  cases a == r' <;> rfl
theorem at_nil {x : Nat} : Tab.at [] x = none := rfl
theorem at_cons {a b d x : Nat} {tb : Tab} : Tab.at ((a, b, d) :: tb) x = bif a == x then some (b, d) else Tab.at tb x := by simp only [Tab.at, beq_eq]

end

theorem take_map_len {α β : Type} {f : α → β} {l : List α} : (l.map f).take l.length = l.map f := by rw [List.take_of_length_le (by simp)]

/-- Small equations, in one. -/
theorem evU : (∀ {α β : Type} {f : α → β} {asv : List α}, (asv.map f).length = asv.length) ∧ (∀ {α β : Type} {f : α → β} {l : List α}, (l.map f).take l.length = l.map f) ∧ (∀ {α : Type} {l : List α}, l.take l.length = l) ∧
    (∀ n : Nat, n * 1 = n) ∧ (∀ n : Nat, 1 * n = n) ∧ ((!true) = false) ∧ ((!false) = true) ∧ (∀ {α β : Type} {f : α → β} {a : α}, (some a).map f = some (f a)) ∧ (∀ {h : Decidable True}, @decide True h = true) ∧ (∀ {h : Decidable False}, @decide False h = false) ∧
    (∀ b : Bool, (false != b) = b) ∧ (∀ b : Bool, (true != b) = !b) ∧ (∀ b : Bool, (b != false) = b) ∧ (∀ b : Bool, (b != true) = !b) :=
  ⟨List.length_map _, take_map_len, List.take_length, Nat.mul_one, Nat.one_mul, rfl, rfl, rfl, decide_true _, decide_false _, Bool.false_bne, Bool.true_bne, Bool.bne_false, Bool.bne_true⟩

theorem evV : (∀ n : Nat, (n < n) = False) ∧ (∀ {α β : Type} {f : α → β} {a b : List α}, (a ++ b).map f = a.map f ++ b.map f) ∧ (∀ {α β : Type} {f : α → β} {a : α} {l : List α}, (a :: l).map f = f a :: l.map f) ∧ (∀ {α β : Type} {f : α → β}, [].map f = []) ∧
    (∀ {α : Type} {a b : List α}, (a ++ b).length = a.length + b.length) ∧ (∀ {α : Type} {a : α} {l : List α}, (a :: l).length = l.length + 1) ∧ (∀ {α : Type}, ([] : List α).length = 0) ∧ (∀ {α : Type} {p : α → Bool}, [].filter p = []) ∧ (∀ {α : Type} {l : List α}, l.take 0 = []) ∧
    (∀ {α β : Type} {f : α → β} {l : List α}, (l.map f).length = l.length) ∧ (∀ {α : Type} {n : Nat} {a : α}, (List.replicate n a).length = n) ∧ (∀ {α : Type} {l : List α} {i : Nat} {a : α}, (l.set i a).length = l.length) ∧
    (∀ a b : Nat, ((a + b : Nat) : Int) = a + b) ∧ (∀ a : Int, 0 + a = a) ∧ (∀ n : Nat, n + 0 = n) ∧ (∀ n : Nat, n - n = 0) ∧ (∀ n : Nat, n - 0 = n) :=
  ⟨fun _ => eq_false (Nat.lt_irrefl _), List.map_append, rfl, rfl, List.length_append, rfl, rfl, rfl, List.take_zero, List.length_map _, List.length_replicate, List.length_set, Int.natCast_add, Int.zero_add, Nat.add_zero, Nat.sub_self, Nat.sub_zero⟩

/-- What is known, seen otherwise. -/
theorem evW :
  (∀ {H HH : AH} {tb : Tab} {ds : List Nat} {K : Kn}, slotsV H HH tb ds [] K = True) ∧
  (∀ {H HH : AH} {tb : Tab} {ds : List Nat} {K : Kn} {j : Nat} {v : AV} {u : Kn}, slotsV H HH tb ds ((j, v) :: u) K = (Vw H HH tb.sig (inD ds) true (K.get j) v ∧ slotsV H HH tb ds u K)) ∧
  (∀ {H HH : AH} {tb : Tab} {ds : List Nat} {n : Nat}, rowsV H HH tb ds n [] = True) ∧
  (∀ {H HH : AH} {tb : Tab} {ds : List Nat} {n r' sz g2 : Nat} {els2 : List (List AV)} {u : AH}, rowsV H HH tb ds n ((r', .row sz els2 g2) :: u) = (r' < n ∧ rowAt H HH tb ds sz els2 g2 (tb.at r') ∧ rowsV H HH tb ds n u)) ∧
  (∀ {H HH : AH} {tb : Tab} {ds : List Nat} {sz g2 r d : Nat} {els2 : List (List AV)}, rowAt H HH tb ds sz els2 g2 (some (r, d)) = rowIs H HH tb.sig (inD ds) sz els2 (g2 + d) (H.get r 0)) ∧
  (∀ {H HH : AH} {tb : Tab} {ds : List Nat} {sz g2 : Nat} {els2 : List (List AV)}, rowAt H HH tb ds sz els2 g2 none = (els2 = [] ∧ g2 = 0)) ∧
  (∀ {H HH : AH} {σ : Nat → Nat → Option (Nat × Nat × Nat)} {D : Nat → Nat → Prop} {sz g sz' g' : Nat} {els els2 : List (List AV)}, rowIs H HH σ D sz els2 g (some (.row sz' els g')) = ((sz' = sz ∧ g' = g) ∧ RowV H HH σ D els els2)) ∧
  (∀ {H HH : AH} {σ : Nat → Nat → Option (Nat × Nat × Nat)} {D : Nat → Nat → Prop}, RowV H HH σ D [] [] = True) ∧
  (∀ {H HH : AH} {σ : Nat → Nat → Option (Nat × Nat × Nat)} {D : Nat → Nat → Prop} {A : List (List AV)} {a b : List AV}, FlatRows A → RowV H HH σ D (A ++ [a]) (A ++ [b]) = VwL H HH σ D true a b) ∧
  (∀ {H HH : AH} {σ : Nat → Nat → Option (Nat × Nat × Nat)} {D : Nat → Nat → Prop} {els : List (List AV)}, FlatRows els → RowV H HH σ D els els = True) ∧
  (FlatRows [] = True) ∧ (∀ {c : List AV} {l : List (List AV)}, FlatRows (c :: l) = (allFlat c = true ∧ FlatRows l)) ∧ (∀ {l m : List (List AV)}, FlatRows (l ++ m) = (FlatRows l ∧ FlatRows m)) ∧
  (∀ {α : Type} {f : α → List AV} {l : List α}, FlatRows (l.map f) = ∀ a ∈ l, allFlat (f a) = true) ∧ (∀ {n : Nat} {c : List AV}, allFlat c = true → FlatRows (List.replicate n c) = True) ∧
  (∀ {l : List (List AV)} {i : Nat} {c : List AV}, allFlat c = true → FlatRows l → FlatRows (l.set i c) = True) ∧
  (∀ {H HH : AH} {σ : Nat → Nat → Option (Nat × Nat × Nat)} {D : Nat → Nat → Prop} {t : Bool} {a : AV}, a.flat0 = true → Vw H HH σ D t a a = True) ∧
  (∀ {H HH : AH} {σ : Nat → Nat → Option (Nat × Nat × Nat)} {D : Nat → Nat → Prop} {a b : List AV}, RowV H HH σ D [a] [b] = VwL H HH σ D true a b) ∧
  (∀ {H HH : AH} {σ : Nat → Nat → Option (Nat × Nat × Nat)} {D : Nat → Nat → Prop} {t : Bool}, VwL H HH σ D t [] [] = True) ∧
  (∀ {H HH : AH} {σ : Nat → Nat → Option (Nat × Nat × Nat)} {D : Nat → Nat → Prop} {t : Bool} {a b : AV} {l m : List AV}, VwL H HH σ D t (a :: l) (b :: m) = (Vw H HH σ D t a b ∧ VwL H HH σ D t l m)) ∧
  (∀ {H HH : AH} {σ : Nat → Nat → Option (Nat × Nat × Nat)} {D : Nat → Nat → Prop} {t : Bool} {k k' : IntKind} {n m : Int}, Vw H HH σ D t (.int k n) (.int k' m) = (k = k' ∧ n = m)) ∧
  (∀ {H HH : AH} {σ : Nat → Nat → Option (Nat × Nat × Nat)} {D : Nat → Nat → Prop} {t : Bool} {a b : Bool}, Vw H HH σ D t (.bool a) (.bool b) = (a = b)) ∧
  (∀ {H HH : AH} {σ : Nat → Nat → Option (Nat × Nat × Nat)} {D : Nat → Nat → Prop} {r q g o n r' q' g' o' n' : Nat}, Vw H HH σ D true (.own r q g o n) (.own r' q' g' o' n') = ((σ r' q' = some (r, q, g - g') ∧ g' ≤ g) ∧ o = o' ∧ n = n')) ∧
  (∀ {H HH : AH} {σ : Nat → Nat → Option (Nat × Nat × Nat)} {D : Nat → Nat → Prop} {r q g i f r' q' g' i' f' : Nat}, Vw H HH σ D true (.ptr r q g i f) (.ptr r' q' g' i' f') = ((σ r' q' = some (r, q, g - g') ∧ g' ≤ g) ∧ i = i' ∧ f = f')) ∧
  (∀ {H HH : AH} {σ : Nat → Nat → Option (Nat × Nat × Nat)} {D : Nat → Nat → Prop} {t : Bool} {f f' : Fn} {l m : List AV}, Vw H HH σ D t (.fn f l) (.fn f' m) = (f = f' ∧ VwL H HH σ D t l m)) ∧
  (∀ {H HH : AH} {σ : Nat → Nat → Option (Nat × Nat × Nat)} {D : Nat → Nat → Prop} {t : Bool} {l m : List AV}, Vw H HH σ D t (.agg l) (.agg m) = VwL H HH σ D t l m) ∧
  (∀ {H HH : AH} {σ : Nat → Nat → Option (Nat × Nat × Nat)} {D : Nat → Nat → Prop} {t : Bool} {l m : List AV}, Vw H HH σ D t (.tup l) (.tup m) = VwL H HH σ D t l m) ∧
  (∀ {H HH : AH} {σ : Nat → Nat → Option (Nat × Nat × Nat)} {D : Nat → Nat → Prop} {r' q' g' o n : Nat}, Vw H HH σ D true .nilsl (.own r' q' g' o n) = (σ r' q' = none ∧ (∃ sz, HH.get r' q' = some (.row sz [] 0)) ∧ g' = 0 ∧ o = 0 ∧ n = 0)) ∧
  (∀ {H HH : AH} {σ : Nat → Nat → Option (Nat × Nat × Nat)} {D : Nat → Nat → Prop} {t : Bool} {a : AV}, Vw H HH σ D t a .undef = True) ∧
  (∀ {H HH : AH} {σ : Nat → Nat → Option (Nat × Nat × Nat)} {D : Nat → Nat → Prop} {t : Bool}, Vw H HH σ D t .nilsl .nilsl = True) ∧
  (∀ {H HH : AH} {σ : Nat → Nat → Option (Nat × Nat × Nat)} {D : Nat → Nat → Prop} {t : Bool}, Vw H HH σ D t .nilfn .nilfn = True) ∧
  (∀ {H HH : AH} {σ : Nat → Nat → Option (Nat × Nat × Nat)} {D : Nat → Nat → Prop} {t : Bool}, Vw H HH σ D t .nilp .nilp = True) ∧
  (∀ {H HH : AH} {σ : Nat → Nat → Option (Nat × Nat × Nat)} {D : Nat → Nat → Prop} {t : Bool}, Vw H HH σ D t .cut .cut = True) ∧
  (∀ {H HH : AH} {σ : Nat → Nat → Option (Nat × Nat × Nat)} {D : Nat → Nat → Prop} {t : Bool} {s : ByteArray}, Vw H HH σ D t (.str s) (.str s) = True) ∧
  (∀ {H HH : AH} {σ : Nat → Nat → Option (Nat × Nat × Nat)} {D : Nat → Nat → Prop} {t : Bool} {n : Nat} {c : Nat → AV}, Vw H HH σ D t (.iptr n c) (.iptr n c) = True) ∧
  (∀ {H HH : AH} {σ : Nat → Nat → Option (Nat × Nat × Nat)} {D : Nat → Nat → Prop} {t : Bool} {sz n : Nat} {f : Nat → Nat → AV}, Vw H HH σ D t (.sl sz n f) (.sl sz n f) = True) ∧
  (∀ {H HH : AH} {σ : Nat → Nat → Option (Nat × Nat × Nat)} {D : Nat → Nat → Prop} {t : Bool} {α : Type} {sz : Nat} {f : α → List AV} {l : List α}, Vw H HH σ D t (encL sz f l) (encL sz f l) = True) ∧
  (∀ {H HH : AH} {σ : Nat → Nat → Option (Nat × Nat × Nat)} {D : Nat → Nat → Prop} {t : Bool} {α : Type} {sz : Nat} {f : α → List AV}, Vw H HH σ D t .nilsl (encL sz f []) = True) ∧
  (∀ {r' q' : Nat}, Tab.sig [] r' q' = none) ∧
  (∀ {a b d r' q' : Nat} {tb : Tab}, Tab.sig ((a, b, d) :: tb) r' q' = bif a == r' then some (b, q', d) else Tab.sig tb r' q') ∧
  (∀ {x : Nat}, Tab.at [] x = none) ∧
  (∀ {a b d x : Nat} {tb : Tab}, Tab.at ((a, b, d) :: tb) x = bif a == x then some (b, d) else Tab.at tb x) ∧
  (∀ {ds : List Nat} {r q : Nat}, inD ds r q = (memN ds r = true)) := by
  refine ⟨rfl, rfl, rfl, rowsV_row_iff, rfl, rfl, rfl, rowV_nil_iff, rowV_snoc, rowV_refl_iff, flatRows_nil, flatRows_cons, flatRows_append, flatRows_map, flatRows_rep, flatRows_set, fun h => eq_true (vw_flat0 h), rowV_one, rfl, rfl, vw_int_iff, vw_bool_iff, vw_own_iff, vw_ptr_iff, vw_fn_iff, vw_agg_iff, vw_tup_iff, vw_new_iff, eq_true (.undef _ _), eq_true (.nilsl _), eq_true (.nilfn _), eq_true (.nilp _), eq_true (.cut _), eq_true (.str _ _), eq_true (.iptr _ _ _), eq_true (.sl _ _ _ _), eq_true (.sl _ _ _ _), eq_true vw_nil, sig_nil, sig_cons, at_nil, at_cons, rfl⟩

end Go.Ab

namespace Go.Ab
open Go.RowKit

/-- Where the callee's row r lies with the caller. -/
def Tab.to (tb : Tab) (nx r : Nat) : Nat := match tb.at r with
  | some (r', _) => r'
  | none => nx + r

/-- The rows numbered anew. -/
def AH.renL (ρ : Nat → Nat) : AH → AH
  | [] => []
  | (r, o) :: t => (ρ r, o.ren ρ) :: AH.renL ρ t

def AH.cutL (olds : List Nat) : AH → AH
  | [] => []
  | (r, o) :: t => bif memN olds r then AH.cutL olds t else (r, o) :: AH.cutL olds t

/-- The caller's rows behind the call. -/
def AH.over (H : AH) (tb : Tab) (nx : Nat) (H0 : AH) : AH := H.cutL (tb.map (·.2.1)) ++ H0.renL (tb.to nx)

/-- Old numbers below nx, no generation struck. -/
def Tab.plain (nx : Nat) : Tab → Bool
  | [] => true
  | (r', r, d) :: t => Nat.blt r nx && Nat.beq d 0 && !(memN (t.map (·.1)) r') && Tab.plain nx t

theorem Tab.plain_at {nx : Nat} : ∀ {t : Tab}, t.plain nx = true → ∀ {x r d}, t.at x = some (r, d) → r < nx ∧ d = 0
  | [], _, x, r, d, h => by cases h
  | (r', r0, d0) :: t, h, x, r, d, hx => by
    simp only [Tab.plain, Bool.and_eq_true] at h
    obtain ⟨⟨⟨h1, h2⟩, _⟩, h3⟩ := h
    simp only [Tab.at] at hx
    cases hb : Nat.beq r' x with
    | true => rw [hb] at hx; cases hx; exact ⟨by simpa [Nat.blt_eq] using h1, beq_true h2⟩
    | false => rw [hb] at hx; exact Tab.plain_at h3 hx

theorem Tab.at_mem : ∀ {t : Tab} {x r d}, t.at x = some (r, d) → x ∈ t.map (·.1) ∧ r ∈ t.map (·.2.1)
  | [], x, r, d, h => by cases h
  | (r', r0, d0) :: t, x, r, d, h => by
    simp only [Tab.at] at h
    cases hb : Nat.beq r' x with
    | true => rw [hb] at h; cases h; rw [← beq_true hb]; simp
    | false =>
      rw [hb] at h
      have := Tab.at_mem h
      exact ⟨by simp only [List.map_cons, List.mem_cons]; exact .inr this.1, by simp only [List.map_cons, List.mem_cons]; exact .inr this.2⟩

theorem Tab.at_of_old {nx : Nat} : ∀ {t : Tab}, t.plain nx = true → ∀ {r}, r ∈ t.map (·.2.1) → ∃ x d, t.at x = some (r, d)
  | [], _, r, h => by cases h
  | (r', r0, d0) :: t, h, r, hr => by
    simp only [Tab.plain, Bool.and_eq_true, Bool.not_eq_true'] at h
    obtain ⟨⟨_, h2⟩, h3⟩ := h
    simp only [List.map_cons, List.mem_cons] at hr
    rcases hr with rfl | hr
    · exact ⟨r', d0, by simp [Tab.at]⟩
    · obtain ⟨x, d, hx⟩ := Tab.at_of_old h3 hr
      refine ⟨x, d, ?_⟩
      have : r' ≠ x := fun e => by
        have := (memN_iff _ _).2 (Tab.at_mem hx).1
        rw [← e, h2] at this
        cases this
      simp only [Tab.at]
      rw [beq_ne this]
      exact hx

section
variable {tb : Tab} {nx nx0 : Nat} {H H0 : AH}

theorem Tab.to_inj (hok : tb.ok nx0 [] = true) (hp : tb.plain nx = true) {x y : Nat} (h : tb.to nx x = tb.to nx y) : x = y := by
  unfold Tab.to at h
  cases hx : tb.at x with
  | none =>
    cases hy : tb.at y with
    | none => rw [hx, hy] at h; simp only at h; omega
    | some p => rw [hx, hy] at h; have := (Tab.plain_at hp (d := p.2) hy).1; simp only at h; omega
  | some p =>
    cases hy : tb.at y with
    | none => rw [hx, hy] at h; have := (Tab.plain_at hp (d := p.2) hx).1; simp only at h; omega
    | some p' =>
      rw [hx, hy] at h
      simp only at h
      exact Tab.ok_inj hok (d := p.2) (e := p'.2) hx (by rw [hy, h])

theorem AH.look_append (A B : AH) (r : Nat) : AH.look (A ++ B) r = match A.look r with
    | some o => some o
    | none => B.look r := by
  induction A with
  | nil => rfl
  | cons p t ih =>
    obtain ⟨j, o⟩ := p
    simp only [List.cons_append, AH.look, ih]
    cases Nat.beq j r <;> rfl

theorem AH.look_cutL (l : List Nat) (H : AH) (r : Nat) : (H.cutL l).look r = bif memN l r then none else H.look r := by
  induction H with
  | nil => simp only [AH.cutL, AH.look]; cases memN l r <;> rfl
  | cons p t ih =>
    obtain ⟨j, o⟩ := p
    simp only [AH.cutL]
    cases hm : memN l j with
    | true =>
      simp only [cond_true, ih, AH.look]
      cases hb : Nat.beq j r with
      | true => rw [← beq_true hb, hm]; rfl
      | false => rfl
    | false =>
      simp only [cond_false, AH.look, ih]
      cases hb : Nat.beq j r with
      | true => rw [← beq_true hb, hm]; rfl
      | false => rfl

theorem AH.look_renL {ρ : Nat → Nat} (hρ : ∀ x y, ρ x = ρ y → x = y) (H : AH) (r : Nat) : (H.renL ρ).look (ρ r) = (H.look r).map (AObj.ren ρ) := by
  induction H with
  | nil => rfl
  | cons p t ih =>
    obtain ⟨j, o⟩ := p
    simp only [AH.renL, AH.look, ih]
    by_cases h : j = r
    · subst h; simp
    · rw [beq_ne h, beq_ne (fun e => h (hρ _ _ e))]; rfl

theorem AH.look_renL_no {ρ : Nat → Nat} (H : AH) (x : Nat) (hx : ∀ r, ρ r ≠ x) : (H.renL ρ).look x = none := by
  induction H with
  | nil => rfl
  | cons p t ih =>
    obtain ⟨j, o⟩ := p
    simp only [AH.renL, AH.look, ih]
    rw [beq_ne (hx j)]
    rfl

theorem AH.over_in (hok : tb.ok nx0 [] = true) (hp : tb.plain nx = true) (hH : ∀ r o, H.look r = some o → r < nx) (r q : Nat) :
    (H.over tb nx H0).get (tb.to nx r) q = (H0.get r q).map (AObj.ren (tb.to nx)) := by
  unfold AH.get AH.over
  rw [AH.look_append, AH.look_cutL, AH.look_renL (fun x y h => Tab.to_inj hok hp h)]
  have : (bif memN (tb.map (·.2.1)) (tb.to nx r) then none else H.look (tb.to nx r)) = none := by
    unfold Tab.to
    cases hx : tb.at r with
    | some p =>
      simp only
      rw [(memN_iff _ _).2 (Tab.at_mem (d := p.2) hx).2]
      rfl
    | none =>
      simp only
      cases hl : H.look (nx + r) with
      | none => cases memN (tb.map (·.2.1)) (nx + r) <;> rfl
      | some o => have := hH _ _ hl; omega
  rw [this]
  simp only
  cases H0.look r with
  | none => rfl
  | some o => simp [AObj.part_ren]

theorem AH.over_out (r q : Nat) (hp : tb.plain nx = true) (hr : ∀ r0, tb.to nx r0 ≠ r) : (H.over tb nx H0).get r q = H.get r q := by
  unfold AH.get AH.over
  rw [AH.look_append, AH.look_cutL, AH.look_renL_no _ _ hr]
  have : memN (tb.map (·.2.1)) r = false := by
    cases hm : memN (tb.map (·.2.1)) r with
    | false => rfl
    | true =>
      obtain ⟨x, d, hx⟩ := Tab.at_of_old hp ((memN_iff _ _).1 hm)
      exact absurd (by unfold Tab.to; rw [hx]) (hr x)
  rw [this]
  simp only [cond_false]
  cases H.look r <;> rfl

theorem AH.over_lt (hok : tb.ok nx0 [] = true) (hp : tb.plain nx = true) (hH : ∀ r o, H.look r = some o → r < nx) {nx' : Nat} (h0 : ∀ r o, H0.look r = some o → r < nx') (r : Nat) (o : AObj) (h : (H.over tb nx H0).look r = some o) : r < nx + nx' := by
  unfold AH.over at h
  rw [AH.look_append, AH.look_cutL] at h
  cases hl : H.look r with
  | some o' => have := hH _ _ hl; omega
  | none =>
    rw [hl] at h
    have h2 : (H0.renL (tb.to nx)).look r = some o := by cases hm : memN (tb.map (·.2.1)) r <;> rw [hm] at h <;> exact h
    by_cases hx : ∃ r0, tb.to nx r0 = r
    · obtain ⟨r0, rfl⟩ := hx
      rw [AH.look_renL (fun x y h => Tab.to_inj hok hp h)] at h2
      obtain ⟨o1, h3, _⟩ := Option.map_eq_some_iff.1 h2
      have := h0 _ _ h3
      unfold Tab.to
      cases hx : tb.at r0 with
      | none => simp only; omega
      | some p => have := (Tab.plain_at hp (d := p.2) hx).1; simp only; omega
    · rw [AH.look_renL_no _ _ (fun r0 e => hx ⟨r0, e⟩)] at h2
      cases h2

/-- A view does not look at the rows it comes from, but for those that are frozen. -/
theorem vw_from {H H2 HH : AH} {σ : Nat → Nat → Option (Nat × Nat × Nat)} {t : Bool} {a b : AV} (h : Vw H HH σ (inD []) t a b) : Vw H2 HH σ (inD []) t a b := by
  induction h with
  | undef => exact .undef _ _
  | int => exact .int _ _ _
  | bool => exact .bool _ _
  | str => exact .str _ _
  | nilp => exact .nilp _
  | nilfn => exact .nilfn _
  | cut => exact .cut _
  | nilsl => exact .nilsl _
  | iptr => exact .iptr _ _ _
  | sl => exact .sl _ _ _ _
  | nil0 => exact .nil0 _ _ _
  | slf _ _ _ _ _ _ ih => exact .slf _ _ _ _ _ ih
  | iptrf _ _ _ _ _ ih => exact .iptrf _ _ _ _ ih
  | own => exact .own _ _ _ _ _ _ _ _ _ ‹_› ‹_›
  | ptr => exact .ptr _ _ _ _ _ _ _ _ _ ‹_› ‹_›
  | new => exact .new _ _ _ ‹_› ‹_›
  | frz => rename_i hD _ _ _ _ _; cases hD
  | frzp => rename_i hD _ _ _ _ _; cases hD
  | fn _ _ _ _ hl _ ih => exact .fn _ _ _ _ hl ih
  | agg _ _ _ hl _ ih => exact .agg _ _ _ hl ih
  | tup _ _ _ hl _ ih => exact .tup _ _ _ hl ih

end

section
variable {P : Program} {L : Nat → Prop} {H H0 H' : AH} {nx nx0 nx' : Nat} {tb : Tab}

/-- The caller's other rows. -/
def othr (ι : Inj) (H : AH) (tb : Tab) (nx b : Nat) : Prop := ∃ r q sz els g l, (∀ r0, tb.to nx r0 ≠ r) ∧ H.get r q = some (.row sz els g) ∧ ι r q g = some l ∧ 0 < l.cap * l.sz ∧ l.block = b

def AH.keepL (l : List Nat) : AH → AH
  | [] => []
  | (r, o) :: t => bif memN l r then (r, o) :: AH.keepL l t else AH.keepL l t

theorem AH.look_keepL (l : List Nat) (H : AH) (r : Nat) : (H.keepL l).look r = bif memN l r then H.look r else none := by
  induction H with
  | nil => simp only [AH.keepL, AH.look]; cases memN l r <;> rfl
  | cons p t ih =>
    obtain ⟨j, o⟩ := p
    simp only [AH.keepL]
    cases hm : memN l j with
    | true =>
      simp only [cond_true, AH.look, ih]
      cases hb : Nat.beq j r with
      | true => rw [← beq_true hb, hm]; rfl
      | false => rfl
    | false =>
      simp only [cond_false, ih, AH.look]
      cases hb : Nat.beq j r with
      | true => rw [← beq_true hb, hm]; rfl
      | false => rfl

theorem AH.get_keepL (l : List Nat) (H : AH) (r q : Nat) : (H.keepL l).get r q = bif memN l r then H.get r q else none := by
  unfold AH.get
  rw [AH.look_keepL]
  cases memN l r <;> rfl

theorem to_old (hp : tb.plain nx = true) {r : Nat} (hr : r < nx) : memN (tb.map (·.2.1)) r = true ↔ ∃ r0, tb.to nx r0 = r := by
  constructor
  · intro h
    obtain ⟨x, d, hx⟩ := Tab.at_of_old hp ((memN_iff _ _).1 h)
    exact ⟨x, by unfold Tab.to; rw [hx]⟩
  · rintro ⟨x, rfl⟩
    unfold Tab.to at hr ⊢
    cases hx : tb.at x with
    | none => rw [hx] at hr; simp only at hr; omega
    | some p => exact (memN_iff _ _).2 (Tab.at_mem (d := p.2) hx).2

open Classical in
/-- Where the rows lie behind the call, by the caller's numbers. -/
noncomputable def overI (ι ι' : Inj) (tb : Tab) (nx : Nat) : Inj := fun r q g => if h : ∃ r0, tb.to nx r0 = r then ι' h.choose q g else ι r q g

theorem overI_in (hok : tb.ok nx0 [] = true) (hp : tb.plain nx = true) (ι ι' : Inj) (r q g : Nat) : overI ι ι' tb nx (tb.to nx r) q g = ι' r q g := by
  unfold overI
  have h : ∃ r0, tb.to nx r0 = tb.to nx r := ⟨r, rfl⟩
  rw [dif_pos h, Tab.to_inj hok hp h.choose_spec]

theorem overI_out (ι ι' : Inj) (r q g : Nat) (hr : ∀ r0, tb.to nx r0 ≠ r) : overI ι ι' tb nx r q g = ι r q g := by
  unfold overI
  rw [dif_neg (fun ⟨r0, h⟩ => hr r0 h)]

variable {w w' : World} {ι : Inj}

theorem live_split (hp : tb.plain nx = true) (rel : RelH w L ι H nx) (b : Nat) : live ι H b ↔ othr ι H tb nx b ∨ live ι (H.keepL (tb.map (·.2.1))) b := by
  constructor
  · rintro ⟨r, q, sz, els, g, l, h1, h2, h3, rfl⟩
    have hr := rel.idx _ _ _ _ h2
    by_cases hx : ∃ r0, tb.to nx r0 = r
    · refine .inr ⟨r, q, sz, els, g, l, ?_, h2, h3, rfl⟩
      rw [AH.get_keepL, (to_old hp hr).2 hx]
      exact h1
    · exact .inl ⟨r, q, sz, els, g, l, fun r0 e => hx ⟨r0, e⟩, h1, h2, h3, rfl⟩
  · rintro (⟨r, q, sz, els, g, l, _, h1, h2, h3, rfl⟩ | ⟨r, q, sz, els, g, l, h1, h2, h3, rfl⟩)
    · exact ⟨r, q, sz, els, g, l, h1, h2, h3, rfl⟩
    · rw [AH.get_keepL] at h1
      cases hm : memN (tb.map (·.2.1)) r with
      | false => rw [hm] at h1; cases h1
      | true => rw [hm] at h1; exact ⟨r, q, sz, els, g, l, h1, h2, h3, rfl⟩

/-- The rows that are handed over, alone: the others are none of the callee's business. -/
theorem RelH.keep (hp : tb.plain nx = true) (rel : RelH w L ι H nx) :
    (∀ b, Lt (fun b => L b ∨ othr ι H tb nx b) ι (H.keepL (tb.map (·.2.1))) b ↔ Lt L ι H b) ∧ RelH w (fun b => L b ∨ othr ι H tb nx b) ι (H.keepL (tb.map (·.2.1))) nx := by
  have hlt : ∀ b, Lt (fun b => L b ∨ othr ι H tb nx b) ι (H.keepL (tb.map (·.2.1))) b ↔ Lt L ι H b := by
    intro b
    simp only [Lt, live_split hp rel b, or_assoc]
  have hget : ∀ {r q o}, (H.keepL (tb.map (·.2.1))).get r q = some o → H.get r q = some o ∧ memN (tb.map (·.2.1)) r = true := by
    intro r q o h
    rw [AH.get_keepL] at h
    cases hm : memN (tb.map (·.2.1)) r with
    | false => rw [hm] at h; cases h
    | true => rw [hm] at h; exact ⟨h, rfl⟩
  refine ⟨hlt, fun r q sz els g h => ?_, fun r1 q1 r2 q2 s1 e1 g1 l1 s2 e2 g2 l2 h1 h2 => rel.apart _ _ _ _ _ _ _ _ _ _ _ _ (hget h1).1 (hget h2).1, fun b hb hL => ?_, rel.idx, fun r o h => ?_, fun r q sz els g h => rel.gen _ _ _ _ _ (hget h).1, fun b hb => ?_⟩
  · have : Lt (fun b => L b ∨ othr ι H tb nx b) ι (H.keepL (tb.map (·.2.1))) = Lt L ι H := by funext b; exact propext (hlt b)
    rw [this]
    exact rel.row _ _ _ _ _ (hget h).1
  · rcases hL with hL | ⟨r, q, sz, els, g, l, h1, h2, h3, h4, h5⟩
    · exact rel.out b ((live_split hp rel b).2 (.inr hb)) hL
    · obtain ⟨r', q', sz', els', g', l', k1, k2, k3, k4⟩ := hb
      obtain ⟨k1, k5⟩ := hget k1
      obtain ⟨rfl, rfl⟩ := rel.apart _ _ _ _ _ _ _ _ _ _ _ _ h2 k1 h3 k2 h4 k3 (h5.trans k4.symm)
      obtain ⟨r0, e⟩ := (to_old hp (rel.idx _ _ _ _ h3)).1 k5
      exact h1 r0 e
  · rw [AH.look_keepL] at h
    cases hm : memN (tb.map (·.2.1)) r with
    | false => rw [hm] at h; cases h
    | true => rw [hm] at h; exact rel.dom _ _ h
  · rcases hb with hb | hb
    · exact rel.Lsz b hb
    · exact rel.live_lt ((live_split hp rel b).2 (.inl hb))

theorem Step.over (hok : tb.ok nx0 [] = true) (hp : tb.plain nx = true) (rel : RelH w L ι H nx) {ι0 ι' : Inj} (h0 : ∀ r q g l, ι (tb.to nx r) q g = some l → tb.at r ≠ none → ι0 r q g = some l)
    (hl0 : ∀ b, live ι0 H0 b → live ι (H.keepL (tb.map (·.2.1))) b) (st : Step w (fun b => L b ∨ othr ι H tb nx b) ι0 H0 nx0 w' ι' H' nx') :
    Step w L ι H nx w' (overI ι ι' tb nx) (H.over tb nx H') (nx + nx') ∧ ∀ v a, VR w' (Lt (fun b => L b ∨ othr ι H tb nx b) ι' H') ι' v a → VR w' (Lt L (overI ι ι' tb nx) (H.over tb nx H')) (overI ι ι' tb nx) v (a.ren (tb.to nx)) := by
  have hin := fun r q => AH.over_in (H0 := H') hok hp rel.dom r q
  have hout := fun r q hr => AH.over_out (H := H) (H0 := H') r q hp hr
  have iin := overI_in hok hp ι ι'
  have iout := fun r q g hr => overI_out (tb := tb) (nx := nx) ι ι' r q g hr
  have hlive : ∀ b, live (overI ι ι' tb nx) (H.over tb nx H') b ↔ live ι' H' b ∨ othr ι H tb nx b := by
    intro b
    constructor
    · rintro ⟨r, q, sz, els, g, l, h1, h2, h3, rfl⟩
      by_cases hx : ∃ r0, tb.to nx r0 = r
      · obtain ⟨r0, rfl⟩ := hx
        rw [hin] at h1
        rw [iin] at h2
        obtain ⟨o, h4, h5⟩ := Option.map_eq_some_iff.1 h1
        cases o with
        | fam _ _ => cases h5
        | row sz0 els0 g0 => cases h5; exact .inl ⟨_, _, _, _, _, _, h4, h2, h3, rfl⟩
      · have hr : ∀ r0, tb.to nx r0 ≠ r := fun r0 e => hx ⟨r0, e⟩
        rw [hout r q hr] at h1
        rw [iout r q g hr] at h2
        exact .inr ⟨r, q, sz, els, g, l, hr, h1, h2, h3, rfl⟩
    · rintro (⟨r, q, sz, els, g, l, h1, h2, h3, rfl⟩ | ⟨r, q, sz, els, g, l, hr, h1, h2, h3, rfl⟩)
      · exact ⟨tb.to nx r, q, sz, _, g, l, by rw [hin, h1]; rfl, by rw [iin]; exact h2, h3, rfl⟩
      · exact ⟨r, q, sz, els, g, l, by rw [hout r q hr]; exact h1, by rw [iout r q g hr]; exact h2, h3, rfl⟩
  have hLt : Lt L (overI ι ι' tb nx) (H.over tb nx H') = Lt (fun b => L b ∨ othr ι H tb nx b) ι' H' := by
    funext b
    apply propext
    simp only [Lt, hlive]
    constructor
    · rintro (h | h | h)
      · exact .inl (.inl h)
      · exact .inr h
      · exact .inl (.inr h)
    · rintro ((h | h) | h)
      · exact .inl h
      · exact .inr (.inr h)
      · exact .inr (.inl h)
  have hold0 : ∀ b, live ι0 H0 b → live ι H b := fun b hb => (live_split hp rel b).2 (.inr (hl0 b hb))
  have hsame : ∀ b, b < w.heap.size → ¬ live ι0 H0 b → w'.heap[b]? = w.heap[b]? := st.ext.block
  have inj : ∀ r q g l, ι r q g = some l → overI ι ι' tb nx r q g = some l := by
    intro r q g l h
    by_cases hx : ∃ r0, tb.to nx r0 = r
    · obtain ⟨r0, rfl⟩ := hx
      rw [iin]
      refine st.inj _ _ _ _ (h0 _ _ _ _ h fun hn => ?_)
      have := rel.idx _ _ _ _ h
      unfold Tab.to at this
      rw [hn] at this
      simp only at this
      omega
    · rw [iout r q g (fun r0 e => hx ⟨r0, e⟩)]
      exact h
  have hnew : ∀ {v a}, VR w' (Lt (fun b => L b ∨ othr ι H tb nx b) ι' H') ι' v a → VR w' (Lt L (overI ι ι' tb nx) (H.over tb nx H')) (overI ι ι' tb nx) v (a.ren (tb.to nx)) := by
    intro v a h
    rw [hLt]
    exact h.ren (fun r q g l h => by rw [iin]; exact h)
  have hold : ∀ {v a}, VR w (Lt L ι H) ι v a → VR w' (Lt L (overI ι ι' tb nx) (H.over tb nx H')) (overI ι ι' tb nx) v a := by
    intro v a h
    refine h.mono (fun b hb hn => ⟨hsame b hb fun h' => hn (.inr (hold0 b h')), fun h' => ?_⟩) inj
    rw [hLt] at h'
    rcases h' with (h' | h') | h'
    · exact hn (.inl h')
    · exact hn (.inr ((live_split hp rel b).2 (.inl h')))
    · rcases st.lv b h' with h' | h'
      · exact hn (.inr (hold0 b h'))
      · omega
  have oth_no : ∀ b, othr ι H tb nx b → ¬ live ι0 H0 b := fun b h1 h2 => (rel.keep hp).2.out b (hl0 b h2) (.inr h1)
  have lv : ∀ b, live (overI ι ι' tb nx) (H.over tb nx H') b → live ι H b ∨ w.heap.size ≤ b := by
    intro b hb
    rcases (hlive b).1 hb with hb | hb
    · rcases st.lv b hb with hb | hb
      · exact .inl (hold0 b hb)
      · exact .inr hb
    · exact .inl ((live_split hp rel b).2 (.inl hb))
  refine ⟨⟨⟨st.ext.os, st.ext.tape, st.ext.output, st.ext.size, fun b hb hn => hsame b hb fun h => hn (hold0 b h)⟩, inj, ?_, lv⟩, fun v a h => hnew h⟩
  constructor
  · intro r q sz els g h
    by_cases hx : ∃ r0, tb.to nx r0 = r
    · obtain ⟨r0, rfl⟩ := hx
      rw [hin] at h
      obtain ⟨o, h4, h5⟩ := Option.map_eq_some_iff.1 h
      cases o with
      | fam _ _ => cases h5
      | row sz0 els0 g0 =>
        cases h5
        obtain ⟨l, h1, ok⟩ := st.rel.row _ _ _ _ _ h4
        refine ⟨l, by rw [iin]; exact h1, ok.hsz, by simpa using ok.len, ok.max, ok.there, fun i c hi => ?_, fun i c j a hi hj => ?_⟩
        · rw [List.getElem?_map] at hi
          obtain ⟨c0, h2, rfl⟩ := Option.map_eq_some_iff.1 hi
          simpa using ok.wide i c0 h2
        · rw [List.getElem?_map] at hi
          obtain ⟨c0, h2, rfl⟩ := Option.map_eq_some_iff.1 hi
          rw [List.getElem?_map] at hj
          obtain ⟨a0, h3, rfl⟩ := Option.map_eq_some_iff.1 hj
          obtain ⟨v, h6, h7, h8⟩ := ok.holds i c0 j a0 h2 h3
          exact ⟨v, h6, h7, hnew h8⟩
    · have hr : ∀ r0, tb.to nx r0 ≠ r := fun r0 e => hx ⟨r0, e⟩
      rw [hout r q hr] at h
      obtain ⟨l, h1, ok⟩ := rel.row _ _ _ _ _ h
      have hbl : ∀ {k}, k < l.cap * sz → l.block < w.heap.size ∧ w'.heap[l.block]? = w.heap[l.block]? := by
        intro k hk
        have hs := ok.there k hk
        obtain ⟨v, hv⟩ := Option.isSome_iff_exists.1 hs.1
        have hlt := cell_block_lt hv
        have hpos : 0 < l.cap * l.sz := by rw [ok.hsz]; omega
        exact ⟨hlt, hsame _ hlt (oth_no _ ⟨r, q, sz, els, g, l, hr, h, h1, hpos, rfl⟩)⟩
      refine ⟨l, by rw [iout r q g hr]; exact h1, ok.hsz, ok.len, ok.max, fun k hk => ?_, ok.wide, fun i c j a hi hj => ?_⟩
      · obtain ⟨hlt, he⟩ := hbl hk
        have e1 : w'.cell? ⟨l.block, l.off + k, none⟩ = w.cell? ⟨l.block, l.off + k, none⟩ := cell_of_heap he
        have e2 : w'.frozen? ⟨l.block, l.off + k, none⟩ = w.frozen? ⟨l.block, l.off + k, none⟩ := frozen_of_heap he
        rw [e1, e2]
        exact ok.there k hk
      · obtain ⟨v, h2, h3, h4⟩ := ok.holds i c j a hi hj
        refine ⟨v, ?_, h3, hold h4⟩
        have hj' : j < sz := by rw [← ok.wide i c hi]; exact (List.getElem?_eq_some_iff.1 hj).1
        have hi' : i < l.cap := Nat.lt_of_lt_of_le (List.getElem?_eq_some_iff.1 hi).1 ok.len
        have hk : i * sz + j < l.cap * sz := by
          have : (i + 1) * sz ≤ l.cap * sz := Nat.mul_le_mul_right _ hi'
          rw [Nat.add_mul, Nat.one_mul] at this
          omega
        obtain ⟨_, he⟩ := hbl hk
        rw [← h2]
        exact cell_of_heap he
  · intro r1 q1 r2 q2 s1 e1 g1 l1 s2 e2 g2 l2 h1 h2 h3 h4 h5 h6 h7
    have key : ∀ r q s e g l, (H.over tb nx H').get r q = some (.row s e g) → overI ι ι' tb nx r q g = some l → 0 < l.cap * l.sz →
        (∃ r0 e0, tb.to nx r0 = r ∧ H'.get r0 q = some (.row s e0 g) ∧ ι' r0 q g = some l) ∨ ((∀ r0, tb.to nx r0 ≠ r) ∧ H.get r q = some (.row s e g) ∧ ι r q g = some l) := by
      intro r q s e g l a1 a2 a3
      by_cases hx : ∃ r0, tb.to nx r0 = r
      · obtain ⟨r0, rfl⟩ := hx
        rw [hin] at a1
        rw [iin] at a2
        obtain ⟨o, a4, a5⟩ := Option.map_eq_some_iff.1 a1
        cases o with
        | fam _ _ => cases a5
        | row sz0 els0 g0 => cases a5; exact .inl ⟨r0, _, rfl, a4, a2⟩
      · have hr : ∀ r0, tb.to nx r0 ≠ r := fun r0 e => hx ⟨r0, e⟩
        rw [hout r q hr] at a1
        rw [iout r q g hr] at a2
        exact .inr ⟨hr, a1, a2⟩
    have cross : ∀ {r q s e g l r' q' s' e' g' l'}, H'.get r q = some (.row s e g) → ι' r q g = some l → 0 < l.cap * l.sz → (∀ r0, tb.to nx r0 ≠ r') → H.get r' q' = some (.row s' e' g') → ι r' q' g' = some l' → 0 < l'.cap * l'.sz → l.block = l'.block → False := by
      intro r q s e g l r' q' s' e' g' l' a1 a2 a3 b0 b1 b2 b3 b4
      exact st.rel.out l.block ⟨_, _, _, _, _, _, a1, a2, a3, rfl⟩ (.inr ⟨_, _, _, _, _, _, b0, b1, b2, b3, b4.symm⟩)
    rcases key _ _ _ _ _ _ h1 h3 h5 with ⟨x, ex, rfl, a1, a2⟩ | ⟨a0, a1, a2⟩
    · rcases key _ _ _ _ _ _ h2 h4 h6 with ⟨y, ey, rfl, b1, b2⟩ | ⟨b0, b1, b2⟩
      · obtain ⟨rfl, rfl⟩ := st.rel.apart _ _ _ _ _ _ _ _ _ _ _ _ a1 b1 a2 b2 h5 h6 h7
        exact ⟨rfl, rfl⟩
      · exact (cross a1 a2 h5 b0 b1 b2 h6 h7).elim
    · rcases key _ _ _ _ _ _ h2 h4 h6 with ⟨y, ey, rfl, b1, b2⟩ | ⟨b0, b1, b2⟩
      · exact (cross b1 b2 h6 a0 a1 a2 h5 h7.symm).elim
      · exact rel.apart _ _ _ _ _ _ _ _ _ _ _ _ a1 b1 a2 b2 h5 h6 h7
  · intro b hb hL
    rcases (hlive b).1 hb with hb | hb
    · exact st.rel.out b hb (.inl hL)
    · exact rel.out b ((live_split hp rel b).2 (.inl hb)) hL
  · intro r q g l h
    by_cases hx : ∃ r0, tb.to nx r0 = r
    · obtain ⟨r0, rfl⟩ := hx
      rw [iin] at h
      have := st.rel.idx _ _ _ _ h
      unfold Tab.to
      cases hx : tb.at r0 with
      | none => simp only; omega
      | some p => have := (Tab.plain_at hp (d := p.2) hx).1; simp only; omega
    · rw [iout r q g (fun r0 e => hx ⟨r0, e⟩)] at h
      have := rel.idx _ _ _ _ h
      omega
  · exact fun r o h => AH.over_lt hok hp rel.dom st.rel.dom r o h
  · intro r q sz els g h g2 l h2
    by_cases hx : ∃ r0, tb.to nx r0 = r
    · obtain ⟨r0, rfl⟩ := hx
      rw [hin] at h
      rw [iin] at h2
      obtain ⟨o, h4, h5⟩ := Option.map_eq_some_iff.1 h
      cases o with
      | fam _ _ => cases h5
      | row sz0 els0 g0 => cases h5; exact st.rel.gen _ _ _ _ _ h4 _ _ h2
    · have hr : ∀ r0, tb.to nx r0 ≠ r := fun r0 e => hx ⟨r0, e⟩
      rw [hout r q hr] at h
      rw [iout r q g2 hr] at h2
      exact rel.gen _ _ _ _ _ h _ _ h2
  · intro b hb
    exact Nat.lt_of_lt_of_le (rel.Lsz b hb) st.ext.size

/-- A CALL THAT IS GIVEN ROWS. -/
theorem call_own {f : FuncId} {asv bs : List AV} {Post k : AV → AH → Nat → Prop} (tb : Tab) (nx0 : Nat) (H0 : AH) (h : CallOk P f bs H0 nx0 Post) (hok : tb.ok nx0 [] = true) (hp : tb.plain nx = true)
    (hr : rowsV H H0 tb [] nx0 H0) (ha : VwL H H0 tb.sig (inD []) true asv bs) (hk : ∀ v H' nx', Post v H' nx' → k (v.ren (tb.to nx)) (H.over tb nx H') (nx + nx')) : CallOk P f asv H nx k := by
  intro w L ι vs rel hv
  obtain ⟨hlt, relS⟩ := rel.keep hp (L := L)
  have hltE : Lt (fun b => L b ∨ othr ι H tb nx b) ι (H.keepL (tb.map (·.2.1))) = Lt L ι H := by funext b; exact propext (hlt b)
  have hsig : ∀ {r' q' r q d}, tb.sig r' q' = some (r, q, d) → tb.at r' = some (r, d) ∧ q = q' ∧ d = 0 := by
    intro r' q' r q d h
    unfold Tab.sig at h
    cases e1 : tb.at r' with
    | none => rw [e1] at h; cases h
    | some p1 =>
      rw [e1] at h
      simp only [Option.some.injEq, Prod.mk.injEq] at h
      obtain ⟨rfl, rfl, rfl⟩ := h
      exact ⟨rfl, rfl, (Tab.plain_at hp (d := p1.2) e1).2⟩
  have vw : View 0 (H.keepL (tb.map (·.2.1))) H0 nx0 tb.sig (inD []) := by
    refine ⟨Nat.zero_le _, fun r q h => absurd h (Nat.not_lt_zero _), ?_, fun _ _ _ _ _ _ h => (by cases h), ?_, rowsV_dom hr, fun r' q' sz els2 g2 h2 => ?_⟩
    · intro r1 q1 r2 q2 r q d1 d2 h1 h2
      obtain ⟨a1, a2, _⟩ := hsig h1
      obtain ⟨b1, b2, _⟩ := hsig h2
      exact ⟨Tab.ok_inj hok a1 b1, by rw [← a2, ← b2]⟩
    · intro r' q' x h
      unfold Tab.sig at h
      cases e1 : tb.at r' with
      | none => rw [e1] at h; cases h
      | some p1 => exact (Tab.ok_at hok (d := p1.2) e1).1
    · rcases rowsV_row hr r' q' sz els2 g2 h2 with ⟨r, q, d, els, a1, a2, a3⟩ | h3
      · refine .inl ⟨r, q, d, els, a1, ?_, fun i c2 hi => ?_⟩
        · rw [AH.get_keepL, (memN_iff _ _).2 (Tab.at_mem (d := d) (hsig a1).1).2]
          exact a2
        · obtain ⟨c, hc, hl, hv⟩ := a3 i c2 hi
          exact ⟨c, hc, hl, fun j a b ha hb => vw_from (hv j a b ha hb)⟩
      · exact .inr h3
  have args : ∀ {asv bs : List AV} {us : List Value}, VwL H H0 tb.sig (inD []) true asv bs → VRs w (Lt L ι H) ι us asv → VRs w (Lt (fun b => L b ∨ othr ι H tb nx b) (viewI H0 tb.sig ι) H0) (viewI H0 tb.sig ι) us bs := by
    intro asv bs us h hv
    induction hv generalizing bs with
    | nil =>
      cases bs with
      | nil => exact .nil
      | cons b bs => exact h.elim
    | cons h1 _ ih =>
      cases bs with
      | nil => exact h.elim
      | cons b bs =>
        refine .cons ?_ (ih h.2)
        rw [← hltE] at h1
        exact vw.vr relS (vw_from h.1) h1
  refine (h w _ _ vs (vw.rel relS) (args ha hv)).mono fun e w' ⟨v, ι', H', nx', a, h3, h4, _, h6, h7⟩ => ?_
  have hi : ∀ r q g l, ι (tb.to nx r) q g = some l → tb.at r ≠ none → viewI H0 tb.sig ι r q g = some l := by
    intro r q g l h hn
    unfold viewI Tab.sig
    unfold Tab.to at h
    cases e1 : tb.at r with
    | none => exact absurd e1 hn
    | some p =>
      rw [e1] at h
      have := (Tab.plain_at hp (d := p.2) e1).2
      simp only [this]
      exact h
  obtain ⟨h8, h9⟩ := Step.over hok hp rel hi (fun b hb => vw.lv hb) h4
  exact ⟨v, _, _, _, _, h3, h8, Nat.le_add_right _ _, h9 v a h6, hk _ _ _ h7⟩

end
end Go.Ab

namespace Go.Ab
open Go.RowKit

theorem ren_flat0 {ρ : Nat → Nat} {a : AV} (h : a.flat0 = true) : a.ren ρ = a := by
  cases a <;> first | (cases h; done) | simp [AV.ren]

theorem ren_allFlat {ρ : Nat → Nat} : ∀ {l : List AV}, allFlat l = true → l.map (AV.ren ρ) = l
  | [], _ => rfl
  | a :: l, h => by
    simp only [allFlat, Bool.and_eq_true] at h
    rw [List.map_cons, ren_flat0 h.1, ren_allFlat h.2]

theorem ren_rows {ρ : Nat → Nat} {els : List (List AV)} (h : FlatRows els) : els.map (fun c => c.map (AV.ren ρ)) = els := by
  conv => rhs; rw [← List.map_id els]
  exact List.map_congr_left fun c hc => ren_allFlat (h c hc)

theorem to_nil {nx r : Nat} : Tab.to [] nx r = nx + r := rfl
theorem to_cons {a b d nx r : Nat} {tb : Tab} : Tab.to ((a, b, d) :: tb) nx r = bif a == r then b else Tab.to tb nx r := by
  unfold Tab.to
  rw [at_cons]
  cases a == r <;> rfl

/-- What a call that was given rows leaves. -/
theorem evZ :
  (∀ {nx r : Nat}, Tab.to [] nx r = nx + r) ∧ (∀ {a b d nx r : Nat} {tb : Tab}, Tab.to ((a, b, d) :: tb) nx r = bif a == r then b else Tab.to tb nx r) ∧
  (∀ {H H0 : AH} {tb : Tab} {nx : Nat}, H.over tb nx H0 = H.cutL (tb.map (·.2.1)) ++ H0.renL (tb.to nx)) ∧
  (∀ {l : List Nat}, AH.cutL l [] = []) ∧ (∀ {l : List Nat} {r : Nat} {o : AObj} {t : AH}, AH.cutL l ((r, o) :: t) = bif memN l r then AH.cutL l t else (r, o) :: AH.cutL l t) ∧
  (∀ {ρ : Nat → Nat}, AH.renL ρ [] = []) ∧ (∀ {ρ : Nat → Nat} {r : Nat} {o : AObj} {t : AH}, AH.renL ρ ((r, o) :: t) = (ρ r, o.ren ρ) :: AH.renL ρ t) ∧
  (∀ {ρ : Nat → Nat} {sz g : Nat} {els : List (List AV)}, FlatRows els → AObj.ren ρ (.row sz els g) = .row sz els g) ∧
  (∀ {ρ : Nat → Nat} {sz g : Nat} {c : List AV}, AObj.ren ρ (.row sz [c] g) = .row sz [c.map (AV.ren ρ)] g) ∧
  (∀ {ρ : Nat → Nat} {a : AV}, a.flat0 = true → AV.ren ρ a = a) ∧
  (∀ {ρ : Nat → Nat} {r q g o n : Nat}, AV.ren ρ (.own r q g o n) = .own (ρ r) q g o n) ∧ (∀ {ρ : Nat → Nat} {r q g o n : Nat}, AV.ren ρ (.ptr r q g o n) = .ptr (ρ r) q g o n) ∧
  (∀ {ρ : Nat → Nat} {l : List AV}, AV.ren ρ (.agg l) = .agg (l.map (AV.ren ρ))) ∧ (∀ {ρ : Nat → Nat} {l : List AV}, AV.ren ρ (.tup l) = .tup (l.map (AV.ren ρ))) ∧
  (∀ {ρ : Nat → Nat} {f : Fn} {l : List AV}, AV.ren ρ (.fn f l) = .fn f (l.map (AV.ren ρ))) ∧
  (∀ {α β : Type} {f : α → β}, List.map f [] = []) ∧ (∀ {α β : Type} {f : α → β} {a : α} {l : List α}, List.map f (a :: l) = f a :: List.map f l) ∧
  (FlatRows [] = True) ∧ (∀ {c : List AV} {l : List (List AV)}, FlatRows (c :: l) = (allFlat c = true ∧ FlatRows l)) ∧ (∀ {l m : List (List AV)}, FlatRows (l ++ m) = (FlatRows l ∧ FlatRows m)) ∧
  (∀ {α : Type} {f : α → List AV} {l : List α}, FlatRows (l.map f) = ∀ a ∈ l, allFlat (f a) = true) ∧ (∀ {n : Nat} {c : List AV}, allFlat c = true → FlatRows (List.replicate n c) = True) ∧
  (∀ {l : List (List AV)} {i : Nat} {c : List AV}, allFlat c = true → FlatRows l → FlatRows (l.set i c) = True) := by
  refine ⟨to_nil, to_cons, rfl, rfl, rfl, rfl, rfl, fun h => ?_, rfl, ren_flat0, ?_, ?_, ?_, ?_, ?_, rfl, rfl, flatRows_nil, flatRows_cons, flatRows_append, flatRows_map, flatRows_rep, flatRows_set⟩
  · simp only [AObj.ren]
    exact congrArg (fun e => AObj.row _ e _) (ren_rows h)
  all_goals (intros; simp [AV.ren])

/-- Rows and values without references. -/
theorem evF :
  (FlatRows [] = True) ∧ (∀ {c : List AV} {l : List (List AV)}, FlatRows (c :: l) = (allFlat c = true ∧ FlatRows l)) ∧ (∀ {l m : List (List AV)}, FlatRows (l ++ m) = (FlatRows l ∧ FlatRows m)) ∧
  (∀ {α : Type} {f : α → List AV} {l : List α}, FlatRows (l.map f) = ∀ a ∈ l, allFlat (f a) = true) ∧ (∀ {n : Nat} {c : List AV}, allFlat c = true → FlatRows (List.replicate n c) = True) ∧
  (∀ {l : List (List AV)} {i : Nat} {c : List AV}, allFlat c = true → FlatRows l → FlatRows (l.set i c) = True) :=
  ⟨flatRows_nil, flatRows_cons, flatRows_append, flatRows_map, flatRows_rep, flatRows_set⟩

/-- The first B numbers stay. -/
def Tab.idB (t : Tab) : Nat → Bool
  | 0 => true
  | B + 1 => (match t.at B with
    | some (r, d) => Nat.beq r B && Nat.beq d 0
    | none => false) && Tab.idB t B

theorem Tab.idB_at {t : Tab} : ∀ {B : Nat}, t.idB B = true → ∀ r, r < B → t.at r = some (r, 0)
  | 0, _, r, h => absurd h (Nat.not_lt_zero _)
  | B + 1, hb, r, h => by
    simp only [Tab.idB, Bool.and_eq_true] at hb
    by_cases e : r = B
    · subst e
      cases hx : t.at r with
      | none => rw [hx] at hb; simp at hb
      | some p =>
        obtain ⟨a, d⟩ := p
        rw [hx] at hb
        simp only [Bool.and_eq_true] at hb
        rw [beq_true hb.1.1, beq_true hb.1.2]
    · exact Tab.idB_at hb.2 r (by omega)

/-- WHAT IS KNOWN, SEEN OTHERWISE, by a table (for a function that was given B rows). -/
theorem Ent.tabB {B : Nat} {K K2 : Kn} {H H2 : AH} {nx nx2 : Nat} (t : Tab) (ds : List Nat) (hB : Nat.ble B nx2 = true) (hid : t.idB B = true) (hok : t.ok nx2 ds = true) (hr : rowsV H H2 t ds nx2 H2) (hK : slotsV H H2 t ds K2 K) : Ent B K H nx K2 H2 nx2 := by
  refine Ent.view t.sig (inD ds) ⟨Nat.le_of_ble_eq_true hB, fun r q h => ?_, ?_, ?_, ?_, rowsV_dom hr, rowsV_row hr⟩ (slotsV_get hK)
  · unfold Tab.sig
    rw [Tab.idB_at hid r h]
  · intro r1 q1 r2 q2 r q d1 d2 h1 h2
    unfold Tab.sig at h1 h2
    cases e1 : t.at r1 with
    | none => rw [e1] at h1; cases h1
    | some p1 =>
      cases e2 : t.at r2 with
      | none => rw [e2] at h2; cases h2
      | some p2 =>
        rw [e1] at h1
        rw [e2] at h2
        simp only [Option.some.injEq, Prod.mk.injEq] at h1 h2
        obtain ⟨rfl, rfl, rfl⟩ := h1
        obtain ⟨h3, rfl, rfl⟩ := h2
        refine ⟨Tab.ok_inj hok (d := p1.2) (e := p2.2) e1 ?_, rfl⟩
        rw [e2, ← h3]
  · intro r' q' r q d h
    unfold Tab.sig at h
    cases e1 : t.at r' with
    | none => rw [e1] at h; cases h
    | some p1 =>
      rw [e1] at h
      simp only [Option.some.injEq, Prod.mk.injEq] at h
      obtain ⟨rfl, _, rfl⟩ := h
      have := (Tab.ok_at hok (d := p1.2) e1).2.1
      unfold inD
      rw [this]
      exact Bool.false_ne_true
  · intro r' q' x h
    unfold Tab.sig at h
    cases e1 : t.at r' with
    | none => rw [e1] at h; cases h
    | some p1 => exact (Tab.ok_at hok (d := p1.2) e1).1

/-- What a call leaves, seen otherwise. -/
def RetEnt (B : Nat) (Q : AV → AH → Nat → Prop) (v : AV) (H : AH) (nx : Nat) : Prop := ∃ v2 H2 nx2, Ent B [(0, v)] H nx [(0, v2)] H2 nx2 ∧ Q v2 H2 nx2

theorem call_ent {P : Program} {f : FuncId} {args : List AV} {H : AH} {nx : Nat} {Q : AV → AH → Nat → Prop} (h : CallOk P f args H nx (RetEnt nx Q)) : CallOk P f args H nx Q := by
  intro w L ι vs rel hv
  refine (h w L ι vs rel hv).mono fun e w' ⟨v, ι', H', nx', a, h1, st, h3, h4, v2, H2, nx2, ⟨h5, h6⟩, h7⟩ => ?_
  obtain ⟨ι2, r1, r2, r3, r4⟩ := h6 w' L ι' #[v] st.rel (fun i => by
    cases i with
    | zero => exact h4
    | succ i => exact .undef _ _)
  exact ⟨v, ι2, H2, nx2, v2, h1, ⟨st.ext, fun r q g l hl => r4 r q g l (rel.idx _ _ _ _ hl) (st.inj _ _ _ _ hl), r1, fun b hb => st.lv b (r3 b hb)⟩, h5, r2 0, h7⟩

end Go.Ab

namespace Go.Ab
open Go.RowKit

section
variable {α : Type} {c : α → List AV} {sz : Nat}

/-- The slices: the i-th is the whole row i of family F. -/
def fe (F n : Nat) (ll : Nat → List α) (gs : Nat → Nat) : List (List AV) := (List.range n).map fun i => [.own F (i + 1) (gs i) 0 (ll i).length]
/-- The rows. -/
def fi (c : α → List AV) (n : Nat) (ll : Nat → List α) (gs : Nat → Nat) : List (List (List AV) × Nat) := (List.range n).map fun i => ((ll i).map c, gs i)

def updF {β : Type} (f : Nat → β) (k : Nat) (v : β) : Nat → β := fun i => if i = k then v else f i
theorem updF_same {β : Type} {f : Nat → β} {k : Nat} {v : β} : updF f k v k = v := by simp [updF]
theorem updF_ne {β : Type} {f : Nat → β} {k i : Nat} {v : β} (h : i ≠ k) : updF f k v i = f i := by simp [updF, h]

theorem fe_len {F n : Nat} {ll : Nat → List α} {gs : Nat → Nat} : (fe F n ll gs).length = n := by simp [fe]
theorem fe_get {F n k : Nat} {ll : Nat → List α} {gs : Nat → Nat} (h : k < n) : (fe F n ll gs).getD k [] = [.own F (k + 1) (gs k) 0 (ll k).length] := by
  simp [fe, List.getD_eq_getElem?_getD, h]
theorem fi_get {n k : Nat} {ll : Nat → List α} {gs : Nat → Nat} (h : k < n) : (fi c n ll gs)[k]? = some ((ll k).map c, gs k) := by simp [fi, h]

theorem map_range_set {β : Type} {f : Nat → β} {n k : Nat} {v : β} : ((List.range n).map f).set k v = (List.range n).map (updF f k v) := by
  apply List.ext_getElem?
  intro i
  rw [List.getElem?_set]
  by_cases hk : k = i
  · subst hk
    by_cases hn : k < n
    · simp [hn, updF]
    · simp [hn]
  · rw [if_neg hk]
    simp only [List.getElem?_map]
    by_cases hn : i < n
    · simp [hn, updF, Ne.symm hk]
    · simp [hn]

theorem fe_set {F n k g : Nat} {ll : Nat → List α} {gs : Nat → Nat} {l : List α} : (fe F n ll gs).set k [.own F (k + 1) g 0 l.length] = fe F n (updF ll k l) (updF gs k g) := by
  unfold fe
  rw [map_range_set]
  refine List.map_congr_left fun i hi => ?_
  unfold updF
  split
  · rename_i h; subst h; rfl
  · rfl
theorem fi_set {n k g : Nat} {ll : Nat → List α} {gs : Nat → Nat} {l : List α} : (fi c n ll gs).set k (l.map c, g) = fi c n (updF ll k l) (updF gs k g) := by
  unfold fi
  rw [map_range_set]
  refine List.map_congr_left fun i hi => ?_
  unfold updF
  split <;> rfl

theorem fi_snoc {n k g : Nat} {ll : Nat → List α} {gs : Nat → Nat} {a : α} {ca : List AV} (h : c a = ca) : (fi c n ll gs).set k ((ll k).map c ++ [ca], g) = fi c n (updF ll k (ll k ++ [a])) (updF gs k g) := by
  rw [← fi_set, List.map_append, List.map_singleton, h]
theorem fe_snoc {F n k g m : Nat} {ll : Nat → List α} {gs : Nat → Nat} (a : α) (h : m = (ll k).length + 1) : (fe F n ll gs).set k [.own F (k + 1) g 0 m] = fe F n (updF ll k (ll k ++ [a])) (updF gs k g) := by
  rw [← fe_set, List.length_append, h]
  rfl

theorem fi_getD {n k : Nat} {ll : Nat → List α} {gs : Nat → Nat} : (fi c n ll gs)[k]? = if k < n then some ((ll k).map c, gs k) else none := by
  split
  · exact fi_get ‹_›
  · simp [fi]; omega

variable {H HH : AH} {σ : Nat → Nat → Option (Nat × Nat × Nat)} {D : Nat → Nat → Prop} {t : Bool}

theorem rowV_fe {F F' n : Nat} {ll : Nat → List α} {gs : Nat → Nat} (h : ∀ i, σ F' (i + 1) = some (F, i + 1, 0)) : RowV H HH σ D (fe F n ll gs) (fe F' n ll gs) := by
  intro i c2 hi
  unfold fe at hi ⊢
  simp only [List.getElem?_map, Option.map_eq_some_iff] at hi ⊢
  obtain ⟨k, hk, rfl⟩ := hi
  refine ⟨_, ⟨k, hk, rfl⟩, rfl, fun j x y h1 h2 => ?_⟩
  cases j with
  | succ j => cases h1
  | zero =>
    cases h1
    cases h2
    exact .own _ _ _ 0 _ _ _ _ _ (h k) rfl

theorem rowV_fe_new {F' n : Nat} (h : ∀ i, σ F' (i + 1) = none) (hg : ∀ i, i < n → ∃ sz, HH.get F' (i + 1) = some (.row sz [] 0)) : RowV H HH σ D (List.replicate n [.nilsl]) (fe (α := α) F' n (fun _ => []) (fun _ => 0)) := by
  intro i c2 hi
  unfold fe at hi
  simp only [List.getElem?_map, Option.map_eq_some_iff] at hi
  obtain ⟨k, hk, rfl⟩ := hi
  obtain ⟨hkl, rfl⟩ := List.getElem?_eq_some_iff.1 hk
  simp at hkl
  refine ⟨[.nilsl], by simp [hkl], rfl, fun j x y h1 h2 => ?_⟩
  cases j with
  | succ j => cases h1
  | zero =>
    cases h1
    cases h2
    simp only [List.getElem_range, List.length_nil]
    obtain ⟨s, hs⟩ := hg i hkl
    exact .new _ _ s (h i) hs

theorem fi_part {F n : Nat} {ll : Nat → List α} {gs : Nat → Nat} (h : HH.look F = some (.fam sz (fi c n ll gs))) {i : Nat} (hi : i < n) : HH.get F (i + 1) = some (.row sz ((ll i).map c) (gs i)) := by
  unfold AH.get
  rw [h]
  simp only [Option.bind_some, AObj.part, fi_get hi, Option.map_some]

theorem rowV_fe_start {F' n : Nat} (h : ∀ i, σ F' (i + 1) = none) (hF : HH.look F' = some (.fam sz (fi c n (fun _ => []) (fun _ => 0)))) : RowV H HH σ D (List.replicate n [.nilsl]) (fe (α := α) F' n (fun _ => []) (fun _ => 0)) :=
  rowV_fe_new h (fun i hi => ⟨sz, fi_part hF hi⟩)

/-- A family, seen otherwise. -/
def famIs (sz : Nat) (c : α → List AV) (n : Nat) (ll : Nat → List α) (gs : Nat → Nat) (d : Nat) (o : Option AObj) : Prop := o = some (.fam sz (fi c n ll gs)) ∧ d = 0
def famAt (H : AH) (sz : Nat) (c : α → List AV) (n : Nat) (ll : Nat → List α) (gs : Nat → Nat) : Option (Nat × Nat) → Prop
  | some (r, d) => famIs sz c n ll gs d (H.look r)
  | none => ∀ i, i < n → ll i = [] ∧ gs i = 0

theorem rowsV_fam {tb : Tab} {ds : List Nat} {n r' m : Nat} {ll : Nat → List α} {gs : Nat → Nat} {u : AH} (hc : ∀ a, allFlat (c a) = true) (h1 : r' < n) (h2 : famAt H sz c m ll gs (tb.at r')) (h3 : rowsV H HH tb ds n u) :
    rowsV H HH tb ds n ((r', .fam sz (fi c m ll gs)) :: u) := by
  refine ⟨by simpa [Nat.blt_eq] using h1, ?_, h3⟩
  cases hx : tb.at r' with
  | none =>
    rw [hx] at h2
    intro i p hp
    rw [fi_getD] at hp
    split at hp
    · rename_i hi
      cases hp
      obtain ⟨e1, e2⟩ := h2 i hi
      rw [e1, e2]
      rfl
    · cases hp
  | some p =>
    obtain ⟨r, d⟩ := p
    rw [hx] at h2
    obtain ⟨h4, rfl⟩ := h2
    intro i p hp
    rw [fi_getD] at hp
    split at hp
    · rename_i hi
      cases hp
      exact ⟨_, fi_part h4 hi, rowV_flat (by intro x hx; obtain ⟨a, _, rfl⟩ := List.mem_map.1 hx; exact hc a)⟩
    · cases hp

/-- A slice of slices, seen as lists that are only read. -/
theorem vw_fam {F r g n : Nat} {q : Nat} {ll : Nat → List α} {gs : Nat → Nat} (hD : D r q) (hg : H.get r q = some (.row 1 (fe F n ll gs) g)) (hb : n ≤ big) (hF : H.look F = some (.fam sz (fi c n ll gs))) (hDF : ∀ i, i < n → D F (i + 1)) (hbl : ∀ i, i < n → (ll i).length ≤ big)
    (hc : ∀ a, allFlat (c a) = true) : Vw H HH σ D t (.own r q g 0 n) (encL 1 (fun l => [encL sz c l]) ((List.range n).map ll)) := by
  have e : encL 1 (fun l => [encL sz c l]) ((List.range n).map ll) = .sl 1 n (fun i j => ((((List.range n).map ll).map (fun l => [encL sz c l])).getD i []).getD j .undef) := by simp [encL]
  rw [e]
  refine .frz t r q g 0 n 1 (fe F n ll gs) _ hD hg hb (by rw [fe_len]; omega) (fun i j hi hj => ?_)
  obtain rfl : j = 0 := by omega
  rw [Nat.zero_add, fe_get hi]
  simp only [List.getD_cons_zero, List.map_map, List.getD_eq_getElem?_getD, List.getElem?_map, List.getElem?_range hi, Option.map_some, Option.getD_some, Function.comp]
  refine vw_encL (hDF i hi) (fi_part hF hi) (hbl i hi) (fun a ha j hj => ?_)
  have := hc a
  rw [List.getD_eq_getElem?_getD]
  cases hx : (c a)[j]? with
  | none => exact .undef _ _
  | some x => exact vw_flat0 (allFlat_get this hx)

end
end Go.Ab

namespace Go.Ab
open Go.RowKit

/-- Values that lead to no memory that is only read. -/
def AV.nomem0 : AV → Bool
  | .undef | .int .. | .bool _ | .str _ | .nilp | .nilfn | .nilsl | .cut | .own .. | .ptr .. => true
  | _ => false

def AV.nomem : AV → Bool
  | .agg l => l.all AV.nomem0
  | .tup l => l.all AV.nomem0
  | a => a.nomem0

theorem nomem0_vr {w : World} {M M' : Nat → Prop} {ι : Inj} {v : Value} {a : AV} (ha : a.nomem0 = true) (h : VR w M ι v a) : VR w M' ι v a := by
  cases h <;> first | (cases ha; done) | (constructor <;> assumption)

theorem nomem_vr {w : World} {M M' : Nat → Prop} {ι : Inj} {v : Value} {a : AV} (ha : a.nomem = true) (h : VR w M ι v a) : VR w M' ι v a := by
  cases a with
  | agg l =>
    cases h with
    | agg _ cs asv hs h1 hv => exact .agg _ _ _ hs h1 (fun i v a h2 h3 => nomem0_vr (List.all_eq_true.1 ha a (List.mem_of_getElem? h3)) (hv i v a h2 h3))
  | tup l =>
    cases h with
    | tup _ cs asv hs hv => exact .tup _ _ _ hs (fun i v a h2 h3 => nomem0_vr (List.all_eq_true.1 ha a (List.mem_of_getElem? h3)) (hv i v a h2 h3))
  | _ => exact nomem0_vr ha h

/-- Rows without memory that is only read. -/
def NoMemH (H : AH) : Prop := ∀ r q sz els g, H.get r q = some (.row sz els g) → ∀ c ∈ els, c.all AV.nomem0 = true

/-- A CALL that is lent rows of D for reading, and makes rows of its own. -/
theorem call_lend {P : Program} {f : FuncId} {asv bs : List AV} {H : AH} {nx : Nat} {D : Nat → Nat → Prop} {Post k : AV → AH → Nat → Prop} (h : CallOk P f bs [] 0 Post) (ha : Lend H D asv bs)
    (hm : ∀ v H' nx', Post v H' nx' → v.nomem = true ∧ NoMemH H') (hk : ∀ v H' nx', Post v H' nx' → k (v.ren (· + nx)) (H.plus nx H') (nx + nx')) : CallOk P f asv H nx k := by
  intro w L ι vs rel hv
  refine (h w (lentOff L ι H D) noI vs (.empty (lentOff_lt rel)) (ha.vrs rel hv)).mono fun e w' ⟨v, ι', H', nx', a, h3, h4, _, h6, h7⟩ => ?_
  obtain ⟨hm1, hm2⟩ := hm _ _ _ h7
  have hnew : ∀ b, live ι' H' b → w.heap.size ≤ b := fun b hb => (h4.lv b hb).resolve_left (no_live b)
  have hlt : ∀ b, Lt L ι H b → b < w.heap.size := fun b hb => by rcases hb with hb | hb; exact rel.Lsz b hb; exact rel.live_lt hb
  have rel2 : RelH w' (Lt L ι H) ι' H' nx' := by
    refine ⟨fun r q sz els g hg => ?_, h4.rel.apart, fun b hb hL => ?_, h4.rel.idx, h4.rel.dom, h4.rel.gen, fun b hb => Nat.lt_of_lt_of_le (hlt b hb) h4.ext.size⟩
    · obtain ⟨l, h8, ok⟩ := h4.rel.row _ _ _ _ _ hg
      refine ⟨l, h8, ok.hsz, ok.len, ok.max, ok.there, ok.wide, fun i c j a hi hj => ?_⟩
      obtain ⟨v, h9, h10, h11⟩ := ok.holds i c j a hi hj
      exact ⟨v, h9, h10, nomem0_vr (List.all_eq_true.1 (hm2 _ _ _ _ _ hg c (List.mem_of_getElem? hi)) a (List.mem_of_getElem? hj)) h11⟩
    · have := hnew b hb
      have := hlt b hL
      omega
  have st2 : Step w (Lt L ι H) noI [] 0 w' ι' H' nx' := ⟨h4.ext, h4.inj, rel2, h4.lv⟩
  obtain ⟨h8, h9⟩ := Step.plus rel st2
  exact ⟨v, _, _, _, _, h3, h8, Nat.le_add_right _ _, h9 v a (nomem_vr hm1 h6), hk _ _ _ h7⟩

theorem noMemH_one {r sz g : Nat} {els : List (List AV)} (h : ∀ c ∈ els, c.all AV.nomem0 = true) : NoMemH [(r, .row sz els g)] := by
  intro x q sz' els' g' hg
  unfold AH.get at hg
  simp only [AH.look] at hg
  cases hb : Nat.beq r x with
  | false => rw [hb] at hg; cases hg
  | true =>
    rw [hb] at hg
    simp only [cond_true, Option.bind_some] at hg
    cases q with
    | zero => cases hg; exact h
    | succ q => cases hg

theorem noMem_ints {l : List Int} : ∀ c ∈ l.map cI, c.all AV.nomem0 = true := by
  intro c hc
  obtain ⟨a, _, rfl⟩ := List.mem_map.1 hc
  rfl

/-- What a call leaves behind the caller's rows. -/
theorem evP :
  (∀ {H : AH} {n : Nat}, AH.plus H n [] = H) ∧ (∀ {H : AH} {n r : Nat} {o : AObj} {t : AH}, AH.plus H n ((r, o) :: t) = (AH.plus H n t).put (r + n) (o.ren (· + n))) := ⟨rfl, rfl⟩

end Go.Ab

namespace Go.Ab
open Go.RowKit

section
variable {HH : Type} {enc : TypeId × Value → HH} {P : Program} {w : World} {base : Nat} {spare : Nat → Bool} {held : Bool} {L : Nat → Prop}

theorem mapM_get2 {α β : Type} {f : α → Option β} : ∀ {l : List α} {r : List β}, l.mapM f = some r → r.length = l.length ∧ ∀ (i : Nat) (a : α), l[i]? = some a → ∃ b, r[i]? = some b ∧ f a = some b
  | [], r, h => by
    simp only [List.mapM_nil, Option.pure_def, Option.some.injEq] at h
    subst h
    exact ⟨rfl, fun i a h => by simp at h⟩
  | x :: l, r, h => by
    simp only [List.mapM_cons, Option.bind_eq_bind, Option.bind_eq_some_iff, Option.pure_def, Option.some.injEq] at h
    obtain ⟨b, h1, bs, h2, rfl⟩ := h
    obtain ⟨h3, h4⟩ := mapM_get2 h2
    refine ⟨by simp [h3], fun i a hi => ?_⟩
    cases i with
    | zero => cases hi; exact ⟨b, rfl, h1⟩
    | succ i => exact h4 i a hi

theorem cells_get {a : Addr} {n : Nat} {cs : List Value} (h : w.cells? base a n = some cs) : cs.length = n ∧ ∀ j, j < n → w.cell? (a.add j) = some (cs.getD j undef) := by
  unfold World.cells? at h
  split at h
  · obtain ⟨h1, h2⟩ := mapM_get2 h
    refine ⟨by simpa using h1, fun j hj => ?_⟩
    obtain ⟨b, h3, h4⟩ := h2 j j (by simp [hj])
    rw [h4, List.getD_eq_getElem?_getD, h3]
    rfl
  · cases h

/-- A row of cells, as values that are only read. -/
def ElOk (w : World) (L : Nat → Prop) (vs : List Value) (asv : List AV) : Prop := ∀ j, j < vs.length → VR w L noI (vs.getD j undef) (asv.getD j .undef) ∧ (vs.getD j undef).oneCell' = true

theorem vr_slice {α : Type} {cells : α → List AV} {t e : TypeId} {sz : Nat} (ht : P.underlying t = some (.slice e)) (hs : P.cellsOf e = sz) (hL : ∀ b, ¬ L b)
    (hel : ∀ fuel cs y, DataW.trod enc P w base spare held fuel e cs = some y → cs.length = sz → ∃ x : α, ElOk w L cs (cells x)) {fuel : Nat} {cs : List Value} {y : DataW HH × List MemPlace}
    (h : DataW.trod enc P w base spare held fuel t cs = some y) : ∃ (l : List α) (v : Value), cs = [v] ∧ v.oneCell' = true ∧ ∀ ι, VR w L ι v (encL sz cells l) := by
  rcases DataW.trod_slice ht h with ⟨rfl, rfl⟩ | ⟨a, len, cap, elems, rest, n, rfl, rfl, rfl, hb, hl, hc, he, hi, _, _⟩
  · exact ⟨[], _, rfl, rfl, fun ι => .sl0 _ _ _⟩
  · rw [hs] at hi
    have key : ∀ i : Fin len, ∃ p : α × List Value, p.2.length = sz ∧ (∀ j, j < sz → w.cell? ((a.add (i.1 * sz)).add j) = some (p.2.getD j undef)) ∧ ElOk w L p.2 (cells p.1) := by
      intro i
      have h1 := hi i.1 i.2
      rw [List.getElem?_eq_getElem (by omega), Option.bind_eq_some_iff] at h1
      obtain ⟨cs', h2, h3⟩ := h1
      obtain ⟨h4, h5⟩ := cells_get h2
      obtain ⟨x, hx⟩ := hel _ _ _ h3 h4
      exact ⟨(x, cs'), h4, h5, hx⟩
    obtain ⟨F, hF⟩ := Classical.axiomOfChoice key
    refine ⟨List.ofFn fun i => (F i).1, _, rfl, rfl, fun ι => ?_⟩
    have hlen : (List.ofFn fun i => (F i).1).length = len := List.length_ofFn
    unfold encL
    rw [hlen]
    refine .sl ι a sz len cap _ (fun i j => if hi : i < len then (F ⟨i, hi⟩).2.getD j undef else undef) hl (by unfold maxLen at hc; unfold big; omega) (fun i j hi hj => ?_) (fun _ => hL _) (fun i j hi hj => ?_)
    · obtain ⟨h1, h2, h3⟩ := hF ⟨i, hi⟩
      rw [dif_pos hi]
      exact ⟨h2 j hj, (h3 j (by omega)).2⟩
    · obtain ⟨h1, h2, h3⟩ := hF ⟨i, hi⟩
      rw [dif_pos hi]
      have e : ((List.ofFn fun i => (F i).1).map cells).getD i [] = cells (F ⟨i, hi⟩).1 := by
        rw [map_getD (a := (F ⟨i, hi⟩).1)]
        rw [List.getElem?_eq_getElem (by rw [hlen]; exact hi), List.getElem_ofFn]
      rw [e]
      exact (h3 j (by omega)).1

theorem inR_wf {k : IntKind} {n : Int} (h : (Lit.int k n).wf = true) : InR k n := by
  unfold Lit.wf at h
  simpa [InR] using h

theorem el_int {k : IntKind} {t : TypeId} (ht : P.underlying t = some (.int k)) {fuel : Nat} {cs : List Value} {y : DataW HH × List MemPlace} (h : DataW.trod enc P w base spare held fuel t cs = some y) :
    ∃ n : Int, cs = [.int k n] ∧ InR k n := by
  obtain ⟨n, rfl, _, hw⟩ := DataW.trod_int ht h
  exact ⟨n, rfl, inR_wf hw⟩

theorem vr_ints {k : IntKind} {t e : TypeId} (ht : P.underlying t = some (.slice e)) (he : P.underlying e = some (.int k)) (hs : P.cellsOf e = 1) (hL : ∀ b, ¬ L b) {fuel : Nat} {cs : List Value} {y : DataW HH × List MemPlace}
    (h : DataW.trod enc P w base spare held fuel t cs = some y) : ∃ (l : List Int) (v : Value), cs = [v] ∧ v.oneCell' = true ∧ (∀ ι, VR w L ι v (encL 1 (fun n => [.int k n]) l)) := by
  refine vr_slice ht hs hL (fun fuel cs y h hl => ?_) h
  obtain ⟨n, rfl, hn⟩ := el_int he h
  refine ⟨n, fun j hj => ?_⟩
  obtain rfl : j = 0 := by simpa using hj
  exact ⟨.int _ _ _ hn, rfl⟩

end
end Go.Ab

namespace Go.Ab
open Go.RowKit Go.Proofs Go.Proofs.Ytglokgacghadbaa

section
variable {HH : Type} {enc : TypeId × Value → HH} {w : World} {base : Nat} {spare : Nat → Bool} {held : Bool} {L : Nat → Prop} (hL : ∀ b, ¬ L b)
include hL

theorem open_stm {fuel : Nat} {cs : List Value} {y : DataW HH × List MemPlace} (h : DataW.trod enc Try.prog w base spare held fuel 49 cs = some y) : ∃ s : Stm, ElOk w L cs s.cells := by
  obtain ⟨xs, n, rfl, rfl, hlen, hxs, hf⟩ := DataW.trod_struct Try.underlying49 h
  have hc : Try.prog.cellsOf 49 = 8 := by kernel_rfl
  have hc3 : Try.prog.cellsOf 3 = 1 := by kernel_rfl
  have hc22 : Try.prog.cellsOf 22 = 1 := by kernel_rfl
  have hc47 : Try.prog.cellsOf 47 = 1 := by kernel_rfl
  have hc29 : Try.prog.cellsOf 29 = 1 := by kernel_rfl
  rw [hc] at hlen
  have hget : ∀ i, i < 8 → xs[i]? = some (xs.getD i (.nil, [])) := fun i hi => by
    rw [List.getD_eq_getElem?_getD, List.getElem?_eq_getElem (by rw [hxs]; exact hi)]
    rfl
  match cs, hlen with
  | [c0, c1, c2, c3, c4, c5, c6, c7], _ =>
    have f0 : DataW.trod enc Try.prog w base spare held n 3 (([c0, c1, c2, c3, c4, c5, c6, c7].drop 0).take (Try.prog.cellsOf 3)) = some (xs.getD 0 (.nil, [])) := (hf 0 _ rfl).trans (hget 0 (by decide))
    rw [hc3] at f0
    replace f0 : DataW.trod enc Try.prog w base spare held n 3 [c0] = some (xs.getD 0 (.nil, [])) := f0
    have f1 : DataW.trod enc Try.prog w base spare held n 3 (([c0, c1, c2, c3, c4, c5, c6, c7].drop 1).take (Try.prog.cellsOf 3)) = some (xs.getD 1 (.nil, [])) := (hf 1 _ rfl).trans (hget 1 (by decide))
    rw [hc3] at f1
    replace f1 : DataW.trod enc Try.prog w base spare held n 3 [c1] = some (xs.getD 1 (.nil, [])) := f1
    have f2 : DataW.trod enc Try.prog w base spare held n 3 (([c0, c1, c2, c3, c4, c5, c6, c7].drop 2).take (Try.prog.cellsOf 3)) = some (xs.getD 2 (.nil, [])) := (hf 2 _ rfl).trans (hget 2 (by decide))
    rw [hc3] at f2
    replace f2 : DataW.trod enc Try.prog w base spare held n 3 [c2] = some (xs.getD 2 (.nil, [])) := f2
    have f3 : DataW.trod enc Try.prog w base spare held n 3 (([c0, c1, c2, c3, c4, c5, c6, c7].drop 3).take (Try.prog.cellsOf 3)) = some (xs.getD 3 (.nil, [])) := (hf 3 _ rfl).trans (hget 3 (by decide))
    rw [hc3] at f3
    replace f3 : DataW.trod enc Try.prog w base spare held n 3 [c3] = some (xs.getD 3 (.nil, [])) := f3
    have f4 : DataW.trod enc Try.prog w base spare held n 3 (([c0, c1, c2, c3, c4, c5, c6, c7].drop 4).take (Try.prog.cellsOf 3)) = some (xs.getD 4 (.nil, [])) := (hf 4 _ rfl).trans (hget 4 (by decide))
    rw [hc3] at f4
    replace f4 : DataW.trod enc Try.prog w base spare held n 3 [c4] = some (xs.getD 4 (.nil, [])) := f4
    have f5 : DataW.trod enc Try.prog w base spare held n 22 (([c0, c1, c2, c3, c4, c5, c6, c7].drop 5).take (Try.prog.cellsOf 22)) = some (xs.getD 5 (.nil, [])) := (hf 5 _ rfl).trans (hget 5 (by decide))
    rw [hc22] at f5
    replace f5 : DataW.trod enc Try.prog w base spare held n 22 [c5] = some (xs.getD 5 (.nil, [])) := f5
    have f6 : DataW.trod enc Try.prog w base spare held n 47 (([c0, c1, c2, c3, c4, c5, c6, c7].drop 6).take (Try.prog.cellsOf 47)) = some (xs.getD 6 (.nil, [])) := (hf 6 _ rfl).trans (hget 6 (by decide))
    rw [hc47] at f6
    replace f6 : DataW.trod enc Try.prog w base spare held n 47 [c6] = some (xs.getD 6 (.nil, [])) := f6
    have f7 : DataW.trod enc Try.prog w base spare held n 29 (([c0, c1, c2, c3, c4, c5, c6, c7].drop 7).take (Try.prog.cellsOf 29)) = some (xs.getD 7 (.nil, [])) := (hf 7 _ rfl).trans (hget 7 (by decide))
    rw [hc29] at f7
    replace f7 : DataW.trod enc Try.prog w base spare held n 29 [c7] = some (xs.getD 7 (.nil, [])) := f7
    obtain ⟨n0, h0, w0⟩ := el_int Try.underlying3 f0
    obtain ⟨n1, h1, w1⟩ := el_int Try.underlying3 f1
    obtain ⟨n2, h2, w2⟩ := el_int Try.underlying3 f2
    obtain ⟨n3, h3, w3⟩ := el_int Try.underlying3 f3
    obtain ⟨n4, h4, w4⟩ := el_int Try.underlying3 f4
    obtain ⟨n5, h5, w5⟩ := el_int Try.underlying22 f5
    obtain ⟨l7, v7, h7, o7, w7⟩ := vr_ints Try.underlying29 Try.underlying3 hc3 hL f7
    have o6 : c6.oneCell' = true := by
      rcases DataW.trod_slice Try.underlying47 f6 with ⟨h, _⟩ | ⟨a, len, cap, elems, rest, n, _, h, _⟩
      · cases h; rfl
      · cases h; rfl
    cases h0; cases h1; cases h2; cases h3; cases h4; cases h5; cases h7
    refine ⟨⟨n0, n1, n2, n3, n4, n5, .undef, l7⟩, fun j hj => ?_⟩
    match j with
    | 0 => exact ⟨.int _ _ _ w0, rfl⟩
    | 1 => exact ⟨.int _ _ _ w1, rfl⟩
    | 2 => exact ⟨.int _ _ _ w2, rfl⟩
    | 3 => exact ⟨.int _ _ _ w3, rfl⟩
    | 4 => exact ⟨.int _ _ _ w4, rfl⟩
    | 5 => exact ⟨.int _ _ _ w5, rfl⟩
    | 6 => exact ⟨.undef _ _, o6⟩
    | 7 => exact ⟨w7 _, o7⟩
    | j + 8 => exact absurd hj (by simp)

theorem open_blk {fuel : Nat} {cs : List Value} {y : DataW HH × List MemPlace} (h : DataW.trod enc Try.prog w base spare held fuel 46 cs = some y) : ∃ b : Blk, ElOk w L cs b.cells := by
  obtain ⟨xs, n, rfl, rfl, hlen, hxs, hf⟩ := DataW.trod_struct Try.underlying46 h
  have hc : Try.prog.cellsOf 46 = 2 := by kernel_rfl
  have hc22 : Try.prog.cellsOf 22 = 1 := by kernel_rfl
  have hc44 : Try.prog.cellsOf 44 = 1 := by kernel_rfl
  have hc49 : Try.prog.cellsOf 49 = 8 := by kernel_rfl
  rw [hc] at hlen
  have hget : ∀ i, i < 2 → xs[i]? = some (xs.getD i (.nil, [])) := fun i hi => by
    rw [List.getD_eq_getElem?_getD, List.getElem?_eq_getElem (by rw [hxs]; exact hi)]
    rfl
  match cs, hlen with
  | [c0, c1], _ =>
    have f0 : DataW.trod enc Try.prog w base spare held n 22 (([c0, c1].drop 0).take (Try.prog.cellsOf 22)) = some (xs.getD 0 (.nil, [])) := (hf 0 _ rfl).trans (hget 0 (by decide))
    rw [hc22] at f0
    replace f0 : DataW.trod enc Try.prog w base spare held n 22 [c0] = some (xs.getD 0 (.nil, [])) := f0
    have f1 : DataW.trod enc Try.prog w base spare held n 44 (([c0, c1].drop 1).take (Try.prog.cellsOf 44)) = some (xs.getD 1 (.nil, [])) := (hf 1 _ rfl).trans (hget 1 (by decide))
    rw [hc44] at f1
    replace f1 : DataW.trod enc Try.prog w base spare held n 44 [c1] = some (xs.getD 1 (.nil, [])) := f1
    obtain ⟨n0, h0, w0⟩ := el_int Try.underlying22 f0
    obtain ⟨l1, v1, h1, o1, w1⟩ := vr_slice (α := Stm) (cells := Stm.cells) (L := L) Try.underlying44 hc49 hL (fun _ _ _ h _ => open_stm hL h) f1
    cases h0; cases h1
    refine ⟨⟨n0, l1⟩, fun j hj => ?_⟩
    match j with
    | 0 => exact ⟨.int _ _ _ w0, rfl⟩
    | 1 => exact ⟨w1 _, o1⟩
    | j + 2 => exact absurd hj (by simp)

theorem open_gr {fuel : Nat} {cs : List Value} {y : DataW HH × List MemPlace} (h : DataW.trod enc Try.prog w base spare held fuel 25 cs = some y) : ∃ g : Gr, cs.length = 2 ∧ ElOk w L cs g.cells ∧ ∀ j, j < 2 → ∀ ι, VR w L ι (cs.getD j undef) (g.cells.getD j .undef) := by
  obtain ⟨xs, n, rfl, rfl, hlen, hxs, hf⟩ := DataW.trod_struct Try.underlying25 h
  have hc : Try.prog.cellsOf 25 = 2 := by kernel_rfl
  have hc22 : Try.prog.cellsOf 22 = 1 := by kernel_rfl
  have hc23 : Try.prog.cellsOf 23 = 1 := by kernel_rfl
  have hc46 : Try.prog.cellsOf 46 = 2 := by kernel_rfl
  rw [hc] at hlen
  have hget : ∀ i, i < 2 → xs[i]? = some (xs.getD i (.nil, [])) := fun i hi => by
    rw [List.getD_eq_getElem?_getD, List.getElem?_eq_getElem (by rw [hxs]; exact hi)]
    rfl
  match cs, hlen with
  | [c0, c1], _ =>
    have f0 : DataW.trod enc Try.prog w base spare held n 22 (([c0, c1].drop 0).take (Try.prog.cellsOf 22)) = some (xs.getD 0 (.nil, [])) := (hf 0 _ rfl).trans (hget 0 (by decide))
    rw [hc22] at f0
    replace f0 : DataW.trod enc Try.prog w base spare held n 22 [c0] = some (xs.getD 0 (.nil, [])) := f0
    have f1 : DataW.trod enc Try.prog w base spare held n 23 (([c0, c1].drop 1).take (Try.prog.cellsOf 23)) = some (xs.getD 1 (.nil, [])) := (hf 1 _ rfl).trans (hget 1 (by decide))
    rw [hc23] at f1
    replace f1 : DataW.trod enc Try.prog w base spare held n 23 [c1] = some (xs.getD 1 (.nil, [])) := f1
    obtain ⟨n0, h0, w0⟩ := el_int Try.underlying22 f0
    obtain ⟨l1, v1, h1, o1, w1⟩ := vr_slice (α := Blk) (cells := Blk.cells) (L := L) Try.underlying23 hc46 hL (fun _ _ _ h _ => open_blk hL h) f1
    cases h0; cases h1
    refine ⟨⟨n0, l1⟩, rfl, fun j hj => ?_, fun j hj ι => ?_⟩
    · match j with
      | 0 => exact ⟨.int _ _ _ w0, rfl⟩
      | 1 => exact ⟨w1 _, o1⟩
      | j + 2 => exact absurd hj (by simp)
    · match j with
      | 0 => exact .int _ _ _ w0
      | 1 => exact w1 _
      | j + 2 => omega

theorem open_graph {v : Value} {d : DataW HH} {ps : List MemPlace} (hv : Value.okWide Try.prog w .any base 25 v) {b2 : Nat} (h : DataW.Trod enc Try.prog w b2 spare held 25 v d ps) : ∃ g : Gr, ∀ ι, VR w L ι v (.agg g.cells) := by
  obtain ⟨fuel, hf⟩ := h
  unfold Value.okWide at hv
  rw [Try.underlying25] at hv
  simp only at hv
  obtain ⟨cs, rfl, _, _⟩ := hv
  have hf' : DataW.trod enc Try.prog w b2 spare held fuel 25 cs.toList = some (d, ps) := hf
  obtain ⟨g, h1, h2, h3⟩ := open_gr hL hf'
  refine ⟨g, fun ι => .agg ι cs _ (by
    have : cs.size = 2 := by simpa using h1
    rw [this]; rfl) (fun i v hi => ?_) (fun i v a hi ha => ?_)⟩
  · have hi2 : i < cs.size := by
      rcases Nat.lt_or_ge i cs.size with h | h
      · exact h
      · rw [Array.getElem?_eq_none h] at hi; cases hi
    have := (h2 i (by simpa using hi2)).2
    rw [List.getD_eq_getElem?_getD, Array.getElem?_toList, hi] at this
    exact this
  · have hi2 : i < cs.size := by
      rcases Nat.lt_or_ge i cs.size with h | h
      · exact h
      · rw [Array.getElem?_eq_none h] at hi; cases hi
    have hi3 : i < 2 := by rw [← h1]; simpa using hi2
    have := h3 i hi3 ι
    rw [List.getD_eq_getElem?_getD, Array.getElem?_toList, hi, List.getD_eq_getElem?_getD, ha] at this
    exact this
end

end Go.Ab

namespace Go.Ab
open Go.RowKit Go.Proofs Go.Proofs.Ytglokgacghadbaa

theorem frz_true {H : AH} {v : AV} {b : Bool} (h : Frz H v (.bool b)) : v = .bool b := by
  unfold Frz at h
  generalize he : AV.bool b = x at h
  cases h <;> first | (cases he; done) | (cases he; rfl)

theorem row_true {P : Program} {f : FuncId} {args : List AV} {vs : Array Value} {w : World} (h : PureFn P f args (· = .bool true)) (hv : ∀ L : Nat → Prop, (∀ b, ¬ L b) → VRs w L noI vs.toList args) :
    Calls P f vs w fun e w' => e = .returned (.bool true) ∧ Below w.heap.size w w' := by
  have hno : ∀ b, ¬ Lt (fun _ => False) noI [] b := fun b hb => hb.elim (fun h => h) (no_live b)
  refine (h w (fun _ => False) noI vs (.empty (fun b hb => hb.elim)) (hv _ hno)).mono fun e w' ⟨v, ι', H', nx', a, h1, h2, _, h4, a2, h5, h6⟩ => ?_
  subst h1 h6
  have := frz_true h5
  subst this
  cases h4
  exact ⟨rfl, h2.ext.os, h2.ext.tape, h2.ext.output, h2.ext.size, fun k hk => h2.ext.block k hk (no_live k)⟩

end Go.Ab

namespace Go.Ab

def f_main_main : Nat := 0
def f_gosem_cut : Nat := 1
def f_gosem_cut_init : Nat := 2
def f_L24_DominatorPaths : Nat := 3
def f_L24_DominatorTree : Nat := 4
def f_L24_DominatorRemoval : Nat := 5
def f_L24_DominatorOrder : Nat := 6
def f_L24_DominatorFrontiers : Nat := 7
def f_L24_DominatorPredecessors : Nat := 8
def f_L24_DominatorPost : Nat := 9
def f_L24_DominatorLists : Nat := 10
def f_L24_few : Nat := 11
def f_L24_exampleHolds : Nat := 12
def f_dominator_Tree : Nat := 13
def f_R24_Edges : Nat := 14
def f_R24_Has : Nat := 15
def f_R24_Ints : Nat := 16
def f_R24_Tree : Nat := 17
def f_dominator_Reachable : Nat := 18
def f_L24_without : Nat := 19
def f_dominator_Dominates : Nat := 20
def f_dominator_Order : Nat := 21
def f_R24_Reachable : Nat := 22
def f_R24_Order : Nat := 23
def f_R24_Lists : Nat := 24
def f_dominator_Frontier : Nat := 25
def f_R24_Frontier : Nat := 26
def f_dominator_Predecessors : Nat := 27
def f_R24_Predecessors : Nat := 28
def f_dominator_PostTree : Nat := 29
def f_R24_PostTree : Nat := 30
def f_R24_Dominates : Nat := 31
def f_L24_jump : Nat := 32
def f_dominator_tree : Nat := 33
def f_dominator_all : Nat := 34
def f_R24_targets : Nat := 35
def f_R24_strict : Nat := 36
def f_R24_nearest : Nat := 37
def f_dominator_order : Nat := 38
def f_R24_from : Nat := 39
def f_R24_visit : Nat := 40
def f_slices_Contains_int_int : Nat := 41
def f_dominator_turned : Nat := 42
def f_slices_Compact_int_int : Nat := 43
def f_R24_leaves : Nat := 44
def f_dominator_tree_1 : Nat := 45
def f_dominator_edges : Nat := 46
def f_dominator_order_1 : Nat := 47
def f_slices_Reverse_int_int : Nat := 48
def f_slices_Index_int_int : Nat := 49
def f_slices_Clone_int_int : Nat := 50
def f_slices_DeleteFunc_int_int : Nat := 51
def f_dominator_edges_1 : Nat := 52
def f_slices_IndexFunc_int_int : Nat := 53
def f_runtime_boundsError_Error : Nat := 54
def f_runtime_boundsError_RuntimeError : Nat := 55
def f_runtime_errorString_Error : Nat := 56
def f_runtime_errorString_RuntimeError : Nat := 57
def f_runtime_plainError_Error : Nat := 58
def f_runtime_plainError_RuntimeError : Nat := 59
def f_runtime_errorAddressString_Error : Nat := 60
def f_runtime_errorAddressString_RuntimeError : Nat := 61
def f_runtime_TypeAssertionError_Error : Nat := 62
def f_runtime_TypeAssertionError_RuntimeError : Nat := 63
def f_runtime_PanicNilError_Error : Nat := 64
def f_runtime_PanicNilError_RuntimeError : Nat := 65
def f_internal_abi_Type_Align : Nat := 66
def f_internal_runtime_maps_unhashableTypeError_Error : Nat := 67
def f_internal_runtime_maps_unhashableTypeError_RuntimeError : Nat := 68
def f_internal_abi_Kind_String : Nat := 69

end Go.Ab

namespace Go.Ab
open Go.RowKit Go.Proofs

def ac_L24_DominatorPaths_l0 : ACode :=
  /-live [1, 2, 5, 6, 7, 8]-/ .seq /-15-/
  (.seq /-16-/
  (.region [
    ⟨(some 32), .mov (.t 8), none⟩,
    ⟨(some 33), .mov (.t 1), none⟩,
    ⟨(some 34), .len (.t 33), none⟩,
    ⟨(some 35), .bin .lss (.t 32) (.t 34), none⟩] [32, 33, 34])
  (.cond (.t 35)
    (.skip)
    (.exit 0)))
  (.seq /-17-/
  (.block 1
    (.seq /-18-/
    (.region [
      ⟨(some 38), .load true 2 (.t 2), none⟩,
      ⟨(some 39), .mov (.t 7), none⟩,
      ⟨(some 40), .call f_R24_Edges [(.t 38), (.t 39)], none⟩,
      ⟨(some 9), .mov (.t 40), none⟩] [7, 35, 38, 39, 40])
    (.seq /-19-/
    (.seq /-20-/
    (.region [
      ⟨(some 41), .mov (.t 9), none⟩,
      ⟨(some 42), .len (.t 41), none⟩,
      ⟨(some 43), .bin .eql (.t 42) (.c (.int .i64 0)), none⟩] [41, 42])
    (.cond (.t 43)
      (.exit 0)
      (.skip)))
    (.seq /-21-/
    (.region [
      ⟨(some 44), .mov (.t 9), none⟩,
      ⟨(some 45), .mov (.t 1), none⟩,
      ⟨(some 46), .mov (.t 8), none⟩,
      ⟨(some 47), .idx 1 (.t 45) (.t 46), none⟩,
      ⟨(some 48), .load false 1 (.t 47), none⟩,
      ⟨(some 49), .conv .i64 (.t 48), none⟩,
      ⟨(some 50), .mov (.t 9), none⟩,
      ⟨(some 51), .len (.t 50), none⟩,
      ⟨(some 52), .bin .rem (.t 49) (.t 51), none⟩,
      ⟨(some 53), .idx 1 (.t 44) (.t 52), none⟩,
      ⟨(some 54), .load false 1 (.t 53), none⟩,
      ⟨(some 7), .mov (.t 54), none⟩] [9, 43, 44, 45, 46, 47, 48, 49, 50, 51, 52, 53, 54])
    (.seq /-22-/
    (.seq /-23-/
    (.region [
      ⟨(some 55), .mov (.t 7), none⟩,
      ⟨(some 56), .bin .neq (.t 55) (.c (.int .i64 0)), none⟩,
      ⟨(some 57), .mov (.t 56), none⟩,
      ⟨(some 58), .mov (.t 6), (some (57, true))⟩,
      ⟨(some 59), .mov (.t 5), (some (57, true))⟩,
      ⟨(some 60), .mov (.t 7), (some (57, true))⟩,
      ⟨(some 61), .idx 1 (.t 59) (.t 60), (some (57, true))⟩,
      ⟨(some 62), .load false 1 (.t 61), (some (57, true))⟩,
      ⟨(some 63), .call f_R24_Has [(.t 58), (.t 62)], (some (57, true))⟩,
      ⟨(some 64), .un .not (.t 63), (some (57, true))⟩,
      ⟨(some 65), .pick (.t 57) (.t 64) (.c (.bool false)), none⟩,
      ⟨(some 66), .mov (.t 65), none⟩,
      ⟨(some 67), .mov (.t 5), (some (66, false))⟩,
      ⟨(some 68), .mov (.t 7), (some (66, false))⟩,
      ⟨(some 69), .idx 1 (.t 67) (.t 68), (some (66, false))⟩,
      ⟨(some 70), .load false 1 (.t 69), (some (66, false))⟩,
      ⟨(some 71), .mov (.t 7), (some (66, false))⟩,
      ⟨(some 72), .bin .eql (.t 70) (.t 71), (some (66, false))⟩,
      ⟨(some 73), .pick (.t 66) (.c (.bool true)) (.t 72), none⟩] [55, 56, 57, 58, 59, 60, 61, 62, 63, 64, 65, 66, 67, 68, 69, 70, 71, 72])
    (.cond (.t 73)
      (.seq /-24-/
      (.region [
        ⟨(some 4), .mov (.c (.bool false)), none⟩] [1, 2, 5, 6, 7, 8, 73])
      (.ret))
      (.skip)))
    (.region [
      ⟨(some 74), .mov (.t 6), none⟩,
      ⟨(some 75), .mov (.t 7), none⟩,
      ⟨(some 76), .buildSl 1 1 [.int .i64 0] [(0, (.t 75))], none⟩,
      ⟨(some 77), .append 1 8 (.t 74) (.t 76), none⟩,
      ⟨(some 6), .mov (.t 77), none⟩] [4, 73, 74, 75, 76, 77]))))))
  (.region [
    ⟨(some 36), .mov (.t 8), none⟩,
    ⟨(some 37), .bin .add (.t 36) (.c (.int .i64 1)), none⟩,
    ⟨(some 8), .mov (.t 37), none⟩] [36, 37]))

def ac_L24_DominatorPaths_k1 : ACode :=
  /-live [5]-/ .seq /-25-/
  (.region [
    ⟨(some 78), .mov (.t 5), none⟩,
    ⟨(some 79), .idx 1 (.t 78) (.c (.int .i64 0)), none⟩,
    ⟨(some 80), .load false 1 (.t 79), none⟩,
    ⟨(some 81), .bin .eql (.t 80) (.c (.int .i64 (-1))), none⟩,
    ⟨(some 82), .mov (.t 81), none⟩,
    ⟨(some 83), .call f_L24_exampleHolds [], (some (82, true))⟩,
    ⟨(some 84), .pick (.t 82) (.t 83) (.c (.bool false)), none⟩,
    ⟨(some 4), .mov (.t 84), none⟩] [1, 2, 5, 6, 7, 8, 78, 79, 80, 81, 82, 83, 84])
  (.ret)

/-- decompiler/decompilerlaw24.DominatorPaths -/
def ac_L24_DominatorPaths : ACode :=
  .seq /-0-/
  (.region [
    ⟨(some 2), .rbox (.t 0), none⟩,
    ⟨(some 4), .mov (.c (.bool false)), none⟩] [0, 4])
  (.seq /-1-/
  (.seq /-2-/
  (.region [
    ⟨(some 10), .load true 2 (.t 2), none⟩,
    ⟨(some 11), .call f_L24_few [(.t 10)], none⟩,
    ⟨(some 12), .un .not (.t 11), none⟩,
    ⟨(some 13), .mov (.t 12), none⟩,
    ⟨(some 14), .mov (.t 1), (some (13, false))⟩,
    ⟨(some 15), .len (.t 14), (some (13, false))⟩,
    ⟨(some 16), .bin .gtr (.t 15) (.c (.int .i64 60)), (some (13, false))⟩,
    ⟨(some 17), .pick (.t 13) (.c (.bool true)) (.t 16), none⟩] [10, 11, 12, 13, 14, 15, 16])
  (.cond (.t 17)
    (.seq /-3-/
    (.region [
      ⟨(some 18), .call f_L24_exampleHolds [], none⟩,
      ⟨(some 4), .mov (.t 18), none⟩] [1, 2, 17, 18])
    (.ret))
    (.skip)))
  (.seq /-4-/
  (.region [
    ⟨(some 19), .load true 2 (.t 2), none⟩,
    ⟨(some 20), .call f_dominator_Tree [(.t 19)], none⟩,
    ⟨(some 5), .mov (.t 20), none⟩] [4, 17, 19, 20])
  (.seq /-5-/
  (.seq /-6-/
  (.region [
    ⟨(some 21), .mov (.t 5), none⟩,
    ⟨(some 22), .len (.t 21), none⟩,
    ⟨(some 23), .fldaddr 1 1 (.t 2), none⟩,
    ⟨(some 24), .load false 1 (.t 23), none⟩,
    ⟨(some 25), .len (.t 24), none⟩,
    ⟨(some 26), .bin .neq (.t 22) (.t 25), none⟩] [21, 22, 23, 24, 25])
  (.cond (.t 26)
    (.seq /-7-/
    (.region [
      ⟨(some 4), .mov (.c (.bool false)), none⟩] [1, 2, 5, 26])
    (.ret))
    (.skip)))
  (.seq /-8-/
  (.seq /-9-/
  (.region [
    ⟨(some 27), .mov (.t 5), none⟩,
    ⟨(some 28), .len (.t 27), none⟩,
    ⟨(some 29), .bin .eql (.t 28) (.c (.int .i64 0)), none⟩] [4, 26, 27, 28])
  (.cond (.t 29)
    (.seq /-10-/
    (.region [
      ⟨(some 30), .call f_L24_exampleHolds [], none⟩,
      ⟨(some 4), .mov (.t 30), none⟩] [1, 2, 5, 29, 30])
    (.ret))
    (.skip)))
  (.seq /-11-/
  (.region [
    ⟨(some 31), .buildSl 1 1 [.int .i64 0] [(0, (.c (.int .i64 0)))], none⟩,
    ⟨(some 6), .mov (.t 31), none⟩] [4, 29, 31])
  (.seq /-12-/
  (.region [
    ⟨(some 7), .mov (.c (.int .i64 0)), none⟩] [])
  (.seq /-13-/
  (.seq /-14-/
  (.region [
    ⟨(some 8), .mov (.c (.int .i64 0)), none⟩] [])
  (.block 0
    (.loop ac_L24_DominatorPaths_l0)))
  (ac_L24_DominatorPaths_k1))))))))

def rs_L24_DominatorPaths : List ARet := [.tmp 4]

set_option maxRecDepth 100000 in
theorem cf_L24_DominatorPaths : compF Try.prog f_L24_DominatorPaths (qRo [2]) = some (ac_L24_DominatorPaths.strip, rs_L24_DominatorPaths, 85) := by kernel_rfl


/-- decompiler/decompilerlaw24.DominatorTree -/
def ac_L24_DominatorTree : ACode :=
  .seq /-0-/
  (.region [
    ⟨(some 1), .rbox (.t 0), none⟩,
    ⟨(some 2), .mov (.c (.bool false)), none⟩] [0, 2])
  (.seq /-1-/
  (.seq /-2-/
  (.region [
    ⟨(some 3), .load true 2 (.t 1), none⟩,
    ⟨(some 4), .call f_L24_few [(.t 3)], none⟩,
    ⟨(some 5), .un .not (.t 4), none⟩] [3, 4])
  (.cond (.t 5)
    (.seq /-3-/
    (.region [
      ⟨(some 6), .call f_L24_exampleHolds [], none⟩,
      ⟨(some 2), .mov (.t 6), none⟩] [1, 5, 6])
    (.ret))
    (.skip)))
  (.seq /-4-/
  (.draw (
    .step ⟨(some 7), .load true 2 (.t 1), none⟩ (
    .step ⟨(some 8), .callq f_dominator_Tree [(.t 7)], none⟩ (
    .step ⟨(some 9), .load true 2 (.t 1), none⟩ (
    .step ⟨(some 10), .callq f_R24_Tree [(.t 9)], none⟩ (
    .step ⟨(some 11), .callq f_R24_Ints [(.t 8), (.t 10)], none⟩ (
    .step ⟨(some 12), .mov (.t 11), none⟩ (
    .step ⟨(some 13), .callq f_L24_exampleHolds [], (some (12, true))⟩ (
    .step ⟨(some 14), .pick (.t 12) (.t 13) (.c (.bool false)), none⟩ (
    .step ⟨(some 2), .mov (.t 14), none⟩ (
    .done)))))))))) [1, 5, 7, 8, 9, 10, 11, 12, 13, 14])
  (.ret)))

def rs_L24_DominatorTree : List ARet := [.tmp 2]

set_option maxRecDepth 100000 in
theorem cf_L24_DominatorTree : compF Try.prog f_L24_DominatorTree (qRo [1]) = some (ac_L24_DominatorTree.strip, rs_L24_DominatorTree, 15) := by kernel_rfl


/-- decompiler/decompilerlaw24.DominatorRemoval -/
def ac_L24_DominatorRemoval : ACode :=
  .seq /-0-/
  (.region [
    ⟨(some 3), .rbox (.t 0), none⟩,
    ⟨(some 6), .mov (.c (.bool false)), none⟩] [0, 6])
  (.seq /-1-/
  (.seq /-2-/
  (.region [
    ⟨(some 12), .load true 2 (.t 3), none⟩,
    ⟨(some 13), .call f_L24_few [(.t 12)], none⟩,
    ⟨(some 14), .un .not (.t 13), none⟩,
    ⟨(some 15), .mov (.t 14), none⟩,
    ⟨(some 16), .fldaddr 1 1 (.t 3), (some (15, false))⟩,
    ⟨(some 17), .load false 1 (.t 16), (some (15, false))⟩,
    ⟨(some 18), .len (.t 17), (some (15, false))⟩,
    ⟨(some 19), .bin .eql (.t 18) (.c (.int .i64 0)), (some (15, false))⟩,
    ⟨(some 20), .pick (.t 15) (.c (.bool true)) (.t 19), none⟩] [12, 13, 14, 15, 16, 17, 18, 19])
  (.cond (.t 20)
    (.seq /-3-/
    (.region [
      ⟨(some 21), .call f_L24_exampleHolds [], none⟩,
      ⟨(some 6), .mov (.t 21), none⟩] [1, 2, 3, 20, 21])
    (.ret))
    (.skip)))
  (.seq /-4-/
  (.draw (
    .step ⟨(some 22), .mov (.t 1), none⟩ (
    .step ⟨(some 23), .conv .i64 (.t 22), none⟩ (
    .step ⟨(some 24), .fldaddr 1 1 (.t 3), none⟩ (
    .step ⟨(some 25), .load false 1 (.t 24), none⟩ (
    .step ⟨(some 26), .len (.t 25), none⟩ (
    .step ⟨(some 27), .bin .rem (.t 23) (.t 26), none⟩ (
    .step ⟨(some 28), .mov (.t 2), none⟩ (
    .step ⟨(some 29), .conv .i64 (.t 28), none⟩ (
    .step ⟨(some 30), .fldaddr 1 1 (.t 3), none⟩ (
    .step ⟨(some 31), .load false 1 (.t 30), none⟩ (
    .step ⟨(some 32), .len (.t 31), none⟩ (
    .step ⟨(some 33), .bin .rem (.t 29) (.t 32), none⟩ (
    .step ⟨(some 7), .mov (.t 27), none⟩ (
    .step ⟨(some 8), .mov (.t 33), none⟩ (
    .done))))))))))))))) [1, 2, 6, 20, 22, 23, 24, 25, 26, 27, 28, 29, 30, 31, 32, 33])
  (.seq /-5-/
  (.draw (
    .step ⟨(some 34), .load true 2 (.t 3), none⟩ (
    .step ⟨(some 35), .callq f_dominator_Reachable [(.t 34)], none⟩ (
    .step ⟨(some 36), .load true 2 (.t 3), none⟩ (
    .step ⟨(some 37), .mov (.t 7), none⟩ (
    .step ⟨(some 38), .callq f_L24_without [(.t 36), (.t 37)], none⟩ (
    .step ⟨(some 39), .callq f_dominator_Reachable [(.t 38)], none⟩ (
    .step ⟨(some 40), .load true 2 (.t 3), none⟩ (
    .step ⟨(some 41), .callq f_dominator_Tree [(.t 40)], none⟩ (
    .step ⟨(some 9), .mov (.t 35), none⟩ (
    .step ⟨(some 10), .mov (.t 39), none⟩ (
    .step ⟨(some 11), .mov (.t 41), none⟩ (
    .done)))))))))))) [34, 35, 36, 37, 38, 39, 40, 41])
  (.seq /-6-/
  (.seq /-7-/
  (.region [
    ⟨(some 42), .mov (.t 9), none⟩,
    ⟨(some 43), .len (.t 42), none⟩,
    ⟨(some 44), .fldaddr 1 1 (.t 3), none⟩,
    ⟨(some 45), .load false 1 (.t 44), none⟩,
    ⟨(some 46), .len (.t 45), none⟩,
    ⟨(some 47), .bin .neq (.t 43) (.t 46), none⟩,
    ⟨(some 48), .mov (.t 47), none⟩,
    ⟨(some 49), .mov (.t 10), (some (48, false))⟩,
    ⟨(some 50), .len (.t 49), (some (48, false))⟩,
    ⟨(some 51), .fldaddr 1 1 (.t 3), (some (48, false))⟩,
    ⟨(some 52), .load false 1 (.t 51), (some (48, false))⟩,
    ⟨(some 53), .len (.t 52), (some (48, false))⟩,
    ⟨(some 54), .bin .neq (.t 50) (.t 53), (some (48, false))⟩,
    ⟨(some 55), .pick (.t 48) (.c (.bool true)) (.t 54), none⟩,
    ⟨(some 56), .mov (.t 55), none⟩,
    ⟨(some 57), .mov (.t 11), (some (56, false))⟩,
    ⟨(some 58), .len (.t 57), (some (56, false))⟩,
    ⟨(some 59), .fldaddr 1 1 (.t 3), (some (56, false))⟩,
    ⟨(some 60), .load false 1 (.t 59), (some (56, false))⟩,
    ⟨(some 61), .len (.t 60), (some (56, false))⟩,
    ⟨(some 62), .bin .neq (.t 58) (.t 61), (some (56, false))⟩,
    ⟨(some 63), .pick (.t 56) (.c (.bool true)) (.t 62), none⟩] [3, 42, 43, 44, 45, 46, 47, 48, 49, 50, 51, 52, 53, 54, 55, 56, 57, 58, 59, 60, 61, 62])
  (.cond (.t 63)
    (.seq /-8-/
    (.region [
      ⟨(some 6), .mov (.c (.bool false)), none⟩] [7, 8, 9, 10, 11, 63])
    (.ret))
    (.skip)))
  (.seq /-9-/
  (.seq /-10-/
  (.region [
    ⟨(some 64), .mov (.t 9), none⟩,
    ⟨(some 65), .mov (.t 7), none⟩,
    ⟨(some 66), .idx 1 (.t 64) (.t 65), none⟩,
    ⟨(some 67), .load false 1 (.t 66), none⟩,
    ⟨(some 68), .un .not (.t 67), none⟩,
    ⟨(some 69), .mov (.t 68), none⟩,
    ⟨(some 70), .mov (.t 9), (some (69, false))⟩,
    ⟨(some 71), .mov (.t 8), (some (69, false))⟩,
    ⟨(some 72), .idx 1 (.t 70) (.t 71), (some (69, false))⟩,
    ⟨(some 73), .load false 1 (.t 72), (some (69, false))⟩,
    ⟨(some 74), .un .not (.t 73), (some (69, false))⟩,
    ⟨(some 75), .pick (.t 69) (.c (.bool true)) (.t 74), none⟩,
    ⟨(some 76), .mov (.t 75), none⟩,
    ⟨(some 77), .mov (.t 7), (some (76, false))⟩,
    ⟨(some 78), .mov (.t 8), (some (76, false))⟩,
    ⟨(some 79), .bin .eql (.t 77) (.t 78), (some (76, false))⟩,
    ⟨(some 80), .pick (.t 76) (.c (.bool true)) (.t 79), none⟩] [6, 63, 64, 65, 66, 67, 68, 69, 70, 71, 72, 73, 74, 75, 76, 77, 78, 79])
  (.cond (.t 80)
    (.seq /-11-/
    (.region [
      ⟨(some 81), .mov (.t 11), none⟩,
      ⟨(some 82), .mov (.t 7), none⟩,
      ⟨(some 83), .mov (.t 7), none⟩,
      ⟨(some 84), .call f_dominator_Dominates [(.t 81), (.t 82), (.t 83)], none⟩,
      ⟨(some 85), .mov (.t 84), none⟩,
      ⟨(some 86), .mov (.t 9), (some (85, true))⟩,
      ⟨(some 87), .mov (.t 8), (some (85, true))⟩,
      ⟨(some 88), .idx 1 (.t 86) (.t 87), (some (85, true))⟩,
      ⟨(some 89), .load false 1 (.t 88), (some (85, true))⟩,
      ⟨(some 90), .mov (.t 89), (some (85, true))⟩,
      ⟨(some 91), .mov (.t 11), (some (90, false))⟩,
      ⟨(some 92), .mov (.t 8), (some (90, false))⟩,
      ⟨(some 93), .idx 1 (.t 91) (.t 92), (some (90, false))⟩,
      ⟨(some 94), .load false 1 (.t 93), (some (90, false))⟩,
      ⟨(some 95), .bin .eql (.t 94) (.c (.int .i64 (-1))), (some (90, false))⟩,
      ⟨(some 96), .pick (.t 90) (.c (.bool true)) (.t 95), (some (85, true))⟩,
      ⟨(some 97), .pick (.t 85) (.t 96) (.c (.bool false)), none⟩,
      ⟨(some 98), .mov (.t 97), none⟩,
      ⟨(some 99), .call f_L24_exampleHolds [], (some (98, true))⟩,
      ⟨(some 100), .pick (.t 98) (.t 99) (.c (.bool false)), none⟩,
      ⟨(some 6), .mov (.t 100), none⟩] [7, 8, 9, 10, 11, 80, 81, 82, 83, 84, 85, 86, 87, 88, 89, 90, 91, 92, 93, 94, 95, 96, 97, 98, 99, 100])
    (.ret))
    (.skip)))
  (.seq /-12-/
  (.draw (
    .step ⟨(some 101), .mov (.t 11), none⟩ (
    .step ⟨(some 102), .mov (.t 7), none⟩ (
    .step ⟨(some 103), .mov (.t 8), none⟩ (
    .step ⟨(some 104), .callq f_dominator_Dominates [(.t 101), (.t 102), (.t 103)], none⟩ (
    .step ⟨(some 105), .mov (.t 10), none⟩ (
    .step ⟨(some 106), .mov (.t 8), none⟩ (
    .step ⟨(some 107), .idx 1 (.t 105) (.t 106), none⟩ (
    .step ⟨(some 108), .load false 1 (.t 107), none⟩ (
    .step ⟨(some 109), .un .not (.t 108), none⟩ (
    .step ⟨(some 110), .eqb false (.t 104) (.t 109), none⟩ (
    .step ⟨(some 111), .mov (.t 110), none⟩ (
    .step ⟨(some 112), .callq f_L24_exampleHolds [], (some (111, true))⟩ (
    .step ⟨(some 113), .pick (.t 111) (.t 112) (.c (.bool false)), none⟩ (
    .step ⟨(some 6), .mov (.t 113), none⟩ (
    .done))))))))))))))) [7, 8, 9, 10, 11, 80, 101, 102, 103, 104, 105, 106, 107, 108, 109, 110, 111, 112, 113])
  (.ret)))))))

def rs_L24_DominatorRemoval : List ARet := [.tmp 6]

set_option maxRecDepth 100000 in
theorem cf_L24_DominatorRemoval : compF Try.prog f_L24_DominatorRemoval (qRo [3]) = some (ac_L24_DominatorRemoval.strip, rs_L24_DominatorRemoval, 114) := by kernel_rfl

def ac_L24_DominatorOrder_l0 : ACode :=
  /-live [3, 4, 5, 6, 7]-/ .seq /-11-/
  (.seq /-12-/
  (.region [
    ⟨(some 40), .mov (.t 7), none⟩,
    ⟨(some 41), .mov (.t 4), none⟩,
    ⟨(some 42), .len (.t 41), none⟩,
    ⟨(some 43), .bin .lss (.t 40) (.t 42), none⟩] [40, 41, 42])
  (.cond (.t 43)
    (.skip)
    (.exit 0)))
  (.seq /-13-/
  (.block 1
    (.seq /-14-/
    (.draw (
      .step ⟨(some 46), .mov (.t 4), none⟩ (
      .step ⟨(some 47), .mov (.t 7), none⟩ (
      .step ⟨(some 48), .idx 1 (.t 46) (.t 47), none⟩ (
      .step ⟨(some 49), .load false 1 (.t 48), none⟩ (
      .step ⟨(some 50), .mov (.t 6), none⟩ (
      .step ⟨(some 51), .mov (.t 7), none⟩ (
      .step ⟨(some 52), .idx 1 (.t 50) (.t 51), none⟩ (
      .step ⟨(some 53), .load false 1 (.t 52), none⟩ (
      .step ⟨(some 54), .eqb true (.t 49) (.t 53), none⟩ (
      .step ⟨(some 55), .mov (.t 54), none⟩ (
      .step ⟨(some 56), .mov (.t 4), (some (55, false))⟩ (
      .step ⟨(some 57), .mov (.t 7), (some (55, false))⟩ (
      .step ⟨(some 58), .idx 1 (.t 56) (.t 57), (some (55, false))⟩ (
      .step ⟨(some 59), .load false 1 (.t 58), (some (55, false))⟩ (
      .step ⟨(some 60), .mov (.t 3), (some (55, false))⟩ (
      .step ⟨(some 61), .mov (.t 7), (some (55, false))⟩ (
      .step ⟨(some 62), .callq f_R24_Has [(.t 60), (.t 61)], (some (55, false))⟩ (
      .step ⟨(some 63), .eqb true (.t 59) (.t 62), (some (55, false))⟩ (
      .step ⟨(some 64), .pick (.t 55) (.c (.bool true)) (.t 63), none⟩ (
      .done)))))))))))))))))))) [43, 46, 47, 48, 49, 50, 51, 52, 53, 54, 55, 56, 57, 58, 59, 60, 61, 62, 63])
    (.cond (.t 64)
      (.seq /-15-/
      (.region [
        ⟨(some 2), .mov (.c (.bool false)), none⟩] [3, 4, 5, 6, 7, 64])
      (.ret))
      (.skip))))
  (.region [
    ⟨(some 44), .mov (.t 7), none⟩,
    ⟨(some 45), .bin .add (.t 44) (.c (.int .i64 1)), none⟩,
    ⟨(some 7), .mov (.t 45), none⟩] [2, 44, 45, 64]))

def ac_L24_DominatorOrder_l1 : ACode :=
  /-live [3, 5, 8]-/ .seq /-18-/
  (.seq /-19-/
  (.region [
    ⟨(some 65), .mov (.t 8), none⟩,
    ⟨(some 66), .mov (.t 3), none⟩,
    ⟨(some 67), .len (.t 66), none⟩,
    ⟨(some 68), .bin .lss (.t 65) (.t 67), none⟩] [65, 66, 67])
  (.cond (.t 68)
    (.skip)
    (.exit 2)))
  (.seq /-20-/
  (.block 3
    (.seq /-21-/
    (.draw (
      .step ⟨(some 71), .mov (.t 3), none⟩ (
      .step ⟨(some 72), .mov (.t 8), none⟩ (
      .step ⟨(some 73), .slice 1 (.t 71) none (some (.t 72)), none⟩ (
      .step ⟨(some 74), .mov (.t 5), none⟩ (
      .step ⟨(some 75), .mov (.t 3), none⟩ (
      .step ⟨(some 76), .mov (.t 8), none⟩ (
      .step ⟨(some 77), .idx 1 (.t 75) (.t 76), none⟩ (
      .step ⟨(some 78), .load false 1 (.t 77), none⟩ (
      .step ⟨(some 79), .idx 1 (.t 74) (.t 78), none⟩ (
      .step ⟨(some 80), .load false 1 (.t 79), none⟩ (
      .step ⟨(some 81), .callq f_R24_Has [(.t 73), (.t 80)], none⟩ (
      .step ⟨(some 82), .un .not (.t 81), none⟩ (
      .done))))))))))))) [68, 71, 72, 73, 74, 75, 76, 77, 78, 79, 80, 81])
    (.cond (.t 82)
      (.seq /-22-/
      (.region [
        ⟨(some 2), .mov (.c (.bool false)), none⟩] [3, 5, 8, 82])
      (.ret))
      (.skip))))
  (.region [
    ⟨(some 69), .mov (.t 8), none⟩,
    ⟨(some 70), .bin .add (.t 69) (.c (.int .i64 1)), none⟩,
    ⟨(some 8), .mov (.t 70), none⟩] [2, 69, 70, 82]))

def ac_L24_DominatorOrder_k2 : ACode :=
  /-live []-/ .seq /-23-/
  (.region [
    ⟨(some 83), .call f_L24_exampleHolds [], none⟩,
    ⟨(some 2), .mov (.t 83), none⟩] [3, 5, 8, 83])
  (.ret)

def ac_L24_DominatorOrder_k3 : ACode :=
  /-live [3, 5]-/ .seq /-16-/
  (.seq /-17-/
  (.region [
    ⟨(some 8), .mov (.c (.int .i64 1)), none⟩] [4, 6, 7])
  (.block 2
    (.loop ac_L24_DominatorOrder_l1)))
  (ac_L24_DominatorOrder_k2)

/-- decompiler/decompilerlaw24.DominatorOrder -/
def ac_L24_DominatorOrder : ACode :=
  .seq /-0-/
  (.region [
    ⟨(some 1), .rbox (.t 0), none⟩,
    ⟨(some 2), .mov (.c (.bool false)), none⟩] [0, 2])
  (.seq /-1-/
  (.seq /-2-/
  (.region [
    ⟨(some 9), .load true 2 (.t 1), none⟩,
    ⟨(some 10), .call f_L24_few [(.t 9)], none⟩,
    ⟨(some 11), .un .not (.t 10), none⟩] [9, 10])
  (.cond (.t 11)
    (.seq /-3-/
    (.region [
      ⟨(some 12), .call f_L24_exampleHolds [], none⟩,
      ⟨(some 2), .mov (.t 12), none⟩] [1, 11, 12])
    (.ret))
    (.skip)))
  (.seq /-4-/
  (.draw (
    .step ⟨(some 13), .load true 2 (.t 1), none⟩ (
    .step ⟨(some 14), .callq f_dominator_Order [(.t 13)], none⟩ (
    .step ⟨(some 15), .load true 2 (.t 1), none⟩ (
    .step ⟨(some 16), .callq f_dominator_Reachable [(.t 15)], none⟩ (
    .step ⟨(some 17), .load true 2 (.t 1), none⟩ (
    .step ⟨(some 18), .callq f_dominator_Tree [(.t 17)], none⟩ (
    .step ⟨(some 3), .mov (.t 14), none⟩ (
    .step ⟨(some 4), .mov (.t 16), none⟩ (
    .step ⟨(some 5), .mov (.t 18), none⟩ (
    .done)))))))))) [2, 11, 13, 14, 15, 16, 17, 18])
  (.seq /-5-/
  (.region [
    ⟨(some 19), .load true 2 (.t 1), none⟩,
    ⟨(some 20), .call f_R24_Reachable [(.t 19)], none⟩,
    ⟨(some 6), .mov (.t 20), none⟩] [19, 20])
  (.seq /-6-/
  (.seq /-7-/
  (.region [
    ⟨(some 21), .mov (.t 3), none⟩,
    ⟨(some 22), .load true 2 (.t 1), none⟩,
    ⟨(some 23), .call f_R24_Order [(.t 22)], none⟩,
    ⟨(some 24), .call f_R24_Ints [(.t 21), (.t 23)], none⟩,
    ⟨(some 25), .un .not (.t 24), none⟩,
    ⟨(some 26), .mov (.t 25), none⟩,
    ⟨(some 27), .mov (.t 4), (some (26, false))⟩,
    ⟨(some 28), .len (.t 27), (some (26, false))⟩,
    ⟨(some 29), .mov (.t 6), (some (26, false))⟩,
    ⟨(some 30), .len (.t 29), (some (26, false))⟩,
    ⟨(some 31), .bin .neq (.t 28) (.t 30), (some (26, false))⟩,
    ⟨(some 32), .pick (.t 26) (.c (.bool true)) (.t 31), none⟩,
    ⟨(some 33), .mov (.t 32), none⟩,
    ⟨(some 34), .mov (.t 5), (some (33, false))⟩,
    ⟨(some 35), .len (.t 34), (some (33, false))⟩,
    ⟨(some 36), .mov (.t 6), (some (33, false))⟩,
    ⟨(some 37), .len (.t 36), (some (33, false))⟩,
    ⟨(some 38), .bin .neq (.t 35) (.t 37), (some (33, false))⟩,
    ⟨(some 39), .pick (.t 33) (.c (.bool true)) (.t 38), none⟩] [1, 21, 22, 23, 24, 25, 26, 27, 28, 29, 30, 31, 32, 33, 34, 35, 36, 37, 38])
  (.cond (.t 39)
    (.seq /-8-/
    (.region [
      ⟨(some 2), .mov (.c (.bool false)), none⟩] [3, 4, 5, 6, 39])
    (.ret))
    (.skip)))
  (.seq /-9-/
  (.seq /-10-/
  (.region [
    ⟨(some 7), .mov (.c (.int .i64 0)), none⟩] [2, 39])
  (.block 0
    (.loop ac_L24_DominatorOrder_l0)))
  (ac_L24_DominatorOrder_k3))))))

def rs_L24_DominatorOrder : List ARet := [.tmp 2]

set_option maxRecDepth 100000 in
theorem cf_L24_DominatorOrder : compF Try.prog f_L24_DominatorOrder (qRo [1]) = some (ac_L24_DominatorOrder.strip, rs_L24_DominatorOrder, 84) := by kernel_rfl


/-- decompiler/decompilerlaw24.DominatorFrontiers -/
def ac_L24_DominatorFrontiers : ACode :=
  .seq /-0-/
  (.region [
    ⟨(some 1), .rbox (.t 0), none⟩,
    ⟨(some 2), .mov (.c (.bool false)), none⟩] [0, 2])
  (.seq /-1-/
  (.seq /-2-/
  (.region [
    ⟨(some 3), .load true 2 (.t 1), none⟩,
    ⟨(some 4), .call f_L24_few [(.t 3)], none⟩,
    ⟨(some 5), .un .not (.t 4), none⟩] [3, 4])
  (.cond (.t 5)
    (.seq /-3-/
    (.region [
      ⟨(some 6), .call f_L24_exampleHolds [], none⟩,
      ⟨(some 2), .mov (.t 6), none⟩] [1, 5, 6])
    (.ret))
    (.skip)))
  (.seq /-4-/
  (.draw (
    .step ⟨(some 7), .load true 2 (.t 1), none⟩ (
    .step ⟨(some 8), .callq f_dominator_Frontier [(.t 7)], none⟩ (
    .step ⟨(some 9), .load true 2 (.t 1), none⟩ (
    .step ⟨(some 10), .callq f_R24_Frontier [(.t 9)], none⟩ (
    .step ⟨(some 11), .callq f_R24_Lists [(.t 8), (.t 10)], none⟩ (
    .step ⟨(some 12), .mov (.t 11), none⟩ (
    .step ⟨(some 13), .callq f_L24_exampleHolds [], (some (12, true))⟩ (
    .step ⟨(some 14), .pick (.t 12) (.t 13) (.c (.bool false)), none⟩ (
    .step ⟨(some 2), .mov (.t 14), none⟩ (
    .done)))))))))) [1, 5, 7, 8, 9, 10, 11, 12, 13, 14])
  (.ret)))

def rs_L24_DominatorFrontiers : List ARet := [.tmp 2]

set_option maxRecDepth 100000 in
theorem cf_L24_DominatorFrontiers : compF Try.prog f_L24_DominatorFrontiers (qRo [1]) = some (ac_L24_DominatorFrontiers.strip, rs_L24_DominatorFrontiers, 15) := by kernel_rfl

def ac_L24_DominatorPredecessors_l0 : ACode :=
  /-live [1, 3, 4, 5]-/ .seq /-14-/
  (.seq /-15-/
  (.region [
    ⟨(some 24), .mov (.t 5), none⟩,
    ⟨(some 25), .mov (.t 3), none⟩,
    ⟨(some 26), .len (.t 25), none⟩,
    ⟨(some 27), .bin .lss (.t 24) (.t 26), none⟩] [24, 25, 26])
  (.cond (.t 27)
    (.skip)
    (.exit 2)))
  (.seq /-16-/
  (.block 3
    (.seq /-17-/
    (.draw (
      .step ⟨(some 30), .mov (.t 3), none⟩ (
      .step ⟨(some 31), .mov (.t 5), none⟩ (
      .step ⟨(some 32), .idx 1 (.t 30) (.t 31), none⟩ (
      .step ⟨(some 33), .load false 1 (.t 32), none⟩ (
      .step ⟨(some 34), .mov (.t 4), none⟩ (
      .step ⟨(some 35), .callq f_R24_Has [(.t 33), (.t 34)], none⟩ (
      .step ⟨(some 36), .load true 2 (.t 1), none⟩ (
      .step ⟨(some 37), .mov (.t 4), none⟩ (
      .step ⟨(some 38), .callq f_R24_Edges [(.t 36), (.t 37)], none⟩ (
      .step ⟨(some 39), .mov (.t 5), none⟩ (
      .step ⟨(some 40), .callq f_R24_Has [(.t 38), (.t 39)], none⟩ (
      .step ⟨(some 41), .eqb true (.t 35) (.t 40), none⟩ (
      .done))))))))))))) [27, 30, 31, 32, 33, 34, 35, 36, 37, 38, 39, 40])
    (.cond (.t 41)
      (.seq /-18-/
      (.region [
        ⟨(some 2), .mov (.c (.bool false)), none⟩] [1, 3, 4, 5, 41])
      (.ret))
      (.skip))))
  (.region [
    ⟨(some 28), .mov (.t 5), none⟩,
    ⟨(some 29), .bin .add (.t 28) (.c (.int .i64 1)), none⟩,
    ⟨(some 5), .mov (.t 29), none⟩] [2, 28, 29, 41]))

def ac_L24_DominatorPredecessors_k1 : ACode :=
  /-live [1, 3, 4]-/ .region [
    ⟨(some 22), .mov (.t 4), none⟩,
    ⟨(some 23), .bin .add (.t 22) (.c (.int .i64 1)), none⟩,
    ⟨(some 4), .mov (.t 23), none⟩] [5, 22, 23]

def ac_L24_DominatorPredecessors_l2 : ACode :=
  /-live [1, 3, 4]-/ .seq /-10-/
  (.seq /-11-/
  (.region [
    ⟨(some 18), .mov (.t 4), none⟩,
    ⟨(some 19), .mov (.t 3), none⟩,
    ⟨(some 20), .len (.t 19), none⟩,
    ⟨(some 21), .bin .lss (.t 18) (.t 20), none⟩] [18, 19, 20])
  (.cond (.t 21)
    (.skip)
    (.exit 0)))
  (.seq /-12-/
  (.block 1
    (.seq /-13-/
    (.region [
      ⟨(some 5), .mov (.c (.int .i64 0)), none⟩] [21])
    (.block 2
      (.loop ac_L24_DominatorPredecessors_l0))))
  (ac_L24_DominatorPredecessors_k1))

def ac_L24_DominatorPredecessors_k3 : ACode :=
  /-live [1, 3]-/ .seq /-19-/
  (.region [
    ⟨(some 42), .mov (.t 3), none⟩,
    ⟨(some 43), .load true 2 (.t 1), none⟩,
    ⟨(some 44), .call f_R24_Predecessors [(.t 43)], none⟩,
    ⟨(some 45), .call f_R24_Lists [(.t 42), (.t 44)], none⟩,
    ⟨(some 46), .mov (.t 45), none⟩,
    ⟨(some 47), .call f_L24_exampleHolds [], (some (46, true))⟩,
    ⟨(some 48), .pick (.t 46) (.t 47) (.c (.bool false)), none⟩,
    ⟨(some 2), .mov (.t 48), none⟩] [1, 3, 4, 42, 43, 44, 45, 46, 47, 48])
  (.ret)

/-- decompiler/decompilerlaw24.DominatorPredecessors -/
def ac_L24_DominatorPredecessors : ACode :=
  .seq /-0-/
  (.region [
    ⟨(some 1), .rbox (.t 0), none⟩,
    ⟨(some 2), .mov (.c (.bool false)), none⟩] [0, 2])
  (.seq /-1-/
  (.seq /-2-/
  (.region [
    ⟨(some 6), .load true 2 (.t 1), none⟩,
    ⟨(some 7), .call f_L24_few [(.t 6)], none⟩,
    ⟨(some 8), .un .not (.t 7), none⟩] [6, 7])
  (.cond (.t 8)
    (.seq /-3-/
    (.region [
      ⟨(some 9), .call f_L24_exampleHolds [], none⟩,
      ⟨(some 2), .mov (.t 9), none⟩] [1, 8, 9])
    (.ret))
    (.skip)))
  (.seq /-4-/
  (.region [
    ⟨(some 10), .load true 2 (.t 1), none⟩,
    ⟨(some 11), .call f_dominator_Predecessors [(.t 10)], none⟩,
    ⟨(some 3), .mov (.t 11), none⟩] [2, 8, 10, 11])
  (.seq /-5-/
  (.seq /-6-/
  (.region [
    ⟨(some 12), .mov (.t 3), none⟩,
    ⟨(some 13), .len (.t 12), none⟩,
    ⟨(some 14), .fldaddr 1 1 (.t 1), none⟩,
    ⟨(some 15), .load false 1 (.t 14), none⟩,
    ⟨(some 16), .len (.t 15), none⟩,
    ⟨(some 17), .bin .neq (.t 13) (.t 16), none⟩] [12, 13, 14, 15, 16])
  (.cond (.t 17)
    (.seq /-7-/
    (.region [
      ⟨(some 2), .mov (.c (.bool false)), none⟩] [1, 3, 17])
    (.ret))
    (.skip)))
  (.seq /-8-/
  (.seq /-9-/
  (.region [
    ⟨(some 4), .mov (.c (.int .i64 0)), none⟩] [2, 17])
  (.block 0
    (.loop ac_L24_DominatorPredecessors_l2)))
  (ac_L24_DominatorPredecessors_k3)))))

def rs_L24_DominatorPredecessors : List ARet := [.tmp 2]

set_option maxRecDepth 100000 in
theorem cf_L24_DominatorPredecessors : compF Try.prog f_L24_DominatorPredecessors (qRo [1]) = some (ac_L24_DominatorPredecessors.strip, rs_L24_DominatorPredecessors, 49) := by kernel_rfl

def ac_L24_DominatorPost_l0 : ACode :=
  /-live [2, 3, 7, 8, 9, 10, 11]-/ .seq /-15-/
  (.seq /-16-/
  (.region [
    ⟨(some 39), .mov (.t 11), none⟩,
    ⟨(some 40), .mov (.t 2), none⟩,
    ⟨(some 41), .len (.t 40), none⟩,
    ⟨(some 42), .bin .lss (.t 39) (.t 41), none⟩] [39, 40, 41])
  (.cond (.t 42)
    (.skip)
    (.exit 0)))
  (.seq /-17-/
  (.block 1
    (.seq /-18-/
    (.region [
      ⟨(some 45), .load true 2 (.t 3), none⟩,
      ⟨(some 46), .mov (.t 9), none⟩,
      ⟨(some 47), .call f_R24_Edges [(.t 45), (.t 46)], none⟩,
      ⟨(some 12), .mov (.t 47), none⟩] [42, 45, 46, 47])
    (.seq /-19-/
    (.seq /-20-/
    (.region [
      ⟨(some 48), .mov (.t 12), none⟩,
      ⟨(some 49), .len (.t 48), none⟩,
      ⟨(some 50), .bin .eql (.t 49) (.c (.int .i64 0)), none⟩] [48, 49])
    (.cond (.t 50)
      (.exit 0)
      (.skip)))
    (.seq /-21-/
    (.region [
      ⟨(some 51), .mov (.t 12), none⟩,
      ⟨(some 52), .mov (.t 2), none⟩,
      ⟨(some 53), .mov (.t 11), none⟩,
      ⟨(some 54), .idx 1 (.t 52) (.t 53), none⟩,
      ⟨(some 55), .load false 1 (.t 54), none⟩,
      ⟨(some 56), .conv .i64 (.t 55), none⟩,
      ⟨(some 57), .mov (.t 12), none⟩,
      ⟨(some 58), .len (.t 57), none⟩,
      ⟨(some 59), .bin .rem (.t 56) (.t 58), none⟩,
      ⟨(some 60), .idx 1 (.t 51) (.t 59), none⟩,
      ⟨(some 61), .load false 1 (.t 60), none⟩,
      ⟨(some 9), .mov (.t 61), none⟩] [12, 50, 51, 52, 53, 54, 55, 56, 57, 58, 59, 60, 61])
    (.region [
      ⟨(some 62), .mov (.t 10), none⟩,
      ⟨(some 63), .mov (.t 62), none⟩,
      ⟨(some 64), .mov (.t 9), (some (63, false))⟩,
      ⟨(some 65), .mov (.t 7), (some (63, false))⟩,
      ⟨(some 66), .mov (.t 8), (some (63, false))⟩,
      ⟨(some 67), .idx 1 (.t 65) (.t 66), (some (63, false))⟩,
      ⟨(some 68), .load false 1 (.t 67), (some (63, false))⟩,
      ⟨(some 69), .bin .eql (.t 64) (.t 68), (some (63, false))⟩,
      ⟨(some 70), .pick (.t 63) (.c (.bool true)) (.t 69), none⟩,
      ⟨(some 10), .mov (.t 70), none⟩] [62, 63, 64, 65, 66, 67, 68, 69, 70])))))
  (.region [
    ⟨(some 43), .mov (.t 11), none⟩,
    ⟨(some 44), .bin .add (.t 43) (.c (.int .i64 1)), none⟩,
    ⟨(some 11), .mov (.t 44), none⟩] [43, 44]))

def ac_L24_DominatorPost_k1 : ACode :=
  /-live [3, 7, 8, 9, 10]-/ .seq /-22-/
  (.region [
    ⟨(some 71), .load true 2 (.t 3), none⟩,
    ⟨(some 72), .mov (.t 9), none⟩,
    ⟨(some 73), .call f_R24_Edges [(.t 71), (.t 72)], none⟩,
    ⟨(some 74), .len (.t 73), none⟩,
    ⟨(some 75), .bin .neq (.t 74) (.c (.int .i64 0)), none⟩,
    ⟨(some 76), .mov (.t 75), none⟩,
    ⟨(some 77), .mov (.t 7), (some (76, false))⟩,
    ⟨(some 78), .mov (.t 8), (some (76, false))⟩,
    ⟨(some 79), .idx 1 (.t 77) (.t 78), (some (76, false))⟩,
    ⟨(some 80), .load false 1 (.t 79), (some (76, false))⟩,
    ⟨(some 81), .bin .lss (.t 80) (.c (.int .i64 0)), (some (76, false))⟩,
    ⟨(some 82), .pick (.t 76) (.c (.bool true)) (.t 81), none⟩,
    ⟨(some 83), .mov (.t 82), none⟩,
    ⟨(some 84), .mov (.t 10), (some (83, false))⟩,
    ⟨(some 85), .pick (.t 83) (.c (.bool true)) (.t 84), none⟩,
    ⟨(some 86), .mov (.t 85), none⟩,
    ⟨(some 87), .call f_L24_exampleHolds [], (some (86, true))⟩,
    ⟨(some 88), .pick (.t 86) (.t 87) (.c (.bool false)), none⟩,
    ⟨(some 6), .mov (.t 88), none⟩] [2, 3, 7, 8, 9, 10, 11, 71, 72, 73, 74, 75, 76, 77, 78, 79, 80, 81, 82, 83, 84, 85, 86, 87, 88])
  (.ret)

/-- decompiler/decompilerlaw24.DominatorPost -/
def ac_L24_DominatorPost : ACode :=
  .seq /-0-/
  (.region [
    ⟨(some 3), .rbox (.t 0), none⟩,
    ⟨(some 6), .mov (.c (.bool false)), none⟩] [0, 6])
  (.seq /-1-/
  (.seq /-2-/
  (.region [
    ⟨(some 13), .load true 2 (.t 3), none⟩,
    ⟨(some 14), .call f_L24_few [(.t 13)], none⟩,
    ⟨(some 15), .un .not (.t 14), none⟩,
    ⟨(some 16), .mov (.t 15), none⟩,
    ⟨(some 17), .mov (.t 2), (some (16, false))⟩,
    ⟨(some 18), .len (.t 17), (some (16, false))⟩,
    ⟨(some 19), .bin .gtr (.t 18) (.c (.int .i64 60)), (some (16, false))⟩,
    ⟨(some 20), .pick (.t 16) (.c (.bool true)) (.t 19), none⟩] [13, 14, 15, 16, 17, 18, 19])
  (.cond (.t 20)
    (.seq /-3-/
    (.region [
      ⟨(some 21), .call f_L24_exampleHolds [], none⟩,
      ⟨(some 6), .mov (.t 21), none⟩] [1, 2, 3, 20, 21])
    (.ret))
    (.skip)))
  (.seq /-4-/
  (.region [
    ⟨(some 22), .load true 2 (.t 3), none⟩,
    ⟨(some 23), .call f_dominator_PostTree [(.t 22)], none⟩,
    ⟨(some 7), .mov (.t 23), none⟩] [6, 20, 22, 23])
  (.seq /-5-/
  (.seq /-6-/
  (.region [
    ⟨(some 24), .mov (.t 7), none⟩,
    ⟨(some 25), .load true 2 (.t 3), none⟩,
    ⟨(some 26), .call f_R24_PostTree [(.t 25)], none⟩,
    ⟨(some 27), .call f_R24_Ints [(.t 24), (.t 26)], none⟩,
    ⟨(some 28), .un .not (.t 27), none⟩] [24, 25, 26, 27])
  (.cond (.t 28)
    (.seq /-7-/
    (.region [
      ⟨(some 6), .mov (.c (.bool false)), none⟩] [1, 2, 3, 7, 28])
    (.ret))
    (.skip)))
  (.seq /-8-/
  (.seq /-9-/
  (.region [
    ⟨(some 29), .mov (.t 7), none⟩,
    ⟨(some 30), .len (.t 29), none⟩,
    ⟨(some 31), .bin .eql (.t 30) (.c (.int .i64 0)), none⟩] [6, 28, 29, 30])
  (.cond (.t 31)
    (.seq /-10-/
    (.region [
      ⟨(some 32), .call f_L24_exampleHolds [], none⟩,
      ⟨(some 6), .mov (.t 32), none⟩] [1, 2, 3, 7, 31, 32])
    (.ret))
    (.skip)))
  (.seq /-11-/
  (.region [
    ⟨(some 33), .mov (.t 1), none⟩,
    ⟨(some 34), .conv .i64 (.t 33), none⟩,
    ⟨(some 35), .mov (.t 7), none⟩,
    ⟨(some 36), .len (.t 35), none⟩,
    ⟨(some 37), .bin .rem (.t 34) (.t 36), none⟩,
    ⟨(some 8), .mov (.t 37), none⟩] [1, 6, 31, 33, 34, 35, 36, 37])
  (.seq /-12-/
  (.region [
    ⟨(some 38), .mov (.t 8), none⟩,
    ⟨(some 9), .mov (.t 38), none⟩,
    ⟨(some 10), .mov (.c (.bool false)), none⟩] [38])
  (.seq /-13-/
  (.seq /-14-/
  (.region [
    ⟨(some 11), .mov (.c (.int .i64 0)), none⟩] [])
  (.block 0
    (.loop ac_L24_DominatorPost_l0)))
  (ac_L24_DominatorPost_k1))))))))

def rs_L24_DominatorPost : List ARet := [.tmp 6]

set_option maxRecDepth 100000 in
theorem cf_L24_DominatorPost : compF Try.prog f_L24_DominatorPost (qRo [3]) = some (ac_L24_DominatorPost.strip, rs_L24_DominatorPost, 89) := by kernel_rfl

def ac_L24_DominatorLists_l0 : ACode :=
  /-live [0, 1, 2, 7, 8]-/ .seq /-10-/
  (.seq /-11-/
  (.region [
    ⟨(some 38), .mov (.t 8), none⟩,
    ⟨(some 39), .mov (.t 0), none⟩,
    ⟨(some 40), .len (.t 39), none⟩,
    ⟨(some 41), .bin .lss (.t 38) (.t 40), none⟩] [38, 39, 40])
  (.cond (.t 41)
    (.skip)
    (.exit 0)))
  (.seq /-12-/
  (.block 1
    (.seq /-13-/
    (.region [
      ⟨(some 44), .mov (.t 7), none⟩,
      ⟨(some 45), .mov (.t 44), none⟩,
      ⟨(some 46), .mov (.t 0), (some (45, true))⟩,
      ⟨(some 47), .mov (.t 2), (some (45, true))⟩,
      ⟨(some 48), .mov (.t 8), (some (45, true))⟩,
      ⟨(some 49), .call f_dominator_Dominates [(.t 46), (.t 47), (.t 48)], (some (45, true))⟩,
      ⟨(some 50), .pick (.t 45) (.t 49) (.c (.bool false)), none⟩,
      ⟨(some 51), .mov (.t 50), none⟩,
      ⟨(some 52), .mov (.t 0), (some (51, true))⟩,
      ⟨(some 53), .mov (.t 1), (some (51, true))⟩,
      ⟨(some 54), .mov (.t 8), (some (51, true))⟩,
      ⟨(some 55), .call f_dominator_Dominates [(.t 52), (.t 53), (.t 54)], (some (51, true))⟩,
      ⟨(some 56), .un .not (.t 55), (some (51, true))⟩,
      ⟨(some 57), .pick (.t 51) (.t 56) (.c (.bool false)), none⟩] [41, 44, 45, 46, 47, 48, 49, 50, 51, 52, 53, 54, 55, 56])
    (.cond (.t 57)
      (.seq /-14-/
      (.region [
        ⟨(some 6), .mov (.c (.bool false)), none⟩] [0, 1, 2, 7, 8, 57])
      (.ret))
      (.skip))))
  (.region [
    ⟨(some 42), .mov (.t 8), none⟩,
    ⟨(some 43), .bin .add (.t 42) (.c (.int .i64 1)), none⟩,
    ⟨(some 8), .mov (.t 43), none⟩] [6, 42, 43, 57]))

def ac_L24_DominatorLists_k1 : ACode :=
  /-live []-/ .seq /-15-/
  (.region [
    ⟨(some 58), .call f_L24_exampleHolds [], none⟩,
    ⟨(some 6), .mov (.t 58), none⟩] [0, 1, 2, 7, 8, 58])
  (.ret)

/-- decompiler/decompilerlaw24.DominatorLists -/
def ac_L24_DominatorLists : ACode :=
  .seq /-0-/
  (.region [
    ⟨(some 6), .mov (.c (.bool false)), none⟩] [6])
  (.seq /-1-/
  (.seq /-2-/
  (.region [
    ⟨(some 9), .mov (.t 0), none⟩,
    ⟨(some 10), .len (.t 9), none⟩,
    ⟨(some 11), .bin .gtr (.t 10) (.c (.int .i64 40)), none⟩] [9, 10])
  (.cond (.t 11)
    (.seq /-3-/
    (.region [
      ⟨(some 12), .call f_L24_exampleHolds [], none⟩,
      ⟨(some 6), .mov (.t 12), none⟩] [0, 1, 2, 11, 12])
    (.ret))
    (.skip)))
  (.seq /-4-/
  (.region [
    ⟨(some 13), .mov (.t 0), none⟩,
    ⟨(some 14), .mov (.t 1), none⟩,
    ⟨(some 15), .mov (.t 2), none⟩,
    ⟨(some 16), .call f_dominator_Dominates [(.t 13), (.t 14), (.t 15)], none⟩,
    ⟨(some 7), .mov (.t 16), none⟩] [6, 11, 13, 14, 15, 16])
  (.seq /-5-/
  (.seq /-6-/
  (.region [
    ⟨(some 17), .mov (.t 7), none⟩,
    ⟨(some 18), .mov (.t 0), none⟩,
    ⟨(some 19), .mov (.t 1), none⟩,
    ⟨(some 20), .mov (.t 2), none⟩,
    ⟨(some 21), .call f_R24_Dominates [(.t 18), (.t 19), (.t 20)], none⟩,
    ⟨(some 22), .eqb true (.t 17) (.t 21), none⟩,
    ⟨(some 23), .mov (.t 22), none⟩,
    ⟨(some 24), .mov (.t 0), (some (23, false))⟩,
    ⟨(some 25), .mov (.t 1), (some (23, false))⟩,
    ⟨(some 26), .mov (.t 1), (some (23, false))⟩,
    ⟨(some 27), .call f_dominator_Dominates [(.t 24), (.t 25), (.t 26)], (some (23, false))⟩,
    ⟨(some 28), .mov (.t 1), (some (23, false))⟩,
    ⟨(some 29), .bin .geq (.t 28) (.c (.int .i64 0)), (some (23, false))⟩,
    ⟨(some 30), .mov (.t 29), (some (23, false))⟩,
    ⟨(some 31), .mov (.t 1), (some (30, true))⟩,
    ⟨(some 32), .mov (.t 0), (some (30, true))⟩,
    ⟨(some 33), .len (.t 32), (some (30, true))⟩,
    ⟨(some 34), .bin .lss (.t 31) (.t 33), (some (30, true))⟩,
    ⟨(some 35), .pick (.t 30) (.t 34) (.c (.bool false)), (some (23, false))⟩,
    ⟨(some 36), .eqb true (.t 27) (.t 35), (some (23, false))⟩,
    ⟨(some 37), .pick (.t 23) (.c (.bool true)) (.t 36), none⟩] [17, 18, 19, 20, 21, 22, 23, 24, 25, 26, 27, 28, 29, 30, 31, 32, 33, 34, 35, 36])
  (.cond (.t 37)
    (.seq /-7-/
    (.region [
      ⟨(some 6), .mov (.c (.bool false)), none⟩] [0, 1, 2, 7, 37])
    (.ret))
    (.skip)))
  (.seq /-8-/
  (.seq /-9-/
  (.region [
    ⟨(some 8), .mov (.c (.int .i64 0)), none⟩] [6, 37])
  (.block 0
    (.loop ac_L24_DominatorLists_l0)))
  (ac_L24_DominatorLists_k1)))))

def rs_L24_DominatorLists : List ARet := [.tmp 6]

set_option maxRecDepth 100000 in
theorem cf_L24_DominatorLists : compF Try.prog f_L24_DominatorLists (qRo []) = some (ac_L24_DominatorLists.strip, rs_L24_DominatorLists, 59) := by kernel_rfl

def ac_L24_few_l0 : ACode :=
  /-live [1, 3]-/ .seq /-3-/
  (.seq /-4-/
  (.region [
    ⟨(some 5), .mov (.t 3), none⟩,
    ⟨(some 6), .fldaddr 1 1 (.t 1), none⟩,
    ⟨(some 7), .load false 1 (.t 6), none⟩,
    ⟨(some 8), .len (.t 7), none⟩,
    ⟨(some 9), .bin .lss (.t 5) (.t 8), none⟩,
    ⟨(some 10), .mov (.t 9), none⟩,
    ⟨(some 11), .mov (.t 3), (some (10, true))⟩,
    ⟨(some 12), .bin .lss (.t 11) (.c (.int .i64 20)), (some (10, true))⟩,
    ⟨(some 13), .pick (.t 10) (.t 12) (.c (.bool false)), none⟩] [5, 6, 7, 8, 9, 10, 11, 12])
  (.cond (.t 13)
    (.skip)
    (.exit 0)))
  (.seq /-5-/
  (.block 1
    (.seq /-6-/
    (.region [
      ⟨(some 16), .fldaddr 1 1 (.t 1), none⟩,
      ⟨(some 17), .load false 1 (.t 16), none⟩,
      ⟨(some 18), .mov (.t 3), none⟩,
      ⟨(some 19), .idx 2 (.t 17) (.t 18), none⟩,
      ⟨(some 20), .fldaddr 1 1 (.t 19), none⟩,
      ⟨(some 21), .load false 1 (.t 20), none⟩,
      ⟨(some 22), .len (.t 21), none⟩,
      ⟨(some 4), .mov (.t 22), none⟩] [13, 16, 17, 18, 19, 20, 21, 22])
    (.seq /-7-/
    (.region [
      ⟨(some 23), .mov (.t 4), none⟩,
      ⟨(some 24), .bin .gtr (.t 23) (.c (.int .i64 0)), none⟩,
      ⟨(some 25), .mov (.t 24), none⟩,
      ⟨(some 26), .fldaddr 1 1 (.t 1), (some (25, true))⟩,
      ⟨(some 27), .load false 1 (.t 26), (some (25, true))⟩,
      ⟨(some 28), .mov (.t 3), (some (25, true))⟩,
      ⟨(some 29), .idx 2 (.t 27) (.t 28), (some (25, true))⟩,
      ⟨(some 30), .fldaddr 1 1 (.t 29), (some (25, true))⟩,
      ⟨(some 31), .load false 1 (.t 30), (some (25, true))⟩,
      ⟨(some 32), .mov (.t 4), (some (25, true))⟩,
      ⟨(some 33), .bin .sub (.t 32) (.c (.int .i64 1)), (some (25, true))⟩,
      ⟨(some 34), .idx 8 (.t 31) (.t 33), (some (25, true))⟩,
      ⟨(some 35), .fldaddr 7 1 (.t 34), (some (25, true))⟩,
      ⟨(some 36), .load false 1 (.t 35), (some (25, true))⟩,
      ⟨(some 37), .len (.t 36), (some (25, true))⟩,
      ⟨(some 38), .bin .gtr (.t 37) (.c (.int .i64 12)), (some (25, true))⟩,
      ⟨(some 39), .pick (.t 25) (.t 38) (.c (.bool false)), none⟩] [4, 23, 24, 25, 26, 27, 28, 29, 30, 31, 32, 33, 34, 35, 36, 37, 38])
    (.cond (.t 39)
      (.seq /-8-/
      (.region [
        ⟨(some 2), .mov (.c (.bool false)), none⟩] [1, 3, 39])
      (.ret))
      (.skip)))))
  (.region [
    ⟨(some 14), .mov (.t 3), none⟩,
    ⟨(some 15), .bin .add (.t 14) (.c (.int .i64 1)), none⟩,
    ⟨(some 3), .mov (.t 15), none⟩] [2, 14, 15, 39]))

def ac_L24_few_k1 : ACode :=
  /-live [1]-/ .seq /-9-/
  (.region [
    ⟨(some 40), .fldaddr 1 1 (.t 1), none⟩,
    ⟨(some 41), .load false 1 (.t 40), none⟩,
    ⟨(some 42), .len (.t 41), none⟩,
    ⟨(some 43), .bin .leq (.t 42) (.c (.int .i64 12)), none⟩,
    ⟨(some 2), .mov (.t 43), none⟩] [1, 3, 40, 41, 42, 43])
  (.ret)

/-- decompiler/decompilerlaw24.few -/
def ac_L24_few : ACode :=
  .seq /-0-/
  (.region [
    ⟨(some 1), .rbox (.t 0), none⟩,
    ⟨(some 2), .mov (.c (.bool false)), none⟩] [0, 2])
  (.seq /-1-/
  (.seq /-2-/
  (.region [
    ⟨(some 3), .mov (.c (.int .i64 0)), none⟩] [])
  (.block 0
    (.loop ac_L24_few_l0)))
  (ac_L24_few_k1))

def rs_L24_few : List ARet := [.tmp 2]

set_option maxRecDepth 100000 in
theorem cf_L24_few : compF Try.prog f_L24_few (qRo [1]) = some (ac_L24_few.strip, rs_L24_few, 44) := by kernel_rfl


/-- decompiler/decompilerlaw24.exampleHolds -/
def ac_L24_exampleHolds : ACode :=
  .seq /-0-/
  (.region [
    ⟨(some 0), .mov (.c (.bool false)), none⟩] [0])
  (.seq /-1-/
  (.region [
    ⟨(some 2), .build [.int .i64 0, .int .i64 0, .int .i64 0, .int .i64 0, .int .i64 0, .int .u32 0, .nilsl, .nilsl] [(0, 1, (.c (.int .i64 7))), (3, 1, (.c (.int .i64 1))), (4, 1, (.c (.int .i64 2)))], none⟩,
    ⟨(some 3), .buildSl 8 1 [.int .i64 0, .int .i64 0, .int .i64 0, .int .i64 0, .int .i64 0, .int .u32 0, .nilsl, .nilsl] [(0, (.t 2))], none⟩,
    ⟨(some 4), .build [.int .u32 0, .nilsl] [(1, 1, (.t 3))], none⟩,
    ⟨(some 5), .call f_L24_jump [(.c (.int .i64 3))], none⟩,
    ⟨(some 6), .call f_L24_jump [(.c (.int .i64 3))], none⟩,
    ⟨(some 7), .build [.int .i64 0, .int .i64 0, .int .i64 0, .int .i64 0, .int .i64 0, .int .u32 0, .nilsl, .nilsl] [(0, 1, (.c (.int .i64 9)))], none⟩,
    ⟨(some 8), .buildSl 8 1 [.int .i64 0, .int .i64 0, .int .i64 0, .int .i64 0, .int .i64 0, .int .u32 0, .nilsl, .nilsl] [(0, (.t 7))], none⟩,
    ⟨(some 9), .build [.int .u32 0, .nilsl] [(1, 1, (.t 8))], none⟩,
    ⟨(some 10), .buildSl 2 4 [.int .u32 0, .nilsl] [(0, (.t 4)), (1, (.t 5)), (2, (.t 6)), (3, (.t 9))], none⟩,
    ⟨(some 11), .build [.int .u32 0, .nilsl] [(1, 1, (.t 10))], none⟩,
    ⟨(some 1), .alloc [.int .u32 0, .nilsl], none⟩,
    ⟨none, .store 2 (.t 1) (.t 11), none⟩] [2, 3, 4, 5, 6, 7, 8, 9, 10, 11])
  (.seq /-2-/
  (.region [
    ⟨(some 12), .load true 2 (.t 1), none⟩,
    ⟨(some 13), .call f_dominator_Order [(.t 12)], none⟩,
    ⟨(some 14), .buildSl 1 4 [.int .i64 0] [(0, (.c (.int .i64 0))), (1, (.c (.int .i64 2))), (2, (.c (.int .i64 1))), (3, (.c (.int .i64 3)))], none⟩,
    ⟨(some 15), .call f_R24_Ints [(.t 13), (.t 14)], none⟩,
    ⟨(some 16), .mov (.t 15), none⟩,
    ⟨(some 17), .load true 2 (.t 1), (some (16, true))⟩,
    ⟨(some 18), .call f_dominator_Tree [(.t 17)], (some (16, true))⟩,
    ⟨(some 19), .buildSl 1 4 [.int .i64 0] [(0, (.c (.int .i64 (-1)))), (1, (.c (.int .i64 0))), (2, (.c (.int .i64 0))), (3, (.c (.int .i64 0)))], (some (16, true))⟩,
    ⟨(some 20), .call f_R24_Ints [(.t 18), (.t 19)], (some (16, true))⟩,
    ⟨(some 21), .pick (.t 16) (.t 20) (.c (.bool false)), none⟩,
    ⟨(some 22), .mov (.t 21), none⟩,
    ⟨(some 23), .load true 2 (.t 1), (some (22, true))⟩,
    ⟨(some 24), .call f_dominator_PostTree [(.t 23)], (some (22, true))⟩,
    ⟨(some 25), .buildSl 1 4 [.int .i64 0] [(0, (.c (.int .i64 3))), (1, (.c (.int .i64 3))), (2, (.c (.int .i64 3))), (3, (.c (.int .i64 (-1))))], (some (22, true))⟩,
    ⟨(some 26), .call f_R24_Ints [(.t 24), (.t 25)], (some (22, true))⟩,
    ⟨(some 27), .pick (.t 22) (.t 26) (.c (.bool false)), none⟩,
    ⟨(some 28), .mov (.t 27), none⟩,
    ⟨(some 29), .load true 2 (.t 1), (some (28, true))⟩,
    ⟨(some 30), .call f_dominator_Frontier [(.t 29)], (some (28, true))⟩,
    ⟨(some 31), .buildSl 1 1 [.int .i64 0] [(0, (.c (.int .i64 3)))], (some (28, true))⟩,
    ⟨(some 32), .buildSl 1 1 [.int .i64 0] [(0, (.c (.int .i64 3)))], (some (28, true))⟩,
    ⟨(some 33), .buildSl 1 4 [.nilsl] [(0, (.c (.nilsl))), (1, (.t 31)), (2, (.t 32)), (3, (.c (.nilsl)))], (some (28, true))⟩,
    ⟨(some 34), .call f_R24_Lists [(.t 30), (.t 33)], (some (28, true))⟩,
    ⟨(some 35), .pick (.t 28) (.t 34) (.c (.bool false)), none⟩,
    ⟨(some 36), .mov (.t 35), none⟩,
    ⟨(some 37), .load true 2 (.t 1), (some (36, true))⟩,
    ⟨(some 38), .call f_dominator_Predecessors [(.t 37)], (some (36, true))⟩,
    ⟨(some 39), .buildSl 1 1 [.int .i64 0] [(0, (.c (.int .i64 0)))], (some (36, true))⟩,
    ⟨(some 40), .buildSl 1 1 [.int .i64 0] [(0, (.c (.int .i64 0)))], (some (36, true))⟩,
    ⟨(some 41), .buildSl 1 2 [.int .i64 0] [(0, (.c (.int .i64 1))), (1, (.c (.int .i64 2)))], (some (36, true))⟩,
    ⟨(some 42), .buildSl 1 4 [.nilsl] [(0, (.c (.nilsl))), (1, (.t 39)), (2, (.t 40)), (3, (.t 41))], (some (36, true))⟩,
    ⟨(some 43), .call f_R24_Lists [(.t 38), (.t 42)], (some (36, true))⟩,
    ⟨(some 44), .pick (.t 36) (.t 43) (.c (.bool false)), none⟩,
    ⟨(some 45), .mov (.t 44), none⟩,
    ⟨(some 46), .buildSl 1 3 [.int .i64 0] [(0, (.c (.int .i64 (-1)))), (1, (.c (.int .i64 0))), (2, (.c (.int .i64 1)))], (some (45, true))⟩,
    ⟨(some 47), .call f_dominator_Dominates [(.t 46), (.c (.int .i64 0)), (.c (.int .i64 2))], (some (45, true))⟩,
    ⟨(some 48), .pick (.t 45) (.t 47) (.c (.bool false)), none⟩,
    ⟨(some 49), .mov (.t 48), none⟩,
    ⟨(some 50), .buildSl 1 3 [.int .i64 0] [(0, (.c (.int .i64 (-1)))), (1, (.c (.int .i64 0))), (2, (.c (.int .i64 1)))], (some (49, true))⟩,
    ⟨(some 51), .call f_dominator_Dominates [(.t 50), (.c (.int .i64 2)), (.c (.int .i64 0))], (some (49, true))⟩,
    ⟨(some 52), .un .not (.t 51), (some (49, true))⟩,
    ⟨(some 53), .pick (.t 49) (.t 52) (.c (.bool false)), none⟩,
    ⟨(some 0), .mov (.t 53), none⟩] [1, 12, 13, 14, 15, 16, 17, 18, 19, 20, 21, 22, 23, 24, 25, 26, 27, 28, 29, 30, 31, 32, 33, 34, 35, 36, 37, 38, 39, 40, 41, 42, 43, 44, 45, 46, 47, 48, 49, 50, 51, 52, 53])
  (.ret)))

def rs_L24_exampleHolds : List ARet := [.tmp 0]

set_option maxRecDepth 100000 in
theorem cf_L24_exampleHolds : compF Try.prog f_L24_exampleHolds (qRo []) = some (ac_L24_exampleHolds.strip, rs_L24_exampleHolds, 54) := by kernel_rfl


/-- decompiler/decompilerlaw24.without -/
def ac_L24_without : ACode :=
  .seq /-0-/
  (.region [
    ⟨(some 2), .rbox (.t 0), none⟩,
    ⟨(some 4), .alloc [.int .u32 0, .nilsl], none⟩] [0])
  (.seq /-1-/
  (.region [
    ⟨(some 6), .buildSl 2 0 [.int .u32 0, .nilsl] [], none⟩,
    ⟨(some 7), .fldaddr 1 1 (.t 2), none⟩,
    ⟨(some 8), .load false 1 (.t 7), none⟩,
    ⟨(some 9), .append 2 32 (.t 6) (.t 8), none⟩,
    ⟨(some 10), .build [.int .u32 0, .nilsl] [(1, 1, (.t 9))], none⟩,
    ⟨(some 5), .alloc [.int .u32 0, .nilsl], none⟩,
    ⟨none, .store 2 (.t 5) (.t 10), none⟩] [2, 6, 7, 8, 9, 10])
  (.seq /-2-/
  (.region [
    ⟨(some 11), .fldaddr 1 1 (.t 5), none⟩,
    ⟨(some 12), .load false 1 (.t 11), none⟩,
    ⟨(some 13), .mov (.t 1), none⟩,
    ⟨(some 14), .build [.int .u32 0, .nilsl] [], none⟩,
    ⟨(some 15), .idx 2 (.t 12) (.t 13), none⟩,
    ⟨none, .store 2 (.t 15) (.t 14), none⟩] [1, 11, 12, 13, 14, 15])
  (.seq /-3-/
  (.region [
    ⟨(some 16), .load true 2 (.t 5), none⟩,
    ⟨none, .store 2 (.t 4) (.t 16), none⟩] [5, 16])
  (.ret))))

def rs_L24_without : List ARet := [.cell 4 true 2]

set_option maxRecDepth 100000 in
theorem cf_L24_without : compF Try.prog f_L24_without (qRo [2]) = some (ac_L24_without.strip, rs_L24_without, 17) := by kernel_rfl


/-- decompiler/decompilerlaw24.jump -/
def ac_L24_jump : ACode :=
  .seq /-0-/
  (.region [
    ⟨(some 2), .alloc [.int .u32 0, .nilsl], none⟩] [])
  (.seq /-1-/
  (.region [
    ⟨(some 3), .mov (.t 0), none⟩,
    ⟨(some 4), .build [.int .i64 0, .int .i64 0, .int .i64 0, .int .i64 0, .int .i64 0, .int .u32 0, .nilsl, .nilsl] [(0, 1, (.c (.int .i64 6))), (3, 1, (.t 3))], none⟩,
    ⟨(some 5), .buildSl 8 1 [.int .i64 0, .int .i64 0, .int .i64 0, .int .i64 0, .int .i64 0, .int .u32 0, .nilsl, .nilsl] [(0, (.t 4))], none⟩,
    ⟨(some 6), .build [.int .u32 0, .nilsl] [(1, 1, (.t 5))], none⟩,
    ⟨none, .store 2 (.t 2) (.t 6), none⟩] [0, 3, 4, 5, 6])
  (.ret))

def rs_L24_jump : List ARet := [.cell 2 true 2]

set_option maxRecDepth 100000 in
theorem cf_L24_jump : compF Try.prog f_L24_jump (qRo []) = some (ac_L24_jump.strip, rs_L24_jump, 7) := by kernel_rfl

end Go.Ab

namespace Go.Ab
open Go.RowKit Go.Proofs

def ac_R24_Edges_l0 : ACode :=
  /-live [2, 5, 6, 7]-/ .seq /-5-/
  (.seq /-6-/
  (.region [
    ⟨(some 14), .mov (.t 7), none⟩,
    ⟨(some 15), .mov (.t 6), none⟩,
    ⟨(some 16), .len (.t 15), none⟩,
    ⟨(some 17), .bin .lss (.t 14) (.t 16), none⟩] [14, 15, 16])
  (.cond (.t 17)
    (.skip)
    (.exit 0)))
  (.seq /-7-/
  (.block 1
    (.seq /-8-/
    (.draw (
      .step ⟨(some 20), .mov (.t 6), none⟩ (
      .step ⟨(some 21), .mov (.t 7), none⟩ (
      .step ⟨(some 22), .idx 1 (.t 20) (.t 21), none⟩ (
      .step ⟨(some 23), .load false 1 (.t 22), none⟩ (
      .step ⟨(some 24), .bin .geq (.t 23) (.c (.int .i64 0)), none⟩ (
      .step ⟨(some 25), .mov (.t 24), none⟩ (
      .step ⟨(some 26), .mov (.t 6), (some (25, true))⟩ (
      .step ⟨(some 27), .mov (.t 7), (some (25, true))⟩ (
      .step ⟨(some 28), .idx 1 (.t 26) (.t 27), (some (25, true))⟩ (
      .step ⟨(some 29), .load false 1 (.t 28), (some (25, true))⟩ (
      .step ⟨(some 30), .fldaddr 1 1 (.t 2), (some (25, true))⟩ (
      .step ⟨(some 31), .load false 1 (.t 30), (some (25, true))⟩ (
      .step ⟨(some 32), .len (.t 31), (some (25, true))⟩ (
      .step ⟨(some 33), .bin .lss (.t 29) (.t 32), (some (25, true))⟩ (
      .step ⟨(some 34), .pick (.t 25) (.t 33) (.c (.bool false)), none⟩ (
      .done)))))))))))))))) [17, 20, 21, 22, 23, 24, 25, 26, 27, 28, 29, 30, 31, 32, 33])
    (.cond (.t 34)
      (.region [
        ⟨(some 35), .mov (.t 5), none⟩,
        ⟨(some 36), .mov (.t 6), none⟩,
        ⟨(some 37), .mov (.t 7), none⟩,
        ⟨(some 38), .idx 1 (.t 36) (.t 37), none⟩,
        ⟨(some 39), .load false 1 (.t 38), none⟩,
        ⟨(some 40), .buildSl 1 1 [.int .i64 0] [(0, (.t 39))], none⟩,
        ⟨(some 41), .append 1 8 (.t 35) (.t 40), none⟩,
        ⟨(some 5), .mov (.t 41), none⟩] [34, 35, 36, 37, 38, 39, 40, 41])
      (.skip))))
  (.region [
    ⟨(some 18), .mov (.t 7), none⟩,
    ⟨(some 19), .bin .add (.t 18) (.c (.int .i64 1)), none⟩,
    ⟨(some 7), .mov (.t 19), none⟩] [18, 19, 34]))

def ac_R24_Edges_k1 : ACode :=
  /-live [5]-/ .seq /-9-/
  (.region [
    ⟨(some 42), .mov (.t 5), none⟩,
    ⟨(some 4), .mov (.t 42), none⟩] [2, 5, 6, 7, 42])
  (.ret)

/-- decompiler/decompilerref24.Edges -/
def ac_R24_Edges : ACode :=
  .seq /-0-/
  (.region [
    ⟨(some 2), .rbox (.t 0), none⟩,
    ⟨(some 4), .mknil 1, none⟩] [0, 4])
  (.seq /-1-/
  (.region [
    ⟨(some 5), .mknil 1, none⟩] [])
  (.seq /-2-/
  (.region [
    ⟨(some 8), .fldaddr 1 1 (.t 2), none⟩,
    ⟨(some 9), .load false 1 (.t 8), none⟩,
    ⟨(some 10), .mov (.t 1), none⟩,
    ⟨(some 11), .idx 2 (.t 9) (.t 10), none⟩,
    ⟨(some 12), .load true 2 (.t 11), none⟩,
    ⟨(some 13), .call f_R24_targets [(.t 12)], none⟩,
    ⟨(some 6), .mov (.t 13), none⟩] [1, 8, 9, 10, 11, 12, 13])
  (.seq /-3-/
  (.seq /-4-/
  (.region [
    ⟨(some 7), .mov (.c (.int .i64 0)), none⟩] [])
  (.block 0
    (.loop ac_R24_Edges_l0)))
  (ac_R24_Edges_k1))))

def rs_R24_Edges : List ARet := [.tmp 4]

set_option maxRecDepth 100000 in
theorem cf_R24_Edges : compF Try.prog f_R24_Edges (qRo [2]) = some (ac_R24_Edges.strip, rs_R24_Edges, 43) := by kernel_rfl

def ac_R24_Has_l0 : ACode :=
  /-live [0, 1, 5]-/ .seq /-3-/
  (.seq /-4-/
  (.region [
    ⟨(some 6), .mov (.t 5), none⟩,
    ⟨(some 7), .mov (.t 0), none⟩,
    ⟨(some 8), .len (.t 7), none⟩,
    ⟨(some 9), .bin .lss (.t 6) (.t 8), none⟩] [6, 7, 8])
  (.cond (.t 9)
    (.skip)
    (.exit 0)))
  (.seq /-5-/
  (.block 1
    (.seq /-6-/
    (.region [
      ⟨(some 12), .mov (.t 0), none⟩,
      ⟨(some 13), .mov (.t 5), none⟩,
      ⟨(some 14), .idx 1 (.t 12) (.t 13), none⟩,
      ⟨(some 15), .load false 1 (.t 14), none⟩,
      ⟨(some 16), .mov (.t 1), none⟩,
      ⟨(some 17), .bin .eql (.t 15) (.t 16), none⟩] [9, 12, 13, 14, 15, 16])
    (.cond (.t 17)
      (.seq /-7-/
      (.region [
        ⟨(some 4), .mov (.c (.bool true)), none⟩] [0, 1, 5, 17])
      (.ret))
      (.skip))))
  (.region [
    ⟨(some 10), .mov (.t 5), none⟩,
    ⟨(some 11), .bin .add (.t 10) (.c (.int .i64 1)), none⟩,
    ⟨(some 5), .mov (.t 11), none⟩] [4, 10, 11, 17]))

def ac_R24_Has_k1 : ACode :=
  /-live []-/ .seq /-8-/
  (.region [
    ⟨(some 4), .mov (.c (.bool false)), none⟩] [0, 1, 5])
  (.ret)

/-- decompiler/decompilerref24.Has -/
def ac_R24_Has : ACode :=
  .seq /-0-/
  (.region [
    ⟨(some 4), .mov (.c (.bool false)), none⟩] [4])
  (.seq /-1-/
  (.seq /-2-/
  (.region [
    ⟨(some 5), .mov (.c (.int .i64 0)), none⟩] [])
  (.block 0
    (.loop ac_R24_Has_l0)))
  (ac_R24_Has_k1))

def rs_R24_Has : List ARet := [.tmp 4]

set_option maxRecDepth 100000 in
theorem cf_R24_Has : compF Try.prog f_R24_Has (qRo []) = some (ac_R24_Has.strip, rs_R24_Has, 18) := by kernel_rfl


/-- decompiler/decompilerref24.Ints -/
def ac_R24_Ints : ACode :=
  .seq /-0-/
  (.region [
    ⟨(some 4), .mov (.c (.bool false)), none⟩] [4])
  (.seq /-1-/
  (.region [
    ⟨(some 5), .mov (.t 0), none⟩,
    ⟨(some 6), .buildSl 1 1 [.nilsl] [(0, (.t 5))], none⟩,
    ⟨(some 7), .mov (.t 1), none⟩,
    ⟨(some 8), .buildSl 1 1 [.nilsl] [(0, (.t 7))], none⟩,
    ⟨(some 9), .call f_R24_Lists [(.t 6), (.t 8)], none⟩,
    ⟨(some 4), .mov (.t 9), none⟩] [0, 1, 5, 6, 7, 8, 9])
  (.ret))

def rs_R24_Ints : List ARet := [.tmp 4]

set_option maxRecDepth 100000 in
theorem cf_R24_Ints : compF Try.prog f_R24_Ints (qRo []) = some (ac_R24_Ints.strip, rs_R24_Ints, 10) := by kernel_rfl

def ac_R24_Tree_l0 : ACode :=
  /-live [3, 4, 5]-/ .seq /-5-/
  (.seq /-6-/
  (.region [
    ⟨(some 8), .mov (.t 5), none⟩,
    ⟨(some 9), .mov (.t 3), none⟩,
    ⟨(some 10), .len (.t 9), none⟩,
    ⟨(some 11), .bin .lss (.t 8) (.t 10), none⟩] [8, 9, 10])
  (.cond (.t 11)
    (.skip)
    (.exit 0)))
  (.seq /-7-/
  (.block 1
    (.region [
      ⟨(some 14), .mov (.t 4), none⟩,
      ⟨(some 15), .mov (.t 3), none⟩,
      ⟨(some 16), .mov (.t 5), none⟩,
      ⟨(some 17), .call f_R24_nearest [(.t 15), (.t 16)], none⟩,
      ⟨(some 18), .buildSl 1 1 [.int .i64 0] [(0, (.t 17))], none⟩,
      ⟨(some 19), .append 1 8 (.t 14) (.t 18), none⟩,
      ⟨(some 4), .mov (.t 19), none⟩] [11, 14, 15, 16, 17, 18, 19]))
  (.region [
    ⟨(some 12), .mov (.t 5), none⟩,
    ⟨(some 13), .bin .add (.t 12) (.c (.int .i64 1)), none⟩,
    ⟨(some 5), .mov (.t 13), none⟩] [12, 13]))

def ac_R24_Tree_k1 : ACode :=
  /-live [4]-/ .seq /-8-/
  (.region [
    ⟨(some 20), .mov (.t 4), none⟩,
    ⟨(some 2), .mov (.t 20), none⟩] [3, 4, 5, 20])
  (.ret)

/-- decompiler/decompilerref24.Tree -/
def ac_R24_Tree : ACode :=
  .seq /-0-/
  (.region [
    ⟨(some 1), .rbox (.t 0), none⟩,
    ⟨(some 2), .mknil 1, none⟩] [0, 2])
  (.seq /-1-/
  (.region [
    ⟨(some 6), .load true 2 (.t 1), none⟩,
    ⟨(some 7), .call f_R24_strict [(.t 6)], none⟩,
    ⟨(some 3), .mov (.t 7), none⟩] [1, 6, 7])
  (.seq /-2-/
  (.region [
    ⟨(some 4), .mknil 1, none⟩] [])
  (.seq /-3-/
  (.seq /-4-/
  (.region [
    ⟨(some 5), .mov (.c (.int .i64 0)), none⟩] [])
  (.block 0
    (.loop ac_R24_Tree_l0)))
  (ac_R24_Tree_k1))))

def rs_R24_Tree : List ARet := [.tmp 2]

set_option maxRecDepth 100000 in
theorem cf_R24_Tree : compF Try.prog f_R24_Tree (qRo [1]) = some (ac_R24_Tree.strip, rs_R24_Tree, 21) := by kernel_rfl

def ac_R24_Reachable_l0 : ACode :=
  /-live [1, 3, 4, 5]-/ .seq /-5-/
  (.seq /-6-/
  (.region [
    ⟨(some 8), .mov (.t 5), none⟩,
    ⟨(some 9), .fldaddr 1 1 (.t 1), none⟩,
    ⟨(some 10), .load false 1 (.t 9), none⟩,
    ⟨(some 11), .len (.t 10), none⟩,
    ⟨(some 12), .bin .lss (.t 8) (.t 11), none⟩] [8, 9, 10, 11])
  (.cond (.t 12)
    (.skip)
    (.exit 0)))
  (.seq /-7-/
  (.block 1
    (.region [
      ⟨(some 15), .mov (.t 4), none⟩,
      ⟨(some 16), .mov (.t 3), none⟩,
      ⟨(some 17), .mov (.t 5), none⟩,
      ⟨(some 18), .call f_R24_Has [(.t 16), (.t 17)], none⟩,
      ⟨(some 19), .buildSl 1 1 [.bool false] [(0, (.t 18))], none⟩,
      ⟨(some 20), .append 1 1 (.t 15) (.t 19), none⟩,
      ⟨(some 4), .mov (.t 20), none⟩] [12, 15, 16, 17, 18, 19, 20]))
  (.region [
    ⟨(some 13), .mov (.t 5), none⟩,
    ⟨(some 14), .bin .add (.t 13) (.c (.int .i64 1)), none⟩,
    ⟨(some 5), .mov (.t 14), none⟩] [13, 14]))

def ac_R24_Reachable_k1 : ACode :=
  /-live [4]-/ .seq /-8-/
  (.region [
    ⟨(some 21), .mov (.t 4), none⟩,
    ⟨(some 2), .mov (.t 21), none⟩] [1, 3, 4, 5, 21])
  (.ret)

/-- decompiler/decompilerref24.Reachable -/
def ac_R24_Reachable : ACode :=
  .seq /-0-/
  (.region [
    ⟨(some 1), .rbox (.t 0), none⟩,
    ⟨(some 2), .mknil 1, none⟩] [0, 2])
  (.seq /-1-/
  (.region [
    ⟨(some 6), .load true 2 (.t 1), none⟩,
    ⟨(some 7), .call f_R24_from [(.t 6), (.c (.int .i64 0)), (.c (.int .i64 (-1)))], none⟩,
    ⟨(some 3), .mov (.t 7), none⟩] [6, 7])
  (.seq /-2-/
  (.region [
    ⟨(some 4), .mknil 1, none⟩] [])
  (.seq /-3-/
  (.seq /-4-/
  (.region [
    ⟨(some 5), .mov (.c (.int .i64 0)), none⟩] [])
  (.block 0
    (.loop ac_R24_Reachable_l0)))
  (ac_R24_Reachable_k1))))

def rs_R24_Reachable : List ARet := [.tmp 2]

set_option maxRecDepth 100000 in
theorem cf_R24_Reachable : compF Try.prog f_R24_Reachable (qRo [1]) = some (ac_R24_Reachable.strip, rs_R24_Reachable, 22) := by kernel_rfl

def ac_R24_Order_l0 : ACode :=
  /-live [3, 4, 5]-/ .seq /-8-/
  (.seq /-9-/
  (.region [
    ⟨(some 18), .mov (.t 5), none⟩,
    ⟨(some 19), .bin .geq (.t 18) (.c (.int .i64 0)), none⟩] [18])
  (.cond (.t 19)
    (.skip)
    (.exit 0)))
  (.seq /-10-/
  (.block 1
    (.region [
      ⟨(some 22), .mov (.t 3), none⟩,
      ⟨(some 23), .mov (.t 4), none⟩,
      ⟨(some 24), .mov (.t 5), none⟩,
      ⟨(some 25), .idx 1 (.t 23) (.t 24), none⟩,
      ⟨(some 26), .load false 1 (.t 25), none⟩,
      ⟨(some 27), .buildSl 1 1 [.int .i64 0] [(0, (.t 26))], none⟩,
      ⟨(some 28), .append 1 8 (.t 22) (.t 27), none⟩,
      ⟨(some 3), .mov (.t 28), none⟩] [19, 22, 23, 24, 25, 26, 27, 28]))
  (.region [
    ⟨(some 20), .mov (.t 5), none⟩,
    ⟨(some 21), .bin .sub (.t 20) (.c (.int .i64 1)), none⟩,
    ⟨(some 5), .mov (.t 21), none⟩] [20, 21]))

def ac_R24_Order_k1 : ACode :=
  /-live [3]-/ .seq /-11-/
  (.region [
    ⟨(some 29), .mov (.t 3), none⟩,
    ⟨(some 2), .mov (.t 29), none⟩] [3, 4, 5, 29])
  (.ret)

/-- decompiler/decompilerref24.Order -/
def ac_R24_Order : ACode :=
  .seq /-0-/
  (.region [
    ⟨(some 1), .rbox (.t 0), none⟩,
    ⟨(some 2), .mknil 1, none⟩] [0, 2])
  (.seq /-1-/
  (.region [
    ⟨(some 3), .mknil 1, none⟩] [])
  (.seq /-2-/
  (.seq /-3-/
  (.region [
    ⟨(some 6), .fldaddr 1 1 (.t 1), none⟩,
    ⟨(some 7), .load false 1 (.t 6), none⟩,
    ⟨(some 8), .len (.t 7), none⟩,
    ⟨(some 9), .bin .eql (.t 8) (.c (.int .i64 0)), none⟩] [6, 7, 8])
  (.cond (.t 9)
    (.seq /-4-/
    (.region [
      ⟨(some 10), .mov (.t 3), none⟩,
      ⟨(some 2), .mov (.t 10), none⟩] [1, 3, 9, 10])
    (.ret))
    (.skip)))
  (.seq /-5-/
  (.region [
    ⟨(some 11), .load true 2 (.t 1), none⟩,
    ⟨(some 12), .build [.nilsl, .nilsl] [], none⟩,
    ⟨(some 13), .call f_R24_visit [(.t 11), (.c (.int .i64 0)), (.t 12)], none⟩,
    ⟨(some 14), .fld 1 1 false (.t 13), none⟩,
    ⟨(some 4), .mov (.t 14), none⟩] [1, 2, 9, 11, 12, 13, 14])
  (.seq /-6-/
  (.seq /-7-/
  (.region [
    ⟨(some 15), .mov (.t 4), none⟩,
    ⟨(some 16), .len (.t 15), none⟩,
    ⟨(some 17), .bin .sub (.t 16) (.c (.int .i64 1)), none⟩,
    ⟨(some 5), .mov (.t 17), none⟩] [15, 16, 17])
  (.block 0
    (.loop ac_R24_Order_l0)))
  (ac_R24_Order_k1)))))

def rs_R24_Order : List ARet := [.tmp 2]

set_option maxRecDepth 100000 in
theorem cf_R24_Order : compF Try.prog f_R24_Order (qRo [1]) = some (ac_R24_Order.strip, rs_R24_Order, 30) := by kernel_rfl

def ac_R24_Lists_l0 : ACode :=
  /-live [0, 1, 5, 6]-/ .seq /-13-/
  (.seq /-14-/
  (.region [
    ⟨(some 29), .mov (.t 6), none⟩,
    ⟨(some 30), .mov (.t 0), none⟩,
    ⟨(some 31), .mov (.t 5), none⟩,
    ⟨(some 32), .idx 1 (.t 30) (.t 31), none⟩,
    ⟨(some 33), .load false 1 (.t 32), none⟩,
    ⟨(some 34), .len (.t 33), none⟩,
    ⟨(some 35), .bin .lss (.t 29) (.t 34), none⟩] [29, 30, 31, 32, 33, 34])
  (.cond (.t 35)
    (.skip)
    (.exit 2)))
  (.seq /-15-/
  (.block 3
    (.seq /-16-/
    (.draw (
      .step ⟨(some 38), .mov (.t 0), none⟩ (
      .step ⟨(some 39), .mov (.t 5), none⟩ (
      .step ⟨(some 40), .idx 1 (.t 38) (.t 39), none⟩ (
      .step ⟨(some 41), .load false 1 (.t 40), none⟩ (
      .step ⟨(some 42), .mov (.t 6), none⟩ (
      .step ⟨(some 43), .idx 1 (.t 41) (.t 42), none⟩ (
      .step ⟨(some 44), .load false 1 (.t 43), none⟩ (
      .step ⟨(some 45), .mov (.t 1), none⟩ (
      .step ⟨(some 46), .mov (.t 5), none⟩ (
      .step ⟨(some 47), .idx 1 (.t 45) (.t 46), none⟩ (
      .step ⟨(some 48), .load false 1 (.t 47), none⟩ (
      .step ⟨(some 49), .mov (.t 6), none⟩ (
      .step ⟨(some 50), .idx 1 (.t 48) (.t 49), none⟩ (
      .step ⟨(some 51), .load false 1 (.t 50), none⟩ (
      .step ⟨(some 52), .bin .neq (.t 44) (.t 51), none⟩ (
      .done)))))))))))))))) [35, 38, 39, 40, 41, 42, 43, 44, 45, 46, 47, 48, 49, 50, 51])
    (.cond (.t 52)
      (.seq /-17-/
      (.region [
        ⟨(some 4), .mov (.c (.bool false)), none⟩] [0, 1, 5, 6, 52])
      (.ret))
      (.skip))))
  (.region [
    ⟨(some 36), .mov (.t 6), none⟩,
    ⟨(some 37), .bin .add (.t 36) (.c (.int .i64 1)), none⟩,
    ⟨(some 6), .mov (.t 37), none⟩] [4, 36, 37, 52]))

def ac_R24_Lists_k1 : ACode :=
  /-live [0, 1, 5]-/ .region [
    ⟨(some 16), .mov (.t 5), none⟩,
    ⟨(some 17), .bin .add (.t 16) (.c (.int .i64 1)), none⟩,
    ⟨(some 5), .mov (.t 17), none⟩] [6, 16, 17]

def ac_R24_Lists_l2 : ACode :=
  /-live [0, 1, 5]-/ .seq /-6-/
  (.seq /-7-/
  (.region [
    ⟨(some 12), .mov (.t 5), none⟩,
    ⟨(some 13), .mov (.t 0), none⟩,
    ⟨(some 14), .len (.t 13), none⟩,
    ⟨(some 15), .bin .lss (.t 12) (.t 14), none⟩] [12, 13, 14])
  (.cond (.t 15)
    (.skip)
    (.exit 0)))
  (.seq /-8-/
  (.block 1
    (.seq /-9-/
    (.seq /-10-/
    (.draw (
      .step ⟨(some 18), .mov (.t 0), none⟩ (
      .step ⟨(some 19), .mov (.t 5), none⟩ (
      .step ⟨(some 20), .idx 1 (.t 18) (.t 19), none⟩ (
      .step ⟨(some 21), .load false 1 (.t 20), none⟩ (
      .step ⟨(some 22), .len (.t 21), none⟩ (
      .step ⟨(some 23), .mov (.t 1), none⟩ (
      .step ⟨(some 24), .mov (.t 5), none⟩ (
      .step ⟨(some 25), .idx 1 (.t 23) (.t 24), none⟩ (
      .step ⟨(some 26), .load false 1 (.t 25), none⟩ (
      .step ⟨(some 27), .len (.t 26), none⟩ (
      .step ⟨(some 28), .bin .neq (.t 22) (.t 27), none⟩ (
      .done)))))))))))) [15, 18, 19, 20, 21, 22, 23, 24, 25, 26, 27])
    (.cond (.t 28)
      (.seq /-11-/
      (.region [
        ⟨(some 4), .mov (.c (.bool false)), none⟩] [0, 1, 5, 28])
      (.ret))
      (.skip)))
    (.seq /-12-/
    (.region [
      ⟨(some 6), .mov (.c (.int .i64 0)), none⟩] [4, 28])
    (.block 2
      (.loop ac_R24_Lists_l0)))))
  (ac_R24_Lists_k1))

def ac_R24_Lists_k3 : ACode :=
  /-live []-/ .seq /-18-/
  (.region [
    ⟨(some 4), .mov (.c (.bool true)), none⟩] [0, 1, 5])
  (.ret)

/-- decompiler/decompilerref24.Lists -/
def ac_R24_Lists : ACode :=
  .seq /-0-/
  (.region [
    ⟨(some 4), .mov (.c (.bool false)), none⟩] [4])
  (.seq /-1-/
  (.seq /-2-/
  (.region [
    ⟨(some 7), .mov (.t 0), none⟩,
    ⟨(some 8), .len (.t 7), none⟩,
    ⟨(some 9), .mov (.t 1), none⟩,
    ⟨(some 10), .len (.t 9), none⟩,
    ⟨(some 11), .bin .neq (.t 8) (.t 10), none⟩] [7, 8, 9, 10])
  (.cond (.t 11)
    (.seq /-3-/
    (.region [
      ⟨(some 4), .mov (.c (.bool false)), none⟩] [0, 1, 11])
    (.ret))
    (.skip)))
  (.seq /-4-/
  (.seq /-5-/
  (.region [
    ⟨(some 5), .mov (.c (.int .i64 0)), none⟩] [4, 11])
  (.block 0
    (.loop ac_R24_Lists_l2)))
  (ac_R24_Lists_k3)))

def rs_R24_Lists : List ARet := [.tmp 4]

set_option maxRecDepth 100000 in
theorem cf_R24_Lists : compF Try.prog f_R24_Lists (qRo []) = some (ac_R24_Lists.strip, rs_R24_Lists, 53) := by kernel_rfl

def ac_R24_Frontier_l0 : ACode :=
  /-live [3, 4, 5, 6, 7, 8, 9, 10]-/ .seq /-15-/
  (.seq /-16-/
  (.region [
    ⟨(some 39), .mov (.t 10), none⟩,
    ⟨(some 40), .mov (.t 5), none⟩,
    ⟨(some 41), .mov (.t 8), none⟩,
    ⟨(some 42), .idx 1 (.t 40) (.t 41), none⟩,
    ⟨(some 43), .load false 1 (.t 42), none⟩,
    ⟨(some 44), .len (.t 43), none⟩,
    ⟨(some 45), .bin .lss (.t 39) (.t 44), none⟩] [39, 40, 41, 42, 43, 44])
  (.cond (.t 45)
    (.skip)
    (.exit 4)))
  (.seq /-17-/
  (.block 5
    (.seq /-18-/
    (.region [
      ⟨(some 48), .mov (.t 5), none⟩,
      ⟨(some 49), .mov (.t 8), none⟩,
      ⟨(some 50), .idx 1 (.t 48) (.t 49), none⟩,
      ⟨(some 51), .load false 1 (.t 50), none⟩,
      ⟨(some 52), .mov (.t 10), none⟩,
      ⟨(some 53), .idx 1 (.t 51) (.t 52), none⟩,
      ⟨(some 54), .load false 1 (.t 53), none⟩,
      ⟨(some 11), .mov (.t 54), none⟩] [45, 48, 49, 50, 51, 52, 53, 54])
    (.region [
      ⟨(some 55), .mov (.t 9), none⟩,
      ⟨(some 56), .mov (.t 55), none⟩,
      ⟨(some 57), .mov (.t 4), (some (56, false))⟩,
      ⟨(some 58), .mov (.t 11), (some (56, false))⟩,
      ⟨(some 59), .call f_R24_Has [(.t 57), (.t 58)], (some (56, false))⟩,
      ⟨(some 60), .mov (.t 59), (some (56, false))⟩,
      ⟨(some 61), .mov (.t 11), (some (60, true))⟩,
      ⟨(some 62), .mov (.t 7), (some (60, true))⟩,
      ⟨(some 63), .bin .eql (.t 61) (.t 62), (some (60, true))⟩,
      ⟨(some 64), .mov (.t 63), (some (60, true))⟩,
      ⟨(some 65), .mov (.t 3), (some (64, false))⟩,
      ⟨(some 66), .mov (.t 11), (some (64, false))⟩,
      ⟨(some 67), .idx 1 (.t 65) (.t 66), (some (64, false))⟩,
      ⟨(some 68), .load false 1 (.t 67), (some (64, false))⟩,
      ⟨(some 69), .mov (.t 7), (some (64, false))⟩,
      ⟨(some 70), .call f_R24_Has [(.t 68), (.t 69)], (some (64, false))⟩,
      ⟨(some 71), .pick (.t 64) (.c (.bool true)) (.t 70), (some (60, true))⟩,
      ⟨(some 72), .pick (.t 60) (.t 71) (.c (.bool false)), (some (56, false))⟩,
      ⟨(some 73), .pick (.t 56) (.c (.bool true)) (.t 72), none⟩,
      ⟨(some 9), .mov (.t 73), none⟩] [11, 55, 56, 57, 58, 59, 60, 61, 62, 63, 64, 65, 66, 67, 68, 69, 70, 71, 72, 73])))
  (.region [
    ⟨(some 46), .mov (.t 10), none⟩,
    ⟨(some 47), .bin .add (.t 46) (.c (.int .i64 1)), none⟩,
    ⟨(some 10), .mov (.t 47), none⟩] [46, 47]))

def ac_R24_Frontier_k1 : ACode :=
  /-live [3, 4, 5, 6, 7, 8, 9]-/ .seq /-19-/
  (.region [
    ⟨(some 74), .mov (.t 9), none⟩,
    ⟨(some 75), .mov (.t 74), none⟩,
    ⟨(some 76), .mov (.t 3), (some (75, true))⟩,
    ⟨(some 77), .mov (.t 8), (some (75, true))⟩,
    ⟨(some 78), .idx 1 (.t 76) (.t 77), (some (75, true))⟩,
    ⟨(some 79), .load false 1 (.t 78), (some (75, true))⟩,
    ⟨(some 80), .mov (.t 7), (some (75, true))⟩,
    ⟨(some 81), .call f_R24_Has [(.t 79), (.t 80)], (some (75, true))⟩,
    ⟨(some 82), .un .not (.t 81), (some (75, true))⟩,
    ⟨(some 83), .pick (.t 75) (.t 82) (.c (.bool false)), none⟩] [9, 10, 74, 75, 76, 77, 78, 79, 80, 81, 82])
  (.cond (.t 83)
    (.region [
      ⟨(some 84), .mov (.t 6), none⟩,
      ⟨(some 85), .mov (.t 7), none⟩,
      ⟨(some 86), .mov (.t 6), none⟩,
      ⟨(some 87), .mov (.t 7), none⟩,
      ⟨(some 88), .idx 1 (.t 86) (.t 87), none⟩,
      ⟨(some 89), .load false 1 (.t 88), none⟩,
      ⟨(some 90), .mov (.t 8), none⟩,
      ⟨(some 91), .buildSl 1 1 [.int .i64 0] [(0, (.t 90))], none⟩,
      ⟨(some 92), .append 1 8 (.t 89) (.t 91), none⟩,
      ⟨(some 93), .idx 1 (.t 84) (.t 85), none⟩,
      ⟨none, .store 1 (.t 93) (.t 92), none⟩] [83, 84, 85, 86, 87, 88, 89, 90, 91, 92, 93])
    (.skip))

def ac_R24_Frontier_k2 : ACode :=
  /-live [3, 4, 5, 6, 7, 8]-/ .region [
    ⟨(some 37), .mov (.t 8), none⟩,
    ⟨(some 38), .bin .add (.t 37) (.c (.int .i64 1)), none⟩,
    ⟨(some 8), .mov (.t 38), none⟩] [37, 38, 83]

def ac_R24_Frontier_l3 : ACode :=
  /-live [3, 4, 5, 6, 7, 8]-/ .seq /-9-/
  (.seq /-10-/
  (.region [
    ⟨(some 28), .mov (.t 8), none⟩,
    ⟨(some 29), .mov (.t 6), none⟩,
    ⟨(some 30), .len (.t 29), none⟩,
    ⟨(some 31), .bin .lss (.t 28) (.t 30), none⟩,
    ⟨(some 32), .mov (.t 31), none⟩,
    ⟨(some 33), .mov (.t 4), (some (32, true))⟩,
    ⟨(some 34), .mov (.t 7), (some (32, true))⟩,
    ⟨(some 35), .call f_R24_Has [(.t 33), (.t 34)], (some (32, true))⟩,
    ⟨(some 36), .pick (.t 32) (.t 35) (.c (.bool false)), none⟩] [28, 29, 30, 31, 32, 33, 34, 35])
  (.cond (.t 36)
    (.skip)
    (.exit 2)))
  (.seq /-11-/
  (.block 3
    (.seq /-12-/
    (.region [
      ⟨(some 9), .mov (.c (.bool false)), none⟩] [36])
    (.seq /-13-/
    (.seq /-14-/
    (.region [
      ⟨(some 10), .mov (.c (.int .i64 0)), none⟩] [])
    (.block 4
      (.loop ac_R24_Frontier_l0)))
    (ac_R24_Frontier_k1))))
  (ac_R24_Frontier_k2))

def ac_R24_Frontier_k4 : ACode :=
  /-live [3, 4, 5, 6, 7]-/ .region [
    ⟨(some 26), .mov (.t 7), none⟩,
    ⟨(some 27), .bin .add (.t 26) (.c (.int .i64 1)), none⟩,
    ⟨(some 7), .mov (.t 27), none⟩] [8, 26, 27]

def ac_R24_Frontier_l5 : ACode :=
  /-live [3, 4, 5, 6, 7]-/ .seq /-5-/
  (.seq /-6-/
  (.region [
    ⟨(some 22), .mov (.t 7), none⟩,
    ⟨(some 23), .mov (.t 6), none⟩,
    ⟨(some 24), .len (.t 23), none⟩,
    ⟨(some 25), .bin .lss (.t 22) (.t 24), none⟩] [22, 23, 24])
  (.cond (.t 25)
    (.skip)
    (.exit 0)))
  (.seq /-7-/
  (.block 1
    (.seq /-8-/
    (.region [
      ⟨(some 8), .mov (.c (.int .i64 0)), none⟩] [25])
    (.block 2
      (.loop ac_R24_Frontier_l3))))
  (ac_R24_Frontier_k4))

def ac_R24_Frontier_k6 : ACode :=
  /-live [6]-/ .seq /-20-/
  (.region [
    ⟨(some 94), .mov (.t 6), none⟩,
    ⟨(some 2), .mov (.t 94), none⟩] [3, 4, 5, 6, 7, 94])
  (.ret)

/-- decompiler/decompilerref24.Frontier -/
def ac_R24_Frontier : ACode :=
  .seq /-0-/
  (.region [
    ⟨(some 1), .rbox (.t 0), none⟩,
    ⟨(some 2), .mknil 1, none⟩] [0, 2])
  (.seq /-1-/
  (.draw (
    .step ⟨(some 12), .load true 2 (.t 1), none⟩ (
    .step ⟨(some 13), .callq f_R24_strict [(.t 12)], none⟩ (
    .step ⟨(some 14), .load true 2 (.t 1), none⟩ (
    .step ⟨(some 15), .callq f_R24_from [(.t 14), (.c (.int .i64 0)), (.c (.int .i64 (-1)))], none⟩ (
    .step ⟨(some 16), .load true 2 (.t 1), none⟩ (
    .step ⟨(some 17), .callq f_R24_Predecessors [(.t 16)], none⟩ (
    .step ⟨(some 3), .mov (.t 13), none⟩ (
    .step ⟨(some 4), .mov (.t 15), none⟩ (
    .step ⟨(some 5), .mov (.t 17), none⟩ (
    .done)))))))))) [12, 13, 14, 15, 16, 17])
  (.seq /-2-/
  (.region [
    ⟨(some 18), .fldaddr 1 1 (.t 1), none⟩,
    ⟨(some 19), .load false 1 (.t 18), none⟩,
    ⟨(some 20), .len (.t 19), none⟩,
    ⟨(some 21), .mksl 1 24 [.nilsl] (.t 20) (.t 20), none⟩,
    ⟨(some 6), .mov (.t 21), none⟩] [1, 18, 19, 20, 21])
  (.seq /-3-/
  (.seq /-4-/
  (.region [
    ⟨(some 7), .mov (.c (.int .i64 0)), none⟩] [])
  (.block 0
    (.loop ac_R24_Frontier_l5)))
  (ac_R24_Frontier_k6))))

def rs_R24_Frontier : List ARet := [.tmp 2]

set_option maxRecDepth 100000 in
theorem cf_R24_Frontier : compF Try.prog f_R24_Frontier (qRo [1]) = some (ac_R24_Frontier.strip, rs_R24_Frontier, 95) := by kernel_rfl

def ac_R24_Predecessors_l0 : ACode :=
  /-live [1, 3, 4, 5, 6]-/ .seq /-10-/
  (.seq /-11-/
  (.region [
    ⟨(some 14), .mov (.t 6), none⟩,
    ⟨(some 15), .fldaddr 1 1 (.t 1), none⟩,
    ⟨(some 16), .load false 1 (.t 15), none⟩,
    ⟨(some 17), .len (.t 16), none⟩,
    ⟨(some 18), .bin .lss (.t 14) (.t 17), none⟩] [14, 15, 16, 17])
  (.cond (.t 18)
    (.skip)
    (.exit 2)))
  (.seq /-12-/
  (.block 3
    (.seq /-13-/
    (.region [
      ⟨(some 21), .load true 2 (.t 1), none⟩,
      ⟨(some 22), .mov (.t 6), none⟩,
      ⟨(some 23), .call f_R24_Edges [(.t 21), (.t 22)], none⟩,
      ⟨(some 24), .mov (.t 4), none⟩,
      ⟨(some 25), .call f_R24_Has [(.t 23), (.t 24)], none⟩] [18, 21, 22, 23, 24])
    (.cond (.t 25)
      (.region [
        ⟨(some 26), .mov (.t 5), none⟩,
        ⟨(some 27), .mov (.t 6), none⟩,
        ⟨(some 28), .buildSl 1 1 [.int .i64 0] [(0, (.t 27))], none⟩,
        ⟨(some 29), .append 1 8 (.t 26) (.t 28), none⟩,
        ⟨(some 5), .mov (.t 29), none⟩] [25, 26, 27, 28, 29])
      (.skip))))
  (.region [
    ⟨(some 19), .mov (.t 6), none⟩,
    ⟨(some 20), .bin .add (.t 19) (.c (.int .i64 1)), none⟩,
    ⟨(some 6), .mov (.t 20), none⟩] [19, 20, 25]))

def ac_R24_Predecessors_k1 : ACode :=
  /-live [1, 3, 4, 5]-/ .region [
    ⟨(some 30), .mov (.t 3), none⟩,
    ⟨(some 31), .mov (.t 5), none⟩,
    ⟨(some 32), .buildSl 1 1 [.nilsl] [(0, (.t 31))], none⟩,
    ⟨(some 33), .append 1 24 (.t 30) (.t 32), none⟩,
    ⟨(some 3), .mov (.t 33), none⟩] [5, 6, 30, 31, 32, 33]

def ac_R24_Predecessors_k2 : ACode :=
  /-live [1, 3, 4]-/ .region [
    ⟨(some 12), .mov (.t 4), none⟩,
    ⟨(some 13), .bin .add (.t 12) (.c (.int .i64 1)), none⟩,
    ⟨(some 4), .mov (.t 13), none⟩] [12, 13]

def ac_R24_Predecessors_l3 : ACode :=
  /-live [1, 3, 4]-/ .seq /-4-/
  (.seq /-5-/
  (.region [
    ⟨(some 7), .mov (.t 4), none⟩,
    ⟨(some 8), .fldaddr 1 1 (.t 1), none⟩,
    ⟨(some 9), .load false 1 (.t 8), none⟩,
    ⟨(some 10), .len (.t 9), none⟩,
    ⟨(some 11), .bin .lss (.t 7) (.t 10), none⟩] [7, 8, 9, 10])
  (.cond (.t 11)
    (.skip)
    (.exit 0)))
  (.seq /-6-/
  (.block 1
    (.seq /-7-/
    (.region [
      ⟨(some 5), .mknil 1, none⟩] [11])
    (.seq /-8-/
    (.seq /-9-/
    (.region [
      ⟨(some 6), .mov (.c (.int .i64 0)), none⟩] [])
    (.block 2
      (.loop ac_R24_Predecessors_l0)))
    (ac_R24_Predecessors_k1))))
  (ac_R24_Predecessors_k2))

def ac_R24_Predecessors_k4 : ACode :=
  /-live [3]-/ .seq /-14-/
  (.region [
    ⟨(some 34), .mov (.t 3), none⟩,
    ⟨(some 2), .mov (.t 34), none⟩] [1, 3, 4, 34])
  (.ret)

/-- decompiler/decompilerref24.Predecessors -/
def ac_R24_Predecessors : ACode :=
  .seq /-0-/
  (.region [
    ⟨(some 1), .rbox (.t 0), none⟩,
    ⟨(some 2), .mknil 1, none⟩] [0, 2])
  (.seq /-1-/
  (.region [
    ⟨(some 3), .mknil 1, none⟩] [])
  (.seq /-2-/
  (.seq /-3-/
  (.region [
    ⟨(some 4), .mov (.c (.int .i64 0)), none⟩] [])
  (.block 0
    (.loop ac_R24_Predecessors_l3)))
  (ac_R24_Predecessors_k4)))

def rs_R24_Predecessors : List ARet := [.tmp 2]

set_option maxRecDepth 100000 in
theorem cf_R24_Predecessors : compF Try.prog f_R24_Predecessors (qRo [1]) = some (ac_R24_Predecessors.strip, rs_R24_Predecessors, 35) := by kernel_rfl

def ac_R24_PostTree_l0 : ACode :=
  /-live [1, 3, 4, 5]-/ .seq /-8-/
  (.seq /-9-/
  (.draw (
    .step ⟨(some 18), .mov (.t 5), none⟩ (
    .step ⟨(some 19), .mov (.t 3), none⟩ (
    .step ⟨(some 20), .len (.t 19), none⟩ (
    .step ⟨(some 21), .bin .lss (.t 18) (.t 20), none⟩ (
    .step ⟨(some 22), .mov (.t 21), none⟩ (
    .step ⟨(some 23), .load true 2 (.t 1), (some (22, true))⟩ (
    .step ⟨(some 24), .load true 2 (.t 1), (some (22, true))⟩ (
    .step ⟨(some 25), .mov (.t 4), (some (22, true))⟩ (
    .step ⟨(some 26), .callq f_R24_from [(.t 24), (.t 25), (.c (.int .i64 (-1)))], (some (22, true))⟩ (
    .step ⟨(some 27), .callq f_R24_leaves [(.t 23), (.t 26)], (some (22, true))⟩ (
    .step ⟨(some 28), .pick (.t 22) (.t 27) (.c (.bool false)), none⟩ (
    .done)))))))))))) [18, 19, 20, 21, 22, 23, 24, 25, 26, 27])
  (.cond (.t 28)
    (.skip)
    (.exit 2)))
  (.seq /-10-/
  (.block 3
    (.seq /-11-/
    (.draw (
      .step ⟨(some 31), .mov (.t 5), none⟩ (
      .step ⟨(some 32), .mov (.t 4), none⟩ (
      .step ⟨(some 33), .bin .neq (.t 31) (.t 32), none⟩ (
      .step ⟨(some 34), .mov (.t 33), none⟩ (
      .step ⟨(some 35), .load true 2 (.t 1), (some (34, true))⟩ (
      .step ⟨(some 36), .load true 2 (.t 1), (some (34, true))⟩ (
      .step ⟨(some 37), .mov (.t 4), (some (34, true))⟩ (
      .step ⟨(some 38), .mov (.t 5), (some (34, true))⟩ (
      .step ⟨(some 39), .callq f_R24_from [(.t 36), (.t 37), (.t 38)], (some (34, true))⟩ (
      .step ⟨(some 40), .callq f_R24_leaves [(.t 35), (.t 39)], (some (34, true))⟩ (
      .step ⟨(some 41), .un .not (.t 40), (some (34, true))⟩ (
      .step ⟨(some 42), .pick (.t 34) (.t 41) (.c (.bool false)), none⟩ (
      .done))))))))))))) [28, 31, 32, 33, 34, 35, 36, 37, 38, 39, 40, 41])
    (.cond (.t 42)
      (.region [
        ⟨(some 43), .mov (.t 3), none⟩,
        ⟨(some 44), .mov (.t 4), none⟩,
        ⟨(some 45), .mov (.t 3), none⟩,
        ⟨(some 46), .mov (.t 4), none⟩,
        ⟨(some 47), .idx 1 (.t 45) (.t 46), none⟩,
        ⟨(some 48), .load false 1 (.t 47), none⟩,
        ⟨(some 49), .mov (.t 5), none⟩,
        ⟨(some 50), .buildSl 1 1 [.int .i64 0] [(0, (.t 49))], none⟩,
        ⟨(some 51), .append 1 8 (.t 48) (.t 50), none⟩,
        ⟨(some 52), .idx 1 (.t 43) (.t 44), none⟩,
        ⟨none, .store 1 (.t 52) (.t 51), none⟩] [42, 43, 44, 45, 46, 47, 48, 49, 50, 51, 52])
      (.skip))))
  (.region [
    ⟨(some 29), .mov (.t 5), none⟩,
    ⟨(some 30), .bin .add (.t 29) (.c (.int .i64 1)), none⟩,
    ⟨(some 5), .mov (.t 30), none⟩] [29, 30, 42]))

def ac_R24_PostTree_k1 : ACode :=
  /-live [1, 3, 4]-/ .region [
    ⟨(some 16), .mov (.t 4), none⟩,
    ⟨(some 17), .bin .add (.t 16) (.c (.int .i64 1)), none⟩,
    ⟨(some 4), .mov (.t 17), none⟩] [5, 16, 17]

def ac_R24_PostTree_l2 : ACode :=
  /-live [1, 3, 4]-/ .seq /-4-/
  (.seq /-5-/
  (.region [
    ⟨(some 12), .mov (.t 4), none⟩,
    ⟨(some 13), .mov (.t 3), none⟩,
    ⟨(some 14), .len (.t 13), none⟩,
    ⟨(some 15), .bin .lss (.t 12) (.t 14), none⟩] [12, 13, 14])
  (.cond (.t 15)
    (.skip)
    (.exit 0)))
  (.seq /-6-/
  (.block 1
    (.seq /-7-/
    (.region [
      ⟨(some 5), .mov (.c (.int .i64 0)), none⟩] [15])
    (.block 2
      (.loop ac_R24_PostTree_l0))))
  (ac_R24_PostTree_k1))

def ac_R24_PostTree_l3 : ACode :=
  /-live [3, 6, 7]-/ .seq /-15-/
  (.seq /-16-/
  (.region [
    ⟨(some 53), .mov (.t 7), none⟩,
    ⟨(some 54), .mov (.t 3), none⟩,
    ⟨(some 55), .len (.t 54), none⟩,
    ⟨(some 56), .bin .lss (.t 53) (.t 55), none⟩] [53, 54, 55])
  (.cond (.t 56)
    (.skip)
    (.exit 4)))
  (.seq /-17-/
  (.block 5
    (.region [
      ⟨(some 59), .mov (.t 6), none⟩,
      ⟨(some 60), .mov (.t 3), none⟩,
      ⟨(some 61), .mov (.t 7), none⟩,
      ⟨(some 62), .call f_R24_nearest [(.t 60), (.t 61)], none⟩,
      ⟨(some 63), .buildSl 1 1 [.int .i64 0] [(0, (.t 62))], none⟩,
      ⟨(some 64), .append 1 8 (.t 59) (.t 63), none⟩,
      ⟨(some 6), .mov (.t 64), none⟩] [56, 59, 60, 61, 62, 63, 64]))
  (.region [
    ⟨(some 57), .mov (.t 7), none⟩,
    ⟨(some 58), .bin .add (.t 57) (.c (.int .i64 1)), none⟩,
    ⟨(some 7), .mov (.t 58), none⟩] [57, 58]))

def ac_R24_PostTree_k4 : ACode :=
  /-live [6]-/ .seq /-18-/
  (.region [
    ⟨(some 65), .mov (.t 6), none⟩,
    ⟨(some 2), .mov (.t 65), none⟩] [3, 6, 7, 65])
  (.ret)

def ac_R24_PostTree_k5 : ACode :=
  /-live [3]-/ .seq /-12-/
  (.region [
    ⟨(some 6), .mknil 1, none⟩] [1, 4])
  (.seq /-13-/
  (.seq /-14-/
  (.region [
    ⟨(some 7), .mov (.c (.int .i64 0)), none⟩] [])
  (.block 4
    (.loop ac_R24_PostTree_l3)))
  (ac_R24_PostTree_k4))

/-- decompiler/decompilerref24.PostTree -/
def ac_R24_PostTree : ACode :=
  .seq /-0-/
  (.region [
    ⟨(some 1), .rbox (.t 0), none⟩,
    ⟨(some 2), .mknil 1, none⟩] [0, 2])
  (.seq /-1-/
  (.region [
    ⟨(some 8), .fldaddr 1 1 (.t 1), none⟩,
    ⟨(some 9), .load false 1 (.t 8), none⟩,
    ⟨(some 10), .len (.t 9), none⟩,
    ⟨(some 11), .mksl 1 24 [.nilsl] (.t 10) (.t 10), none⟩,
    ⟨(some 3), .mov (.t 11), none⟩] [8, 9, 10, 11])
  (.seq /-2-/
  (.seq /-3-/
  (.region [
    ⟨(some 4), .mov (.c (.int .i64 0)), none⟩] [])
  (.block 0
    (.loop ac_R24_PostTree_l2)))
  (ac_R24_PostTree_k5)))

def rs_R24_PostTree : List ARet := [.tmp 2]

set_option maxRecDepth 100000 in
theorem cf_R24_PostTree : compF Try.prog f_R24_PostTree (qRo [1]) = some (ac_R24_PostTree.strip, rs_R24_PostTree, 66) := by kernel_rfl

def ac_R24_Dominates_l0 : ACode :=
  /-live [0, 1, 2, 7]-/ .seq /-6-/
  (.seq /-7-/
  (.region [
    ⟨(some 16), .mov (.t 7), none⟩,
    ⟨(some 17), .mov (.t 0), none⟩,
    ⟨(some 18), .len (.t 17), none⟩,
    ⟨(some 19), .bin .leq (.t 16) (.t 18), none⟩,
    ⟨(some 20), .mov (.t 19), none⟩,
    ⟨(some 21), .mov (.t 2), (some (20, true))⟩,
    ⟨(some 22), .bin .geq (.t 21) (.c (.int .i64 0)), (some (20, true))⟩,
    ⟨(some 23), .pick (.t 20) (.t 22) (.c (.bool false)), none⟩,
    ⟨(some 24), .mov (.t 23), none⟩,
    ⟨(some 25), .mov (.t 2), (some (24, true))⟩,
    ⟨(some 26), .mov (.t 0), (some (24, true))⟩,
    ⟨(some 27), .len (.t 26), (some (24, true))⟩,
    ⟨(some 28), .bin .lss (.t 25) (.t 27), (some (24, true))⟩,
    ⟨(some 29), .pick (.t 24) (.t 28) (.c (.bool false)), none⟩] [16, 17, 18, 19, 20, 21, 22, 23, 24, 25, 26, 27, 28])
  (.cond (.t 29)
    (.skip)
    (.exit 0)))
  (.seq /-8-/
  (.block 1
    (.seq /-9-/
    (.seq /-10-/
    (.region [
      ⟨(some 32), .mov (.t 1), none⟩,
      ⟨(some 33), .mov (.t 2), none⟩,
      ⟨(some 34), .bin .eql (.t 32) (.t 33), none⟩] [29, 32, 33])
    (.cond (.t 34)
      (.seq /-11-/
      (.region [
        ⟨(some 6), .mov (.c (.bool true)), none⟩] [0, 1, 2, 7, 34])
      (.ret))
      (.skip)))
    (.region [
      ⟨(some 35), .mov (.t 0), none⟩,
      ⟨(some 36), .mov (.t 2), none⟩,
      ⟨(some 37), .idx 1 (.t 35) (.t 36), none⟩,
      ⟨(some 38), .load false 1 (.t 37), none⟩,
      ⟨(some 2), .mov (.t 38), none⟩] [6, 34, 35, 36, 37, 38])))
  (.region [
    ⟨(some 30), .mov (.t 7), none⟩,
    ⟨(some 31), .bin .add (.t 30) (.c (.int .i64 1)), none⟩,
    ⟨(some 7), .mov (.t 31), none⟩] [30, 31]))

def ac_R24_Dominates_k1 : ACode :=
  /-live []-/ .seq /-12-/
  (.region [
    ⟨(some 6), .mov (.c (.bool false)), none⟩] [0, 1, 2, 7])
  (.ret)

/-- decompiler/decompilerref24.Dominates -/
def ac_R24_Dominates : ACode :=
  .seq /-0-/
  (.region [
    ⟨(some 6), .mov (.c (.bool false)), none⟩] [6])
  (.seq /-1-/
  (.seq /-2-/
  (.region [
    ⟨(some 8), .mov (.t 1), none⟩,
    ⟨(some 9), .bin .lss (.t 8) (.c (.int .i64 0)), none⟩,
    ⟨(some 10), .mov (.t 9), none⟩,
    ⟨(some 11), .mov (.t 1), (some (10, false))⟩,
    ⟨(some 12), .mov (.t 0), (some (10, false))⟩,
    ⟨(some 13), .len (.t 12), (some (10, false))⟩,
    ⟨(some 14), .bin .geq (.t 11) (.t 13), (some (10, false))⟩,
    ⟨(some 15), .pick (.t 10) (.c (.bool true)) (.t 14), none⟩] [8, 9, 10, 11, 12, 13, 14])
  (.cond (.t 15)
    (.seq /-3-/
    (.region [
      ⟨(some 6), .mov (.c (.bool false)), none⟩] [0, 1, 2, 15])
    (.ret))
    (.skip)))
  (.seq /-4-/
  (.seq /-5-/
  (.region [
    ⟨(some 7), .mov (.c (.int .i64 0)), none⟩] [6, 15])
  (.block 0
    (.loop ac_R24_Dominates_l0)))
  (ac_R24_Dominates_k1)))

def rs_R24_Dominates : List ARet := [.tmp 6]

set_option maxRecDepth 100000 in
theorem cf_R24_Dominates : compF Try.prog f_R24_Dominates (qRo []) = some (ac_R24_Dominates.strip, rs_R24_Dominates, 39) := by kernel_rfl


/-- decompiler/decompilerref24.targets -/
def ac_R24_targets : ACode :=
  .seq /-0-/
  (.region [
    ⟨(some 1), .rbox (.t 0), none⟩,
    ⟨(some 2), .mknil 1, none⟩] [0, 2])
  (.seq /-1-/
  (.seq /-2-/
  (.region [
    ⟨(some 4), .fldaddr 1 1 (.t 1), none⟩,
    ⟨(some 5), .load false 1 (.t 4), none⟩,
    ⟨(some 6), .len (.t 5), none⟩,
    ⟨(some 7), .bin .eql (.t 6) (.c (.int .i64 0)), none⟩] [4, 5, 6])
  (.cond (.t 7)
    (.seq /-3-/
    (.region [
      ⟨(some 2), .mknil 1, none⟩] [1, 7])
    (.ret))
    (.skip)))
  (.seq /-4-/
  (.region [
    ⟨(some 8), .fldaddr 1 1 (.t 1), none⟩,
    ⟨(some 9), .load false 1 (.t 8), none⟩,
    ⟨(some 10), .fldaddr 1 1 (.t 1), none⟩,
    ⟨(some 11), .load false 1 (.t 10), none⟩,
    ⟨(some 12), .len (.t 11), none⟩,
    ⟨(some 13), .bin .sub (.t 12) (.c (.int .i64 1)), none⟩,
    ⟨(some 14), .idx 8 (.t 9) (.t 13), none⟩,
    ⟨(some 15), .load true 8 (.t 14), none⟩,
    ⟨(some 3), .alloc [.int .i64 0, .int .i64 0, .int .i64 0, .int .i64 0, .int .i64 0, .int .u32 0, .nilsl, .nilsl], none⟩,
    ⟨none, .store 8 (.t 3) (.t 15), none⟩] [1, 2, 7, 8, 9, 10, 11, 12, 13, 14, 15])
  (.seq /-5-/
  (.seq /-6-/
  (.region [
    ⟨(some 16), .fldaddr 0 1 (.t 3), none⟩,
    ⟨(some 17), .load false 1 (.t 16), none⟩] [16])
  (.block 0
    (.seq /-7-/
    (.region [
      ⟨(some 19), .bin .eql (.t 17) (.c (.int .i64 6)), none⟩,
      ⟨(some 18), .mov (.t 19), none⟩] [19])
    (.cond (.t 18)
      (.seq /-8-/
      (.region [
        ⟨(some 20), .fldaddr 3 1 (.t 3), none⟩,
        ⟨(some 21), .load false 1 (.t 20), none⟩,
        ⟨(some 22), .buildSl 1 1 [.int .i64 0] [(0, (.t 21))], none⟩,
        ⟨(some 2), .mov (.t 22), none⟩] [3, 17, 18, 20, 21, 22])
      (.ret))
      (.seq /-9-/
      (.region [
        ⟨(some 24), .bin .eql (.t 17) (.c (.int .i64 7)), none⟩,
        ⟨(some 23), .mov (.t 24), none⟩] [18, 24])
      (.cond (.t 23)
        (.seq /-10-/
        (.region [
          ⟨(some 25), .fldaddr 3 1 (.t 3), none⟩,
          ⟨(some 26), .load false 1 (.t 25), none⟩,
          ⟨(some 27), .fldaddr 4 1 (.t 3), none⟩,
          ⟨(some 28), .load false 1 (.t 27), none⟩,
          ⟨(some 29), .buildSl 1 2 [.int .i64 0] [(0, (.t 26)), (1, (.t 28))], none⟩,
          ⟨(some 2), .mov (.t 29), none⟩] [3, 17, 23, 25, 26, 27, 28, 29])
        (.ret))
        (.seq /-11-/
        (.region [
          ⟨(some 31), .bin .eql (.t 17) (.c (.int .i64 8)), none⟩,
          ⟨(some 30), .mov (.t 31), none⟩] [17, 23, 31])
        (.cond (.t 30)
          (.seq /-12-/
          (.region [
            ⟨(some 32), .fldaddr 7 1 (.t 3), none⟩,
            ⟨(some 33), .load false 1 (.t 32), none⟩,
            ⟨(some 2), .mov (.t 33), none⟩] [3, 30, 32, 33])
          (.ret))
          (.skip)))))))))
  (.seq /-13-/
  (.region [
    ⟨(some 2), .mknil 1, none⟩] [3, 30])
  (.ret)))))

def rs_R24_targets : List ARet := [.tmp 2]

set_option maxRecDepth 100000 in
theorem cf_R24_targets : compF Try.prog f_R24_targets (qRo [1]) = some (ac_R24_targets.strip, rs_R24_targets, 34) := by kernel_rfl

def ac_R24_strict_l0 : ACode :=
  /-live [1, 3, 4, 5, 6, 7]-/ .seq /-12-/
  (.seq /-13-/
  (.region [
    ⟨(some 29), .mov (.t 7), none⟩,
    ⟨(some 30), .mov (.t 4), none⟩,
    ⟨(some 31), .len (.t 30), none⟩,
    ⟨(some 32), .bin .lss (.t 29) (.t 31), none⟩] [29, 30, 31])
  (.cond (.t 32)
    (.skip)
    (.exit 2)))
  (.seq /-14-/
  (.block 3
    (.seq /-15-/
    (.region [
      ⟨(some 35), .mov (.t 4), none⟩,
      ⟨(some 36), .mov (.t 7), none⟩,
      ⟨(some 37), .idx 1 (.t 35) (.t 36), none⟩,
      ⟨(some 38), .load false 1 (.t 37), none⟩,
      ⟨(some 8), .mov (.t 38), none⟩] [32, 35, 36, 37, 38])
    (.seq /-16-/
    (.region [
      ⟨(some 39), .mov (.t 8), none⟩,
      ⟨(some 40), .mov (.t 5), none⟩,
      ⟨(some 41), .bin .neq (.t 39) (.t 40), none⟩,
      ⟨(some 42), .mov (.t 41), none⟩,
      ⟨(some 43), .mov (.t 6), (some (42, true))⟩,
      ⟨(some 44), .mov (.t 8), (some (42, true))⟩,
      ⟨(some 45), .call f_R24_Has [(.t 43), (.t 44)], (some (42, true))⟩,
      ⟨(some 46), .un .not (.t 45), (some (42, true))⟩,
      ⟨(some 47), .pick (.t 42) (.t 46) (.c (.bool false)), none⟩] [39, 40, 41, 42, 43, 44, 45, 46])
    (.cond (.t 47)
      (.region [
        ⟨(some 48), .mov (.t 3), none⟩,
        ⟨(some 49), .mov (.t 8), none⟩,
        ⟨(some 50), .mov (.t 3), none⟩,
        ⟨(some 51), .mov (.t 8), none⟩,
        ⟨(some 52), .idx 1 (.t 50) (.t 51), none⟩,
        ⟨(some 53), .load false 1 (.t 52), none⟩,
        ⟨(some 54), .mov (.t 5), none⟩,
        ⟨(some 55), .buildSl 1 1 [.int .i64 0] [(0, (.t 54))], none⟩,
        ⟨(some 56), .append 1 8 (.t 53) (.t 55), none⟩,
        ⟨(some 57), .idx 1 (.t 48) (.t 49), none⟩,
        ⟨none, .store 1 (.t 57) (.t 56), none⟩] [8, 47, 48, 49, 50, 51, 52, 53, 54, 55, 56, 57])
      (.skip)))))
  (.region [
    ⟨(some 33), .mov (.t 7), none⟩,
    ⟨(some 34), .bin .add (.t 33) (.c (.int .i64 1)), none⟩,
    ⟨(some 7), .mov (.t 34), none⟩] [8, 33, 34, 47]))

def ac_R24_strict_k1 : ACode :=
  /-live [1, 3, 4, 5]-/ .region [
    ⟨(some 20), .mov (.t 5), none⟩,
    ⟨(some 21), .bin .add (.t 20) (.c (.int .i64 1)), none⟩,
    ⟨(some 5), .mov (.t 21), none⟩] [6, 7, 20, 21]

def ac_R24_strict_l2 : ACode :=
  /-live [1, 3, 4, 5]-/ .seq /-5-/
  (.seq /-6-/
  (.region [
    ⟨(some 15), .mov (.t 5), none⟩,
    ⟨(some 16), .fldaddr 1 1 (.t 1), none⟩,
    ⟨(some 17), .load false 1 (.t 16), none⟩,
    ⟨(some 18), .len (.t 17), none⟩,
    ⟨(some 19), .bin .lss (.t 15) (.t 18), none⟩] [15, 16, 17, 18])
  (.cond (.t 19)
    (.skip)
    (.exit 0)))
  (.seq /-7-/
  (.block 1
    (.seq /-8-/
    (.seq /-9-/
    (.region [
      ⟨(some 22), .mov (.t 4), none⟩,
      ⟨(some 23), .mov (.t 5), none⟩,
      ⟨(some 24), .call f_R24_Has [(.t 22), (.t 23)], none⟩,
      ⟨(some 25), .un .not (.t 24), none⟩] [19, 22, 23, 24])
    (.cond (.t 25)
      (.exit 1)
      (.skip)))
    (.seq /-10-/
    (.region [
      ⟨(some 26), .load true 2 (.t 1), none⟩,
      ⟨(some 27), .mov (.t 5), none⟩,
      ⟨(some 28), .call f_R24_from [(.t 26), (.c (.int .i64 0)), (.t 27)], none⟩,
      ⟨(some 6), .mov (.t 28), none⟩] [25, 26, 27, 28])
    (.seq /-11-/
    (.region [
      ⟨(some 7), .mov (.c (.int .i64 0)), none⟩] [])
    (.block 2
      (.loop ac_R24_strict_l0))))))
  (ac_R24_strict_k1))

def ac_R24_strict_k3 : ACode :=
  /-live [3]-/ .seq /-17-/
  (.region [
    ⟨(some 58), .mov (.t 3), none⟩,
    ⟨(some 2), .mov (.t 58), none⟩] [1, 3, 4, 5, 58])
  (.ret)

/-- decompiler/decompilerref24.strict -/
def ac_R24_strict : ACode :=
  .seq /-0-/
  (.region [
    ⟨(some 1), .rbox (.t 0), none⟩,
    ⟨(some 2), .mknil 1, none⟩] [0, 2])
  (.seq /-1-/
  (.region [
    ⟨(some 9), .fldaddr 1 1 (.t 1), none⟩,
    ⟨(some 10), .load false 1 (.t 9), none⟩,
    ⟨(some 11), .len (.t 10), none⟩,
    ⟨(some 12), .mksl 1 24 [.nilsl] (.t 11) (.t 11), none⟩,
    ⟨(some 3), .mov (.t 12), none⟩] [9, 10, 11, 12])
  (.seq /-2-/
  (.region [
    ⟨(some 13), .load true 2 (.t 1), none⟩,
    ⟨(some 14), .call f_R24_from [(.t 13), (.c (.int .i64 0)), (.c (.int .i64 (-1)))], none⟩,
    ⟨(some 4), .mov (.t 14), none⟩] [13, 14])
  (.seq /-3-/
  (.seq /-4-/
  (.region [
    ⟨(some 5), .mov (.c (.int .i64 0)), none⟩] [])
  (.block 0
    (.loop ac_R24_strict_l2)))
  (ac_R24_strict_k3))))

def rs_R24_strict : List ARet := [.tmp 2]

set_option maxRecDepth 100000 in
theorem cf_R24_strict : compF Try.prog f_R24_strict (qRo [1]) = some (ac_R24_strict.strip, rs_R24_strict, 59) := by kernel_rfl

def ac_R24_nearest_l0 : ACode :=
  /-live [0, 1, 5, 6]-/ .seq /-4-/
  (.seq /-5-/
  (.region [
    ⟨(some 8), .mov (.t 6), none⟩,
    ⟨(some 9), .mov (.t 0), none⟩,
    ⟨(some 10), .mov (.t 1), none⟩,
    ⟨(some 11), .idx 1 (.t 9) (.t 10), none⟩,
    ⟨(some 12), .load false 1 (.t 11), none⟩,
    ⟨(some 13), .len (.t 12), none⟩,
    ⟨(some 14), .bin .lss (.t 8) (.t 13), none⟩] [8, 9, 10, 11, 12, 13])
  (.cond (.t 14)
    (.skip)
    (.exit 0)))
  (.seq /-6-/
  (.block 1
    (.seq /-7-/
    (.region [
      ⟨(some 17), .mov (.t 0), none⟩,
      ⟨(some 18), .mov (.t 1), none⟩,
      ⟨(some 19), .idx 1 (.t 17) (.t 18), none⟩,
      ⟨(some 20), .load false 1 (.t 19), none⟩,
      ⟨(some 21), .mov (.t 6), none⟩,
      ⟨(some 22), .idx 1 (.t 20) (.t 21), none⟩,
      ⟨(some 23), .load false 1 (.t 22), none⟩,
      ⟨(some 7), .mov (.t 23), none⟩] [14, 17, 18, 19, 20, 21, 22, 23])
    (.seq /-8-/
    (.draw (
      .step ⟨(some 24), .mov (.t 5), none⟩ (
      .step ⟨(some 25), .bin .lss (.t 24) (.c (.int .i64 0)), none⟩ (
      .step ⟨(some 26), .mov (.t 25), none⟩ (
      .step ⟨(some 27), .mov (.t 0), (some (26, false))⟩ (
      .step ⟨(some 28), .mov (.t 7), (some (26, false))⟩ (
      .step ⟨(some 29), .idx 1 (.t 27) (.t 28), (some (26, false))⟩ (
      .step ⟨(some 30), .load false 1 (.t 29), (some (26, false))⟩ (
      .step ⟨(some 31), .len (.t 30), (some (26, false))⟩ (
      .step ⟨(some 32), .mov (.t 0), (some (26, false))⟩ (
      .step ⟨(some 33), .mov (.t 5), (some (26, false))⟩ (
      .step ⟨(some 34), .idx 1 (.t 32) (.t 33), (some (26, false))⟩ (
      .step ⟨(some 35), .load false 1 (.t 34), (some (26, false))⟩ (
      .step ⟨(some 36), .len (.t 35), (some (26, false))⟩ (
      .step ⟨(some 37), .bin .gtr (.t 31) (.t 36), (some (26, false))⟩ (
      .step ⟨(some 38), .pick (.t 26) (.c (.bool true)) (.t 37), none⟩ (
      .done)))))))))))))))) [24, 25, 26, 27, 28, 29, 30, 31, 32, 33, 34, 35, 36, 37])
    (.cond (.t 38)
      (.region [
        ⟨(some 39), .mov (.t 7), none⟩,
        ⟨(some 5), .mov (.t 39), none⟩] [7, 38, 39])
      (.skip)))))
  (.region [
    ⟨(some 15), .mov (.t 6), none⟩,
    ⟨(some 16), .bin .add (.t 15) (.c (.int .i64 1)), none⟩,
    ⟨(some 6), .mov (.t 16), none⟩] [7, 15, 16, 38]))

def ac_R24_nearest_k1 : ACode :=
  /-live [5]-/ .seq /-9-/
  (.region [
    ⟨(some 40), .mov (.t 5), none⟩,
    ⟨(some 4), .mov (.t 40), none⟩] [0, 1, 5, 6, 40])
  (.ret)

/-- decompiler/decompilerref24.nearest -/
def ac_R24_nearest : ACode :=
  .seq /-0-/
  (.region [
    ⟨(some 4), .mov (.c (.int .i64 0)), none⟩] [4])
  (.seq /-1-/
  (.region [
    ⟨(some 5), .mov (.c (.int .i64 (-1))), none⟩] [])
  (.seq /-2-/
  (.seq /-3-/
  (.region [
    ⟨(some 6), .mov (.c (.int .i64 0)), none⟩] [])
  (.block 0
    (.loop ac_R24_nearest_l0)))
  (ac_R24_nearest_k1)))

def rs_R24_nearest : List ARet := [.tmp 4]

set_option maxRecDepth 100000 in
theorem cf_R24_nearest : compF Try.prog f_R24_nearest (qRo []) = some (ac_R24_nearest.strip, rs_R24_nearest, 41) := by kernel_rfl

def ac_R24_from_l0 : ACode :=
  /-live [2, 3, 7, 8, 9, 10]-/ .seq /-13-/
  (.seq /-14-/
  (.region [
    ⟨(some 42), .mov (.t 10), none⟩,
    ⟨(some 43), .mov (.t 9), none⟩,
    ⟨(some 44), .len (.t 43), none⟩,
    ⟨(some 45), .bin .lss (.t 42) (.t 44), none⟩] [42, 43, 44])
  (.cond (.t 45)
    (.skip)
    (.exit 2)))
  (.seq /-15-/
  (.block 3
    (.seq /-16-/
    (.region [
      ⟨(some 48), .mov (.t 9), none⟩,
      ⟨(some 49), .mov (.t 10), none⟩,
      ⟨(some 50), .idx 1 (.t 48) (.t 49), none⟩,
      ⟨(some 51), .load false 1 (.t 50), none⟩,
      ⟨(some 52), .mov (.t 2), none⟩,
      ⟨(some 53), .bin .neq (.t 51) (.t 52), none⟩,
      ⟨(some 54), .mov (.t 53), none⟩,
      ⟨(some 55), .mov (.t 7), (some (54, true))⟩,
      ⟨(some 56), .mov (.t 9), (some (54, true))⟩,
      ⟨(some 57), .mov (.t 10), (some (54, true))⟩,
      ⟨(some 58), .idx 1 (.t 56) (.t 57), (some (54, true))⟩,
      ⟨(some 59), .load false 1 (.t 58), (some (54, true))⟩,
      ⟨(some 60), .call f_R24_Has [(.t 55), (.t 59)], (some (54, true))⟩,
      ⟨(some 61), .un .not (.t 60), (some (54, true))⟩,
      ⟨(some 62), .pick (.t 54) (.t 61) (.c (.bool false)), none⟩] [45, 48, 49, 50, 51, 52, 53, 54, 55, 56, 57, 58, 59, 60, 61])
    (.cond (.t 62)
      (.region [
        ⟨(some 63), .mov (.t 7), none⟩,
        ⟨(some 64), .mov (.t 9), none⟩,
        ⟨(some 65), .mov (.t 10), none⟩,
        ⟨(some 66), .idx 1 (.t 64) (.t 65), none⟩,
        ⟨(some 67), .load false 1 (.t 66), none⟩,
        ⟨(some 68), .buildSl 1 1 [.int .i64 0] [(0, (.t 67))], none⟩,
        ⟨(some 69), .append 1 8 (.t 63) (.t 68), none⟩,
        ⟨(some 7), .mov (.t 69), none⟩] [62, 63, 64, 65, 66, 67, 68, 69])
      (.skip))))
  (.region [
    ⟨(some 46), .mov (.t 10), none⟩,
    ⟨(some 47), .bin .add (.t 46) (.c (.int .i64 1)), none⟩,
    ⟨(some 10), .mov (.t 47), none⟩] [46, 47, 62]))

def ac_R24_from_k1 : ACode :=
  /-live [2, 3, 7, 8]-/ .region [
    ⟨(some 34), .mov (.t 8), none⟩,
    ⟨(some 35), .bin .add (.t 34) (.c (.int .i64 1)), none⟩,
    ⟨(some 8), .mov (.t 35), none⟩] [9, 10, 34, 35]

def ac_R24_from_l2 : ACode :=
  /-live [2, 3, 7, 8]-/ .seq /-8-/
  (.seq /-9-/
  (.region [
    ⟨(some 30), .mov (.t 8), none⟩,
    ⟨(some 31), .mov (.t 7), none⟩,
    ⟨(some 32), .len (.t 31), none⟩,
    ⟨(some 33), .bin .lss (.t 30) (.t 32), none⟩] [30, 31, 32])
  (.cond (.t 33)
    (.skip)
    (.exit 0)))
  (.seq /-10-/
  (.block 1
    (.seq /-11-/
    (.draw (
      .step ⟨(some 36), .load true 2 (.t 3), none⟩ (
      .step ⟨(some 37), .mov (.t 7), none⟩ (
      .step ⟨(some 38), .mov (.t 8), none⟩ (
      .step ⟨(some 39), .idx 1 (.t 37) (.t 38), none⟩ (
      .step ⟨(some 40), .load false 1 (.t 39), none⟩ (
      .step ⟨(some 41), .callq f_R24_Edges [(.t 36), (.t 40)], none⟩ (
      .step ⟨(some 9), .mov (.t 41), none⟩ (
      .done)))))))) [33, 36, 37, 38, 39, 40, 41])
    (.seq /-12-/
    (.region [
      ⟨(some 10), .mov (.c (.int .i64 0)), none⟩] [])
    (.block 2
      (.loop ac_R24_from_l0)))))
  (ac_R24_from_k1))

def ac_R24_from_k3 : ACode :=
  /-live [7]-/ .seq /-17-/
  (.region [
    ⟨(some 70), .mov (.t 7), none⟩,
    ⟨(some 6), .mov (.t 70), none⟩] [2, 3, 7, 8, 70])
  (.ret)

/-- decompiler/decompilerref24.from -/
def ac_R24_from : ACode :=
  .seq /-0-/
  (.region [
    ⟨(some 3), .rbox (.t 0), none⟩,
    ⟨(some 6), .mknil 1, none⟩] [0, 6])
  (.seq /-1-/
  (.region [
    ⟨(some 7), .mknil 1, none⟩] [])
  (.seq /-2-/
  (.seq /-3-/
  (.region [
    ⟨(some 11), .mov (.t 1), none⟩,
    ⟨(some 12), .mov (.t 2), none⟩,
    ⟨(some 13), .bin .eql (.t 11) (.t 12), none⟩,
    ⟨(some 14), .mov (.t 13), none⟩,
    ⟨(some 15), .mov (.t 1), (some (14, false))⟩,
    ⟨(some 16), .bin .lss (.t 15) (.c (.int .i64 0)), (some (14, false))⟩,
    ⟨(some 17), .pick (.t 14) (.c (.bool true)) (.t 16), none⟩,
    ⟨(some 18), .mov (.t 17), none⟩,
    ⟨(some 19), .mov (.t 1), (some (18, false))⟩,
    ⟨(some 20), .fldaddr 1 1 (.t 3), (some (18, false))⟩,
    ⟨(some 21), .load false 1 (.t 20), (some (18, false))⟩,
    ⟨(some 22), .len (.t 21), (some (18, false))⟩,
    ⟨(some 23), .bin .geq (.t 19) (.t 22), (some (18, false))⟩,
    ⟨(some 24), .pick (.t 18) (.c (.bool true)) (.t 23), none⟩] [11, 12, 13, 14, 15, 16, 17, 18, 19, 20, 21, 22, 23])
  (.cond (.t 24)
    (.seq /-4-/
    (.region [
      ⟨(some 25), .mov (.t 7), none⟩,
      ⟨(some 6), .mov (.t 25), none⟩] [1, 2, 3, 7, 24, 25])
    (.ret))
    (.skip)))
  (.seq /-5-/
  (.region [
    ⟨(some 26), .mov (.t 7), none⟩,
    ⟨(some 27), .mov (.t 1), none⟩,
    ⟨(some 28), .buildSl 1 1 [.int .i64 0] [(0, (.t 27))], none⟩,
    ⟨(some 29), .append 1 8 (.t 26) (.t 28), none⟩,
    ⟨(some 7), .mov (.t 29), none⟩] [1, 6, 24, 26, 27, 28, 29])
  (.seq /-6-/
  (.seq /-7-/
  (.region [
    ⟨(some 8), .mov (.c (.int .i64 0)), none⟩] [])
  (.block 0
    (.loop ac_R24_from_l2)))
  (ac_R24_from_k3)))))

def rs_R24_from : List ARet := [.tmp 6]

set_option maxRecDepth 100000 in
theorem cf_R24_from : compF Try.prog f_R24_from (qRo [3]) = some (ac_R24_from.strip, rs_R24_from, 71) := by kernel_rfl

def ac_R24_visit_l0 : ACode :=
  /-live [1, 3, 5, 6, 7, 8]-/ .seq /-5-/
  (.seq /-6-/
  (.region [
    ⟨(some 18), .mov (.t 8), none⟩,
    ⟨(some 19), .mov (.t 7), none⟩,
    ⟨(some 20), .len (.t 19), none⟩,
    ⟨(some 21), .bin .lss (.t 18) (.t 20), none⟩] [18, 19, 20])
  (.cond (.t 21)
    (.skip)
    (.exit 0)))
  (.seq /-7-/
  (.block 1
    (.seq /-8-/
    (.draw (
      .step ⟨(some 24), .fldaddr 0 1 (.t 5), none⟩ (
      .step ⟨(some 25), .load false 1 (.t 24), none⟩ (
      .step ⟨(some 26), .mov (.t 7), none⟩ (
      .step ⟨(some 27), .mov (.t 8), none⟩ (
      .step ⟨(some 28), .idx 1 (.t 26) (.t 27), none⟩ (
      .step ⟨(some 29), .load false 1 (.t 28), none⟩ (
      .step ⟨(some 30), .callq f_R24_Has [(.t 25), (.t 29)], none⟩ (
      .step ⟨(some 31), .un .not (.t 30), none⟩ (
      .done))))))))) [21, 24, 25, 26, 27, 28, 29, 30])
    (.cond (.t 31)
      (.draw (
        .step ⟨(some 32), .load true 2 (.t 3), none⟩ (
        .step ⟨(some 33), .mov (.t 7), none⟩ (
        .step ⟨(some 34), .mov (.t 8), none⟩ (
        .step ⟨(some 37), .load true 2 (.t 5), none⟩ (
        .alt ⟨(some 35), .idx 1 (.t 33) (.t 34), none⟩ (
        .step ⟨(some 36), .load false 1 (.t 35), none⟩ (
         .alt ⟨(some 38), .call f_R24_visit [(.t 32), (.t 36), (.t 37)], none⟩ (
         .alt ⟨none, .store 2 (.t 5) (.t 38), none⟩ (
          .done) (
          .stop)) (
         .stop))) (
        .stop)))))) [31, 32, 33, 34, 35, 36, 37, 38])
      (.skip))))
  (.region [
    ⟨(some 22), .mov (.t 8), none⟩,
    ⟨(some 23), .bin .add (.t 22) (.c (.int .i64 1)), none⟩,
    ⟨(some 8), .mov (.t 23), none⟩] [22, 23, 31]))

def ac_R24_visit_k1 : ACode :=
  /-live [1, 5, 6]-/ .seq /-9-/
  (.region [
    ⟨(some 39), .fldaddr 1 1 (.t 5), none⟩,
    ⟨(some 40), .load false 1 (.t 39), none⟩,
    ⟨(some 41), .mov (.t 1), none⟩,
    ⟨(some 42), .buildSl 1 1 [.int .i64 0] [(0, (.t 41))], none⟩,
    ⟨(some 43), .append 1 8 (.t 40) (.t 42), none⟩,
    ⟨(some 44), .fldaddr 1 1 (.t 5), none⟩,
    ⟨none, .store 1 (.t 44) (.t 43), none⟩] [1, 3, 7, 8, 39, 40, 41, 42, 43, 44])
  (.seq /-10-/
  (.region [
    ⟨(some 45), .load true 2 (.t 5), none⟩,
    ⟨none, .store 2 (.t 6) (.t 45), none⟩] [5, 45])
  (.ret))

/-- decompiler/decompilerref24.visit -/
def ac_R24_visit : ACode :=
  .seq /-0-/
  (.region [
    ⟨(some 3), .rbox (.t 0), none⟩,
    ⟨(some 5), .box (.t 2), none⟩,
    ⟨(some 6), .alloc [.nilsl, .nilsl], none⟩] [0, 2])
  (.seq /-1-/
  (.region [
    ⟨(some 9), .fldaddr 0 1 (.t 5), none⟩,
    ⟨(some 10), .load false 1 (.t 9), none⟩,
    ⟨(some 11), .mov (.t 1), none⟩,
    ⟨(some 12), .buildSl 1 1 [.int .i64 0] [(0, (.t 11))], none⟩,
    ⟨(some 13), .append 1 8 (.t 10) (.t 12), none⟩,
    ⟨(some 14), .fldaddr 0 1 (.t 5), none⟩,
    ⟨none, .store 1 (.t 14) (.t 13), none⟩] [9, 10, 11, 12, 13, 14])
  (.seq /-2-/
  (.region [
    ⟨(some 15), .load true 2 (.t 3), none⟩,
    ⟨(some 16), .mov (.t 1), none⟩,
    ⟨(some 17), .call f_R24_Edges [(.t 15), (.t 16)], none⟩,
    ⟨(some 7), .mov (.t 17), none⟩] [15, 16, 17])
  (.seq /-3-/
  (.seq /-4-/
  (.region [
    ⟨(some 8), .mov (.c (.int .i64 0)), none⟩] [])
  (.block 0
    (.loop ac_R24_visit_l0)))
  (ac_R24_visit_k1))))

def rs_R24_visit : List ARet := [.cell 6 true 2]

set_option maxRecDepth 100000 in
theorem cf_R24_visit : compF Try.prog f_R24_visit (qRoL [3] [(7, [0, 1, 2, 3, 4, 5, 7, 8, 9, 10, 11, 12, 13, 14, 15, 16, 17, 18, 19, 20, 21, 22, 23, 24, 25, 26, 27, 28, 29, 30, 31, 32, 33, 34, 35, 36, 37, 38, 39, 40, 41, 42, 43, 44, 45, 46, 47, 48, 49, 50, 51, 52, 53, 54, 55, 56, 57, 58, 59])]) = some (ac_R24_visit.strip, rs_R24_visit, 46) := by kernel_rfl

def ac_R24_leaves_l0 : ACode :=
  /-live [1, 2, 5]-/ .seq /-3-/
  (.seq /-4-/
  (.region [
    ⟨(some 6), .mov (.t 5), none⟩,
    ⟨(some 7), .mov (.t 1), none⟩,
    ⟨(some 8), .len (.t 7), none⟩,
    ⟨(some 9), .bin .lss (.t 6) (.t 8), none⟩] [6, 7, 8])
  (.cond (.t 9)
    (.skip)
    (.exit 0)))
  (.seq /-5-/
  (.block 1
    (.seq /-6-/
    (.draw (
      .step ⟨(some 12), .load true 2 (.t 2), none⟩ (
      .step ⟨(some 13), .mov (.t 1), none⟩ (
      .step ⟨(some 14), .mov (.t 5), none⟩ (
      .step ⟨(some 15), .idx 1 (.t 13) (.t 14), none⟩ (
      .step ⟨(some 16), .load false 1 (.t 15), none⟩ (
      .step ⟨(some 17), .callq f_R24_Edges [(.t 12), (.t 16)], none⟩ (
      .step ⟨(some 18), .len (.t 17), none⟩ (
      .step ⟨(some 19), .bin .eql (.t 18) (.c (.int .i64 0)), none⟩ (
      .done))))))))) [9, 12, 13, 14, 15, 16, 17, 18])
    (.cond (.t 19)
      (.seq /-7-/
      (.region [
        ⟨(some 4), .mov (.c (.bool true)), none⟩] [1, 2, 5, 19])
      (.ret))
      (.skip))))
  (.region [
    ⟨(some 10), .mov (.t 5), none⟩,
    ⟨(some 11), .bin .add (.t 10) (.c (.int .i64 1)), none⟩,
    ⟨(some 5), .mov (.t 11), none⟩] [4, 10, 11, 19]))

def ac_R24_leaves_k1 : ACode :=
  /-live []-/ .seq /-8-/
  (.region [
    ⟨(some 4), .mov (.c (.bool false)), none⟩] [1, 2, 5])
  (.ret)

/-- decompiler/decompilerref24.leaves -/
def ac_R24_leaves : ACode :=
  .seq /-0-/
  (.region [
    ⟨(some 2), .rbox (.t 0), none⟩,
    ⟨(some 4), .mov (.c (.bool false)), none⟩] [0, 4])
  (.seq /-1-/
  (.seq /-2-/
  (.region [
    ⟨(some 5), .mov (.c (.int .i64 0)), none⟩] [])
  (.block 0
    (.loop ac_R24_leaves_l0)))
  (ac_R24_leaves_k1))

def rs_R24_leaves : List ARet := [.tmp 4]

set_option maxRecDepth 100000 in
theorem cf_R24_leaves : compF Try.prog f_R24_leaves (qRo [2]) = some (ac_R24_leaves.strip, rs_R24_leaves, 20) := by kernel_rfl

end Go.Ab
