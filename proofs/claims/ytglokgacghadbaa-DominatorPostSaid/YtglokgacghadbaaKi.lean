/-
  Part 9 of the proof: how the calls of this program run, over values instead of memory, and what each function computes.
-/
import Derived.Test.YtglokgacghadbaaKh
set_option linter.unusedVariables false
set_option linter.unusedSimpArgs false

namespace Go.Ab
open Go.RowKit Go.Proofs Go.Proofs.Ytglokgacghadbaa Go.ChangeShapes Go.WideShapes

theorem open_row {HH : Type} {enc : TypeId × Value → HH} {w : World} {base b2 : Nat} {spare : Nat → Bool} {held : Bool} {L : Nat → Prop} (hL : ∀ b, ¬ L b) {t e : TypeId} {k : IntKind} (ht : Try.prog.underlying t = some (.slice e)) (he : Try.prog.underlying e = some (.int k)) (hs : Try.prog.cellsOf e = 1)
    {v : Value} {d : DataW HH} {ps : List MemPlace} (hv : Value.okWide Try.prog w .any base t v) (h : DataW.Trod enc Try.prog w b2 spare held t v d ps) : ∃ l : List Int, ∀ ι, VR w L ι v (encL 1 (fun n => [.int k n]) l) := by
  obtain ⟨a0, len, cap, rfl⟩ := okWide_slice ht hv
  obtain ⟨fuel, hf⟩ := h
  obtain ⟨l, v2, h1, _, h3⟩ := vr_ints ht he hs hL hf
  have : v2 = .slice a0 len cap := by
    simp [Value.cells] at h1
    exact h1.symm
  subst this
  exact ⟨l, h3⟩

end Go.Ab

namespace Go.Ab
open Go.RowKit Go.Proofs Go.Proofs.Ytglokgacghadbaa Go.ChangeShapes Go.WideShapes

theorem u8_range {a : Int} (h : (Lit.int .u8 a).wf = true) : 0 ≤ a ∧ a ≤ 255 := by
  exact inR_wf h

theorem vr_bytes {HH : Type} {enc : TypeId × Value → HH} {P : Program} {w : World} {base : Nat} {spare : Nat → Bool} {held : Bool} {L : Nat → Prop} {t e : TypeId} (ht : P.underlying t = some (.slice e)) (he : P.underlying e = some (.int .u8)) (hs : P.cellsOf e = 1) (hL : ∀ b, ¬ L b) {fuel : Nat} {cs : List Value} {y : DataW HH × List MemPlace}
    (h : DataW.trod enc P w base spare held fuel t cs = some y) : ∃ (l : List {n : Int // 0 ≤ n ∧ n ≤ 255}) (v : Value), cs = [v] ∧ v.oneCell' = true ∧ (∀ ι, VR w L ι v (encL 1 (fun n => [.int .u8 n.1]) l)) := by
  refine vr_slice ht hs hL (fun fuel cs y h hl => ?_) h
  obtain ⟨n, rfl, hn⟩ := el_int he h
  have hr : 0 ≤ n ∧ n ≤ 255 := hn
  refine ⟨⟨n, hr⟩, fun j hj => ?_⟩
  obtain rfl : j = 0 := by simpa using hj
  exact ⟨.int _ _ _ hn, rfl⟩

theorem open_rowP {HH : Type} {enc : TypeId × Value → HH} {w : World} {base b2 : Nat} {spare : Nat → Bool} {held : Bool} {L : Nat → Prop} (hL : ∀ b, ¬ L b) {t e : TypeId} (ht : Try.prog.underlying t = some (.slice e)) (he : Try.prog.underlying e = some (.int .u8)) (hs : Try.prog.cellsOf e = 1)
    {v : Value} {d : DataW HH} {ps : List MemPlace} (hv : Value.okWide Try.prog w .any base t v) (h : DataW.Trod enc Try.prog w b2 spare held t v d ps) : ∃ l : List Int, (∀ n ∈ l, 0 ≤ n ∧ n ≤ 255) ∧ ∀ ι, VR w L ι v (encL 1 (fun n : Int => [AV.int .u8 n]) l) := by
  obtain ⟨a0, len, cap, rfl⟩ := okWide_slice ht hv
  obtain ⟨fuel, hf⟩ := h
  obtain ⟨l, v2, h1, _, h3⟩ := vr_bytes ht he hs hL hf
  have : v2 = .slice a0 len cap := by
    simp [Value.cells] at h1
    exact h1.symm
  subst this
  refine ⟨l.map (·.1), fun n hn => ?_, fun ι => ?_⟩
  · obtain ⟨m, _, rfl⟩ := List.mem_map.1 hn
    exact m.2
  · have := h3 ι
    have e : encL 1 (fun n : {n : Int // 0 ≤ n ∧ n ≤ 255} => [AV.int .u8 n.1]) l = encL 1 (fun n : Int => [AV.int .u8 n]) (l.map (·.1)) := by
      unfold encL
      simp only [List.length_map, List.map_map, Function.comp_def]
    rw [← e]
    exact this

end Go.Ab

namespace Go.Ab

theorem order_up {E : Adj} (hE : E.ok) (hn : 0 < E.length) {T : Nat → Option Nat} (D : DTree' E 0 (ordL E 0) T) {i : Nat} (h1 : 1 ≤ i) (hi : i < (ordL E 0).length) :
    ∃ c, T (ordL E 0)[i] = some c ∧ c ∈ (ordL E 0).take i := by
  have hR := rpo hE hn
  obtain ⟨t, ht⟩ := hR.head
  have hnd := hR.nd
  have hx : (ordL E 0)[i] ∈ ordL E 0 := List.getElem_mem hi
  have hidx : (ordL E 0).idxOf (ordL E 0)[i] = i := hnd.idxOf_getElem i hi
  have h0 : (ordL E 0).idxOf 0 = 0 := by
    show (dfs E E.length 0 ([], [])).2.reverse.idxOf 0 = 0
    rw [ht]
    simp
  have hne : (ordL E 0)[i] ≠ 0 := fun e => by rw [e, h0] at hidx; omega
  cases hc : T (ordL E 0)[i] with
  | none => exact absurd hc (D.held _ hx hne)
  | some c =>
    obtain ⟨_, h3, h4, _⟩ := D.wt.up _ _ hc
    rw [hidx] at h4
    refine ⟨c, rfl, List.mem_iff_getElem.2 ⟨(ordL E 0).idxOf c, ?_, ?_⟩⟩
    · rw [List.length_take]
      have := idxOf_lt' h3
      omega
    · rw [List.getElem_take]
      exact List.getElem_idxOf (idxOf_lt' h3)

end Go.Ab

namespace Go.Ab

theorem max_of {P : Nat → Prop} {m : Nat → Nat} {B : Nat} (hb : ∀ c, P c → m c < B) : ∀ (d c : Nat), P c → B - m c ≤ d → ∃ c, P c ∧ ∀ x, P x → m x ≤ m c
  | 0, c, hc, h => by have := hb c hc; omega
  | d + 1, c, hc, h => by
    by_cases h1 : ∀ x, P x → m x ≤ m c
    · exact ⟨c, hc, h1⟩
    · simp only [Classical.not_forall] at h1
      obtain ⟨x, hx, h2⟩ := h1
      exact max_of hb d x hx (by have := hb c hc; omega)

theorem ra_last {A : Adj} {r x c k : Nat} (hxc : x ≠ c) (h : RA A (fun _ => False) r k) : RA A (fun y => y = x ∨ y = c) r k ∨ RA A (· = x) c k ∨ RA A (· = c) x k := by
  induction h with
  | refl _ =>
    by_cases h1 : r = x
    · subst h1; exact .inr (.inr (.refl hxc))
    · by_cases h2 : r = c
      · subst h2; exact .inr (.inl (.refl (fun e => hxc e.symm)))
      · exact .inl (.refl (by rintro (h | h); exact h1 h; exact h2 h))
  | @step b k' _ h3 _ ih =>
    by_cases h1 : k' = x
    · subst h1; exact .inr (.inr (.refl hxc))
    · by_cases h2 : k' = c
      · subst h2; exact .inr (.inl (.refl (fun e => hxc e.symm)))
      · rcases ih with ih | ih | ih
        · exact .inl (ih.step h3 (by rintro (h | h); exact h1 h; exact h2 h))
        · exact .inr (.inl (ih.step h3 h1))
        · exact .inr (.inr (ih.step h3 h2))

theorem dm_chain {A : Adj} {r x c k : Nat} (hk : RA A (fun _ => False) r k) (h1 : Dm A r x k) (h2 : Dm A r c k) : Dm A r x c ∨ Dm A r c x := by
  by_cases hxc : x = c
  · subst hxc; exact .inl (Dm.refl _)
  · by_cases h3 : Dm A r x c
    · exact .inl h3
    · refine .inr fun h4 => ?_
      have h3' : RA A (· = x) r c := Classical.not_not.1 h3
      rcases ra_last hxc hk with h | h | h
      · exact h1 (mono_RA (fun _ e => .inl e) h)
      · exact h1 (h3'.trans h)
      · exact h2 (h4.trans h)

theorem dm_trans {A : Adj} {r x c k : Nat} (h1 : Dm A r x c) (h2 : Dm A r c k) (hk : RA A (fun _ => False) r k) : Dm A r x k := by
  intro h
  by_cases hxc : x = c
  · subst hxc; exact h2 h
  · -- a path to k without x: it meets c, so there is a path to c without x
    have key : ∀ {b}, RA A (· = x) r b → RA A (· = c) r b ∨ RA A (· = x) r c := by
      intro b hb
      induction hb with
      | refl h =>
        by_cases hrc : r = c
        · subst hrc; exact .inr (.refl h)
        · exact .inl (.refl hrc)
      | @step b k' hb h3 h4 ih =>
        rcases ih with ih | ih
        · by_cases hkc : k' = c
          · subst hkc; exact .inr (hb.step h3 h4)
          · exact .inl (ih.step h3 hkc)
        · exact .inr ih
    rcases key h with h3 | h3
    · exact h2 h3
    · exact h1 h3

theorem dtree_ex {E : Adj} (hE : E.ok) (hn : 0 < E.length) : ∃ T, DTree' E 0 (ordL E 0) T := by
  obtain ⟨f, L⟩ := (rpo hE hn).lay
  have hm : ∀ x, x ∈ ordL E 0 ↔ RA E (fun _ => False) 0 x := fun x => mem_ordL hE hn
  have L' : Lay E 0 (ordL E 0) f := L
  generalize ordL E 0 = l at *
  have early : ∀ (n k x : Nat), k ∈ l → l.idxOf k ≤ n → l.idxOf k < l.idxOf x → RA E (· = x) 0 k := by
    intro n
    induction n with
    | zero =>
      intro k x hk h1 h2
      have : k = 0 := Classical.byContradiction fun h => by have := L'.pos hk h; omega
      subst this
      exact .refl (fun e => by subst e; omega)
    | succ n ih =>
      intro k x hk h1 h2
      by_cases hk0 : k = 0
      · subst hk0; exact .refl (fun e => by subst e; omega)
      · obtain ⟨h3, h4, h5⟩ := L'.fm k hk hk0
        exact (ih (f k) x h3 (by omega) (by omega)).step h4 (fun e => by subst e; omega)
  have hlt : ∀ {x k}, x ∈ l → k ∈ l → Dm E 0 x k → x ≠ k → l.idxOf x < l.idxOf k := by
    intro x k hx hk hd hne
    rcases Nat.lt_trichotomy (l.idxOf x) (l.idxOf k) with h | h | h
    · exact h
    · exact absurd (L'.inj hx hk h) hne
    · exact absurd (early _ k x hk (Nat.le_refl _) h) hd
  have hroot : ∀ k, Dm E 0 0 k := fun k h => by
    have : ∀ {b}, RA E (· = 0) 0 b → False := by
      intro b hb
      induction hb with
      | refl h => exact h rfl
      | step _ _ _ ih => exact ih
    exact this h
  have hex : ∀ k, k ∈ l ∧ k ≠ 0 → ∃ c, (c ∈ l ∧ c ≠ k ∧ Dm E 0 c k) ∧ ∀ x, (x ∈ l ∧ x ≠ k ∧ Dm E 0 x k) → l.idxOf x ≤ l.idxOf c := fun k hk =>
    max_of (B := l.length) (fun c hc => idxOf_lt' hc.1) l.length 0 ⟨L'.root, fun e => hk.2 e.symm, hroot k⟩ (by omega)
  obtain ⟨T, hT1, hT2⟩ : ∃ T : Nat → Option Nat, (∀ k, ¬ (k ∈ l ∧ k ≠ 0) → T k = none) ∧ ∀ k, k ∈ l ∧ k ≠ 0 → ∃ c, T k = some c ∧ (c ∈ l ∧ c ≠ k ∧ Dm E 0 c k) ∧ ∀ x, (x ∈ l ∧ x ≠ k ∧ Dm E 0 x k) → l.idxOf x ≤ l.idxOf c := by
    have : ∀ k, ∃ o : Option Nat, (¬ (k ∈ l ∧ k ≠ 0) → o = none) ∧ (k ∈ l ∧ k ≠ 0 → ∃ c, o = some c ∧ (c ∈ l ∧ c ≠ k ∧ Dm E 0 c k) ∧ ∀ x, (x ∈ l ∧ x ≠ k ∧ Dm E 0 x k) → l.idxOf x ≤ l.idxOf c) := by
      intro k
      by_cases hk : k ∈ l ∧ k ≠ 0
      · obtain ⟨c, h1, h2⟩ := hex k hk
        exact ⟨some c, fun h => absurd hk h, fun _ => ⟨c, rfl, h1, h2⟩⟩
      · exact ⟨none, fun _ => rfl, fun h => absurd h hk⟩
    obtain ⟨T, hT⟩ := Classical.axiomOfChoice this
    exact ⟨T, fun k => (hT k).1, fun k => (hT k).2⟩
  have hsome : ∀ k c, T k = some c → k ∈ l ∧ k ≠ 0 := fun k c h => Classical.byContradiction fun h2 => by rw [hT1 k h2] at h; cases h
  refine ⟨T, ⟨hT1 0 (fun h => h.2 rfl), fun k j h => ?_⟩, fun k hk hk0 h => ?_, fun k hk x hx => ⟨fun h => ?_, fun h => ?_⟩⟩
  · have hk := hsome k j h
    obtain ⟨c, h1, ⟨h2, h3, h4⟩, _⟩ := hT2 k hk
    rw [h] at h1
    cases h1
    refine ⟨hk.1, h2, hlt h2 hk.1 h4 h3, ?_⟩
    by_cases hj : j = 0
    · exact .inl hj
    · obtain ⟨c2, h5, _⟩ := hT2 j ⟨h2, hj⟩
      exact .inr (by rw [h5]; simp)
  · obtain ⟨c, h1, _⟩ := hT2 k ⟨hk, hk0⟩
    rw [h] at h1
    cases h1
  · have : ∀ {k x}, Ch T k x → k ∈ l → Dm E 0 x k := by
      intro k x h
      induction h with
      | refl => intro _; exact Dm.refl _
      | up h1 _ ih =>
        intro hk
        obtain ⟨c, h2, ⟨h3, h4, h5⟩, _⟩ := hT2 _ (hsome _ _ h1)
        rw [h1] at h2
        cases h2
        exact dm_trans (ih h3) h5 ((hm _).1 hk)
    exact this h hk
  · have : ∀ (n k : Nat), k ∈ l → l.idxOf k ≤ n → ∀ x, x ∈ l → Dm E 0 x k → Ch T k x := by
      intro n
      induction n with
      | zero =>
        intro k hk h1 x hx hd
        by_cases hxk : x = k
        · subst hxk; exact .refl _
        · have := hlt hx hk hd hxk; omega
      | succ n ih =>
        intro k hk h1 x hx hd
        by_cases hxk : x = k
        · subst hxk; exact .refl _
        · have h2 := hlt hx hk hd hxk
          have hk0 : k ≠ 0 := fun e => by subst e; have := L'.pl0; omega
          obtain ⟨c, h3, ⟨h4, h5, h6⟩, h7⟩ := hT2 k ⟨hk, hk0⟩
          have h8 := hlt h4 hk h6 h5
          refine .up h3 (ih c h4 (by omega) x hx ?_)
          rcases dm_chain ((hm k).1 hk) hd h6 with h9 | h9
          · exact h9
          · by_cases hxc : x = c
            · subst hxc; exact Dm.refl _
            · have h10 := hlt h4 hx h9 (fun e => hxc e.symm)
              have h11 := h7 x ⟨hx, hxk, hd⟩
              omega
    exact this _ k hk (Nat.le_refl _) x hx h

end Go.Ab

namespace Go.Ab

/-- The graph in which block a is empty. -/
def Gr.cutAt (g : Gr) (a : Nat) : Gr := ⟨0, g.blocks.set a ⟨0, []⟩⟩

theorem cut_suc {g : Gr} {a k : Nat} : suc (g.cutAt a).E k = if k = a then [] else suc g.E k := by
  unfold suc Gr.E Gr.cutAt
  simp only [List.length_set, List.getD_eq_getElem?_getD, List.getElem?_map, List.getElem?_set]
  by_cases h : a = k
  · subst h
    by_cases h2 : a < g.blocks.length
    · simp [h2, Blk.targets]
    · simp [h2]
  · have h' : ¬ k = a := fun e => h e.symm
    simp [h, h']

theorem cut_small {g : Gr} (hg : g.small) (a : Nat) : (g.cutAt a).small := by
  refine ⟨by unfold Gr.cutAt; simp only [List.length_set]; exact hg.1, fun b hb => ?_⟩
  rcases List.mem_or_eq_of_mem_set hb with h | h
  · exact hg.2 b h
  · rw [h]; simp [Blk.targets]

theorem cut_len {g : Gr} {a : Nat} : (g.cutAt a).E.length = g.E.length := by simp [Gr.E, Gr.cutAt]

theorem cut_reach {g : Gr} {a b : Nat} (hab : b ≠ a) : RA (g.cutAt a).E (fun _ => False) 0 b ↔ RA g.E (· = a) 0 b := by
  constructor
  · intro h
    have key : ∀ {b}, RA (g.cutAt a).E (fun _ => False) 0 b → b ≠ a → RA g.E (· = a) 0 b := by
      intro b h
      induction h with
      | refl _ => exact fun h => .refl h
      | @step b c _ h3 _ ih =>
        intro hc
        rw [cut_suc] at h3
        split at h3
        · cases h3
        · rename_i hb
          exact (ih hb).step h3 hc
    exact key h hab
  · intro h
    clear hab
    induction h with
    | refl _ => exact .refl (by simp)
    | @step b c hb h3 h4 ih =>
      have hba : ¬ b = a := RA.nx (X := (· = a)) hb
      exact ih.step (by rw [cut_suc, if_neg hba]; exact h3) (by simp)

end Go.Ab

namespace Go.Ab
open Go.RowKit Go.Proofs

theorem L24_without_ok (g : Gr) (hg : g.small) (a : Nat) (ha : a < g.blocks.length) : PureFn Try.prog f_L24_without [.agg g.cells, .int .i64 a] (· = .agg (g.cutAt a).cells) := by
  refine fn_x cf_L24_without rfl ?_
  unfold ac_L24_without
  have hB : big = 9223372036854775807 := rfl
  have hn := hg.1
  have hel : ∀ {H : AH}, elsOf 2 (encL 2 Blk.cells g.blocks) H = some (g.blocks.map Blk.cells) := fun {H} => elsOf_encL (fun _ _ => rfl)
  (repeat (first | (simp (disch := (first | omega | (simp only [evF, evL, implies_true, and_self]; done) | fail)) only [evS, evZ, evK, evB, evL, evR, Nat.reduceBEq, Nat.reduceAdd, Nat.reduceLeDiff, boxR, rboxR, allocR, fldR, binI, unR, pickR, mknilR, mkslR, buildSlR, buildR, extR, convI, eqB, evU, wrap64, Gr.cells, hel, rs_L24_without]) | (with_reducible intro _) | ((with_reducible apply And.intro); omega)))
  refine ⟨_, vw_two (.int _ _ _) ?_, rfl⟩
  show Vw _ _ _ _ _ _ (encL 2 Blk.cells (g.blocks.set a ⟨0, []⟩))
  have hl : (g.blocks.set a ⟨0, []⟩).length = g.blocks.length := List.length_set
  unfold encL
  rw [hl]
  refine .frz _ 1 0 1 0 g.blocks.length 2 _ _ trivial rfl (by omega) (by simp) (fun i j hi hj => ?_)
  have e2 : ((g.blocks.set a ⟨0, []⟩).map Blk.cells).getD i [] = if i = a then Blk.cells ⟨0, []⟩ else Blk.cells g.blocks[i] := by
    rw [List.getD_eq_getElem?_getD, List.getElem?_map, List.getElem?_set]
    by_cases h : i = a
    · subst h; simp [ha]
    · simp [h, hi, show ¬ a = i from fun e => h e.symm]
  have e1 : ((g.blocks.map Blk.cells).set a [AV.int .u32 0, AV.nilsl]).getD (0 + i) [] = if i = a then [AV.int .u32 0, AV.nilsl] else Blk.cells g.blocks[i] := by
    rw [Nat.zero_add, List.getD_eq_getElem?_getD, List.getElem?_set]
    by_cases h : i = a
    · subst h; simp [ha]
    · simp [h, hi, show ¬ a = i from fun e => h e.symm]
  rw [e1, e2]
  by_cases h : i = a
  · rw [if_pos h, if_pos h]
    match j with
    | 0 => exact .int _ _ _
    | 1 => exact vw_nil
    | j + 2 => omega
  · rw [if_neg h, if_neg h]
    match j with
    | 0 => exact .int _ _ _
    | 1 => exact .sl _ _ _ _
    | j + 2 => omega

end Go.Ab

namespace Go.Ab

inductive Hop (t : List Int) (a : Int) : Nat → Int → Prop
  | here : 0 ≤ a → a < t.length → Hop t a 0 a
  | next {k : Nat} {c : Int} : 0 ≤ c → c < t.length → a ≠ c → Hop t a k (t.getD c.toNat 0) → Hop t a (k + 1) c

theorem domGo_hop {t : List Int} {a : Int} : ∀ (f : Nat) (c : Int), domGo t a f c = true ↔ ∃ k, k < f ∧ Hop t a k c
  | 0, c => ⟨fun h => (by cases h), fun ⟨k, h, _⟩ => (by omega)⟩
  | f + 1, c => by
    simp only [domGo]
    by_cases hc : 0 ≤ c ∧ c < t.length
    · rw [if_pos hc]
      by_cases ha : a = c
      · rw [if_pos ha]
        subst ha
        exact ⟨fun _ => ⟨0, Nat.succ_pos _, .here hc.1 hc.2⟩, fun _ => rfl⟩
      · rw [if_neg ha, domGo_hop f]
        constructor
        · rintro ⟨k, h1, h2⟩
          exact ⟨k + 1, by omega, .next hc.1 hc.2 ha h2⟩
        · rintro ⟨k, h1, h2⟩
          cases h2 with
          | here => exact absurd rfl ha
          | next _ _ _ h3 => exact ⟨_, by omega, h3⟩
    · rw [if_neg hc]
      refine ⟨fun h => (by cases h), fun ⟨k, _, h⟩ => ?_⟩
      cases h with
      | here h1 h2 => exact absurd ⟨h1, h2⟩ hc
      | next h1 h2 => exact absurd ⟨h1, h2⟩ hc

theorem Hop.uniq {t : List Int} {a : Int} : ∀ {k j : Nat} {c : Int}, Hop t a k c → Hop t a j c → k = j
  | 0, 0, _, _, _ => rfl
  | 0, j + 1, _, .here _ _, .next _ _ h _ => absurd rfl h
  | k + 1, 0, _, .next _ _ h _, .here _ _ => absurd rfl h
  | k + 1, j + 1, _, .next _ _ _ h1, .next _ _ _ h2 => by rw [Hop.uniq h1 h2]

theorem Hop.seen {t : List Int} {a : Int} : ∀ {k : Nat} {c : Int}, Hop t a k c → ∃ l : List Nat, l.length = k + 1 ∧ l.Nodup ∧ ∀ x ∈ l, x < t.length ∧ ∃ j, j ≤ k ∧ Hop t a j x
  | 0, _, .here h1 h2 => by
    refine ⟨[a.toNat], rfl, by simp, fun x hx => ?_⟩
    rw [List.mem_singleton.1 hx]
    refine ⟨by omega, 0, Nat.le_refl _, ?_⟩
    rw [show ((a.toNat : Nat) : Int) = a by omega]
    exact .here h1 h2
  | k + 1, c, .next h1 h2 h3 h4 => by
    obtain ⟨l, e1, e2, e3⟩ := h4.seen
    have hc : ((c.toNat : Nat) : Int) = c := by omega
    refine ⟨c.toNat :: l, by simp [e1], List.nodup_cons.2 ⟨fun hm => ?_, e2⟩, fun x hx => ?_⟩
    · obtain ⟨_, j, h5, h6⟩ := e3 _ hm
      rw [hc] at h6
      have := Hop.uniq h6 (.next h1 h2 h3 h4)
      omega
    · rcases List.mem_cons.1 hx with rfl | hx
      · exact ⟨by omega, k + 1, Nat.le_refl _, by rw [hc]; exact .next h1 h2 h3 h4⟩
      · obtain ⟨h5, j, h6, h7⟩ := e3 x hx
        exact ⟨h5, j, by omega, h7⟩

theorem Hop.lt {t : List Int} {a c : Int} {k : Nat} (h : Hop t a k c) : k < t.length := by
  obtain ⟨l, e1, e2, e3⟩ := h.seen
  have := nodup_sub_len (m := List.range t.length) e2 (fun x hx => List.mem_range.2 (e3 x hx).1)
  rw [List.length_range] at this
  omega

theorem Hop.through {t : List Int} {a b : Int} : ∀ {k : Nat} {c : Int}, Hop t b k c → (∃ m, Hop t a m b) → ∃ m, Hop t a m c
  | 0, _, .here _ _, h => h
  | k + 1, c, .next h1 h2 _ h4, h => by
    obtain ⟨m, h5⟩ := h4.through h
    by_cases ha : a = c
    · subst ha; exact ⟨0, .here h1 h2⟩
    · exact ⟨m + 1, .next h1 h2 ha h5⟩

theorem domL_hop {t : List Int} {a c : Int} : domL t a c = true ↔ ∃ k, Hop t a k c := by
  unfold domL
  by_cases ha : a < 0 ∨ (t.length : Int) ≤ a
  · rw [if_pos ha]
    refine ⟨fun h => (by cases h), fun ⟨k, h⟩ => ?_⟩
    exfalso
    have : ∀ {k : Nat} {c : Int}, Hop t a k c → 0 ≤ a ∧ a < t.length := by
      intro k c h
      induction h with
      | here h1 h2 => exact ⟨h1, h2⟩
      | next _ _ _ _ ih => exact ih
    have := this h
    omega
  · rw [if_neg ha, domGo_hop]
    exact ⟨fun ⟨k, _, h⟩ => ⟨k, h⟩, fun ⟨k, h⟩ => ⟨k, by have := h.lt; omega, h⟩⟩

theorem domL_self {t : List Int} {a : Int} : domL t a a = decide (0 ≤ a ∧ a < t.length) := by
  rw [Bool.eq_iff_iff, decide_eq_true_iff, domL_hop]
  refine ⟨fun ⟨k, h⟩ => ?_, fun h => ⟨0, .here h.1 h.2⟩⟩
  cases h with
  | here h1 h2 => exact ⟨h1, h2⟩
  | next h1 h2 => exact ⟨h1, h2⟩

theorem domL_trans {t : List Int} {a b c : Int} (h1 : domL t a b = true) (h2 : domL t b c = true) : domL t a c = true := by
  obtain ⟨k, h3⟩ := domL_hop.1 h2
  exact domL_hop.2 (h3.through (domL_hop.1 h1))

end Go.Ab

namespace Go.Ab
open Go.RowKit Go.Proofs

theorem L24_DominatorRemoval_ok (g : Gr) (x y : Int) (hx : 0 ≤ x ∧ x ≤ 255) (hy : 0 ≤ y ∧ y ≤ 255) : PureFn Try.prog f_L24_DominatorRemoval [.agg g.cells, .int .u8 x, .int .u8 y] (· = .bool true) := by
  refine fn_x cf_L24_DominatorRemoval rfl ?_
  unfold ac_L24_DominatorRemoval
  have hB : big = 9223372036854775807 := rfl
  (repeat (first | (simp (disch := (first | omega | (simp only [evF, evL, implies_true, and_self]; done) | fail)) only [evS, evZ, evK, evB, evL, evR, Nat.reduceBEq, Nat.reduceAdd, Nat.reduceLeDiff, boxR, rboxR, allocR, fldR, binI, unR, pickR, mknilR, mkslR, buildSlR, buildR, extR, convI, eqB, evU, wrap64, Gr.cells, Gr.two]) | (with_reducible intro _) | ((with_reducible apply And.intro); omega)))
  refine call_read (D := noR) (L24_few_ok g) (lend_flat rfl) (fun _ h => .inr fun _ _ h => h) ?_
  rintro v ⟨b, rfl, hb⟩
  cases b with
  | false =>
    (repeat (first | (simp (disch := (first | omega | (simp only [evF, evL, implies_true, and_self]; done) | fail)) only [evS, evZ, evK, evB, evL, evR, Nat.reduceBEq, Nat.reduceAdd, Nat.reduceLeDiff, boxR, rboxR, allocR, fldR, binI, unR, pickR, mknilR, mkslR, buildSlR, buildR, extR, convI, eqB, evU, wrap64]) | (with_reducible intro _) | ((with_reducible apply And.intro); omega)))
    refine callX_fix (call_flat L24_exampleHolds_ok rfl) ?_
    (repeat (first | (simp (disch := (first | omega | (simp only [evF, evL, implies_true, and_self]; done) | fail)) only [evS, evZ, evK, evB, evL, evR, Nat.reduceBEq, Nat.reduceAdd, Nat.reduceLeDiff, boxR, rboxR, allocR, fldR, binI, unR, pickR, mknilR, mkslR, buildSlR, buildR, extR, convI, eqB, evU, wrap64, rs_L24_DominatorRemoval]) | (with_reducible intro _) | ((with_reducible apply And.intro); omega)))
    exact ⟨_, .bool _ _, rfl⟩
  | true =>
    obtain ⟨hsm, h12⟩ := hb rfl
    (repeat (first | (simp (disch := (first | omega | (simp only [evF, evL, implies_true, and_self]; done) | fail)) only [evS, evZ, evK, evB, evL, evR, Nat.reduceBEq, Nat.reduceAdd, Nat.reduceLeDiff, boxR, rboxR, allocR, fldR, binI, unR, pickR, mknilR, mkslR, buildSlR, buildR, extR, convI, eqB, evU, wrap64]) | (with_reducible intro _) | ((with_reducible apply And.intro); omega)))
    (refine condX_intro (fun h0 => ?_) (fun h0 => ?_)) <;> (try simp only [decide_eq_true_eq, decide_eq_false_iff_not, Bool.not_eq_true', Bool.not_eq_false', Bool.and_eq_true, Bool.or_eq_true, not_true_eq_false, not_false_eq_true] at h0)
    · (repeat (first | (simp (disch := (first | omega | (simp only [evF, evL, implies_true, and_self]; done) | fail)) only [evS, evZ, evK, evB, evL, evR, Nat.reduceBEq, Nat.reduceAdd, Nat.reduceLeDiff, boxR, rboxR, allocR, fldR, binI, unR, pickR, mknilR, mkslR, buildSlR, buildR, extR, convI, eqB, evU, wrap64]) | (with_reducible intro _) | ((with_reducible apply And.intro); omega)))
      refine callX_fix (call_flat L24_exampleHolds_ok rfl) ?_
      (repeat (first | (simp (disch := (first | omega | (simp only [evF, evL, implies_true, and_self]; done) | fail)) only [evS, evZ, evK, evB, evL, evR, Nat.reduceBEq, Nat.reduceAdd, Nat.reduceLeDiff, boxR, rboxR, allocR, fldR, binI, unR, pickR, mknilR, mkslR, buildSlR, buildR, extR, convI, eqB, evU, wrap64, rs_L24_DominatorRemoval]) | (with_reducible intro _) | ((with_reducible apply And.intro); omega)))
      exact ⟨_, .bool _ _, rfl⟩
    have hlen := g.E_len
    have hok := g.E_ok
    have hn0 : 0 < g.E.length := by omega
    obtain ⟨a, hae, ha⟩ : ∃ a : Nat, x.tmod (g.blocks.length : Int) = a ∧ a < g.blocks.length := by
      have h1 := Int.tmod_nonneg (g.blocks.length : Int) hx.1
      have h2 := Int.tmod_lt_of_pos x (show (0 : Int) < g.blocks.length by omega)
      exact ⟨(x.tmod (g.blocks.length : Int)).toNat, by omega, by omega⟩
    obtain ⟨c, hce, hc⟩ : ∃ a : Nat, y.tmod (g.blocks.length : Int) = a ∧ a < g.blocks.length := by
      have h1 := Int.tmod_nonneg (g.blocks.length : Int) hy.1
      have h2 := Int.tmod_lt_of_pos y (show (0 : Int) < g.blocks.length by omega)
      exact ⟨(y.tmod (g.blocks.length : Int)).toNat, by omega, by omega⟩
    (repeat (first | (simp (disch := (first | omega | (simp only [evF, evL, implies_true, and_self]; done) | fail)) only [evS, evZ, evK, evB, evL, evR, Nat.reduceBEq, Nat.reduceAdd, Nat.reduceLeDiff, boxR, rboxR, allocR, fldR, binI, unR, pickR, mknilR, mkslR, buildSlR, buildR, extR, convI, eqB, evU, wrap64, Gr.cells, hae, hce, Gr.two]) | (with_reducible intro _) | ((with_reducible apply And.intro); omega)))
    refine callqX_fix (call_flat (dominator_Reachable_ok g hsm) rfl) ?_
    (repeat (first | (simp (disch := (first | omega | (simp only [evF, evL, implies_true, and_self]; done) | fail)) only [evS, evZ, evK, evB, evL, evR, Nat.reduceBEq, Nat.reduceAdd, Nat.reduceLeDiff, boxR, rboxR, allocR, fldR, binI, unR, pickR, mknilR, mkslR, buildSlR, buildR, extR, convI, eqB, evU, wrap64, Gr.two]) | (with_reducible intro _) | ((with_reducible apply And.intro); omega)))
    refine callqX_fix (call_flat (L24_without_ok g hsm a ha) rfl) ?_
    (repeat (first | (simp (disch := (first | omega | (simp only [evF, evL, implies_true, and_self]; done) | fail)) only [evS, evZ, evK, evB, evL, evR, Nat.reduceBEq, Nat.reduceAdd, Nat.reduceLeDiff, boxR, rboxR, allocR, fldR, binI, unR, pickR, mknilR, mkslR, buildSlR, buildR, extR, convI, eqB, evU, wrap64]) | (with_reducible intro _) | ((with_reducible apply And.intro); omega)))
    refine callqX_fix (call_flat (dominator_Reachable_ok (g.cutAt a) (cut_small hsm a)) rfl) ?_
    (repeat (first | (simp (disch := (first | omega | (simp only [evF, evL, implies_true, and_self]; done) | fail)) only [evS, evZ, evK, evB, evL, evR, Nat.reduceBEq, Nat.reduceAdd, Nat.reduceLeDiff, boxR, rboxR, allocR, fldR, binI, unR, pickR, mknilR, mkslR, buildSlR, buildR, extR, convI, eqB, evU, wrap64, Gr.two]) | (with_reducible intro _) | ((with_reducible apply And.intro); omega)))
    refine callqX_fix (call_flat (dominator_Tree_ok g hsm) rfl) ?_
    have hrl : (reachL g.E).length = g.blocks.length := by simp [reachL, hlen]
    have hnl : (reachL (g.cutAt a).E).length = g.blocks.length := by simp [reachL, cut_len, hlen]
    have htl : (treeL g.E).length = g.blocks.length := by simp [treeL, hlen]
    have hrg : ∀ b (h : b < (reachL g.E).length), (reachL g.E)[b] = decide (b ∈ ordL g.E 0) := fun b h => by
      simp only [reachL, List.getElem_map, List.getElem_range]
      exact decide_eq_decide.2 ((fromL_all hok hn0).trans (mem_ordL hok hn0).symm)
    obtain ⟨T, D⟩ := dtree_ex hok hn0
    have hlaw : ∀ (h : c < (reachL (g.cutAt a).E).length), a ≠ c → a ∈ ordL g.E 0 → c ∈ ordL g.E 0 → domL (treeL g.E) a c = !(reachL (g.cutAt a).E)[c] := fun h hac hal hcl => by
      have e : (reachL (g.cutAt a).E)[c] = true ↔ RA g.E (· = a) 0 c := by
        simp only [reachL, List.getElem_map, List.getElem_range, decide_eq_true_iff]
        exact (fromL_all (g.cutAt a).E_ok (by rw [cut_len]; exact hn0)).trans (cut_reach (fun e => hac e.symm))
      rw [Bool.eq_iff_iff, domL_ch hok hn0 D hal hcl, D.ch c hcl a hal, Bool.not_eq_true', ← Bool.not_eq_true, e]
      exact Iff.rfl
    have hout : ∀ (h : c < (treeL g.E).length), c ∉ ordL g.E 0 → (treeL g.E)[c] = -1 := fun h hcl => by
      have e : (treeL g.E)[c]? = some (tI (T c)) := by
        rw [← treeL_eq hok hn0 D]
        simp [outI, show c < g.E.length by omega]
      rw [List.getElem?_eq_getElem h, D.out hcl] at e
      exact Option.some.inj e
    have hdm := fun (u v : Int) => dominator_Dominates_ok (treeL g.E) u v (by omega)
    have hself : domL (treeL g.E) a a = true := by rw [domL_self, htl]; exact decide_eq_true ⟨by omega, by omega⟩
    generalize reachL g.E = R at *
    generalize reachL (g.cutAt a).E = N at *
    generalize treeL g.E = t at *
    generalize ordL g.E 0 = l at *
    have hcR : c < R.length := by omega
    have haR : a < R.length := by omega
    have hcN : c < N.length := by omega
    have hct : c < t.length := by omega
    have d1 : decide ((R.length : Int) ≠ g.blocks.length) = false := decide_eq_false (by omega)
    have d2 : decide ((N.length : Int) ≠ g.blocks.length) = false := decide_eq_false (by omega)
    have d3 : decide ((t.length : Int) ≠ g.blocks.length) = false := decide_eq_false (by omega)
    (repeat (first | (simp (disch := (first | omega | (simp only [evF, evL, implies_true, and_self]; done) | fail)) only [evS, evZ, evK, evB, evL, evR, Nat.reduceBEq, Nat.reduceAdd, Nat.reduceLeDiff, boxR, rboxR, allocR, fldR, binI, unR, pickR, mknilR, mkslR, buildSlR, buildR, extR, convI, eqB, evU, wrap64, encBools, encInts, d1, d2, d3, Gr.cells, encP, getD_map haR, getD_map hcR, hrg]) | (with_reducible intro _) | ((with_reducible apply And.intro); omega)))
    by_cases hcl : c ∈ l
    · have eC : decide (c ∈ l) = true := decide_eq_true hcl
      by_cases hal : a ∈ l
      · have eA : decide (a ∈ l) = true := decide_eq_true hal
        rw [eA]
        by_cases hac : a = c
        · have eq1 : decide ((a : Int) = c) = true := decide_eq_true (by omega)
          (repeat (first | (simp (disch := (first | omega | (simp only [evF, evL, implies_true, and_self]; done) | fail)) only [evS, evZ, evK, evB, evL, evR, Nat.reduceBEq, Nat.reduceAdd, Nat.reduceLeDiff, boxR, rboxR, allocR, fldR, binI, unR, pickR, mknilR, mkslR, buildSlR, buildR, extR, convI, eqB, evU, wrap64, encBools, encInts, getD_map hcR, hrg, eC, eq1]) | (with_reducible intro _) | ((with_reducible apply And.intro); omega)))
          (repeat (first | (simp (disch := (first | omega | (simp only [evF, evL, implies_true, and_self]; done) | fail)) only [evS, evZ, evK, evB, evL, evR, Nat.reduceBEq, Nat.reduceAdd, Nat.reduceLeDiff, boxR, rboxR, allocR, fldR, binI, unR, pickR, mknilR, mkslR, buildSlR, buildR, extR, convI, eqB, evU, wrap64, Bool.not_true, Bool.not_false]) | (with_reducible intro _) | ((with_reducible apply And.intro); omega)))
          refine callX_fix (call_flat (hdm a a) rfl) ?_
          rw [hself]
          (repeat (first | (simp (disch := (first | omega | (simp only [evF, evL, implies_true, and_self]; done) | fail)) only [evS, evZ, evK, evB, evL, evR, Nat.reduceBEq, Nat.reduceAdd, Nat.reduceLeDiff, boxR, rboxR, allocR, fldR, binI, unR, pickR, mknilR, mkslR, buildSlR, buildR, extR, convI, eqB, evU, wrap64, getD_map hcR, hrg, eC]) | (with_reducible intro _) | ((with_reducible apply And.intro); omega)))
          refine callX_fix (call_flat L24_exampleHolds_ok rfl) ?_
          (repeat (first | (simp (disch := (first | omega | (simp only [evF, evL, implies_true, and_self]; done) | fail)) only [evS, evZ, evK, evB, evL, evR, Nat.reduceBEq, Nat.reduceAdd, Nat.reduceLeDiff, boxR, rboxR, allocR, fldR, binI, unR, pickR, mknilR, mkslR, buildSlR, buildR, extR, convI, eqB, evU, wrap64, rs_L24_DominatorRemoval]) | (with_reducible intro _) | ((with_reducible apply And.intro); omega)))
          exact ⟨_, .bool _ _, rfl⟩
        · have eq1 : decide ((a : Int) = c) = false := decide_eq_false (by omega)
          (repeat (first | (simp (disch := (first | omega | (simp only [evF, evL, implies_true, and_self]; done) | fail)) only [evS, evZ, evK, evB, evL, evR, Nat.reduceBEq, Nat.reduceAdd, Nat.reduceLeDiff, boxR, rboxR, allocR, fldR, binI, unR, pickR, mknilR, mkslR, buildSlR, buildR, extR, convI, eqB, evU, wrap64, encBools, encInts, getD_map hcR, hrg, eC, eq1]) | (with_reducible intro _) | ((with_reducible apply And.intro); omega)))
          refine callqX_fix (call_flat (hdm a c) rfl) ?_
          rw [hlaw hcN hac hal hcl]
          (repeat (first | (simp (disch := (first | omega | (simp only [evF, evL, implies_true, and_self]; done) | fail)) only [evS, evZ, evK, evB, evL, evR, Nat.reduceBEq, Nat.reduceAdd, Nat.reduceLeDiff, boxR, rboxR, allocR, fldR, binI, unR, pickR, mknilR, mkslR, buildSlR, buildR, extR, convI, eqB, evU, wrap64, getD_map hcN]) | (with_reducible intro _) | ((with_reducible apply And.intro); omega)))
          generalize N[c] = z
          cases z
          · (repeat (first | (simp (disch := (first | omega | (simp only [evF, evL, implies_true, and_self]; done) | fail)) only [evS, evZ, evK, evB, evL, evR, Nat.reduceBEq, Nat.reduceAdd, Nat.reduceLeDiff, boxR, rboxR, allocR, fldR, binI, unR, pickR, mknilR, mkslR, buildSlR, buildR, extR, convI, eqB, evU, wrap64, beq_self_eq_true]) | (with_reducible intro _) | ((with_reducible apply And.intro); omega)))
            refine callqX_fix (call_flat L24_exampleHolds_ok rfl) ?_
            (repeat (first | (simp (disch := (first | omega | (simp only [evF, evL, implies_true, and_self]; done) | fail)) only [evS, evZ, evK, evB, evL, evR, Nat.reduceBEq, Nat.reduceAdd, Nat.reduceLeDiff, boxR, rboxR, allocR, fldR, binI, unR, pickR, mknilR, mkslR, buildSlR, buildR, extR, convI, eqB, evU, wrap64, rs_L24_DominatorRemoval]) | (with_reducible intro _) | ((with_reducible apply And.intro); omega)))
            exact ⟨_, .bool _ _, rfl⟩
          · (repeat (first | (simp (disch := (first | omega | (simp only [evF, evL, implies_true, and_self]; done) | fail)) only [evS, evZ, evK, evB, evL, evR, Nat.reduceBEq, Nat.reduceAdd, Nat.reduceLeDiff, boxR, rboxR, allocR, fldR, binI, unR, pickR, mknilR, mkslR, buildSlR, buildR, extR, convI, eqB, evU, wrap64, beq_self_eq_true]) | (with_reducible intro _) | ((with_reducible apply And.intro); omega)))
            refine callqX_fix (call_flat L24_exampleHolds_ok rfl) ?_
            (repeat (first | (simp (disch := (first | omega | (simp only [evF, evL, implies_true, and_self]; done) | fail)) only [evS, evZ, evK, evB, evL, evR, Nat.reduceBEq, Nat.reduceAdd, Nat.reduceLeDiff, boxR, rboxR, allocR, fldR, binI, unR, pickR, mknilR, mkslR, buildSlR, buildR, extR, convI, eqB, evU, wrap64, rs_L24_DominatorRemoval]) | (with_reducible intro _) | ((with_reducible apply And.intro); omega)))
            exact ⟨_, .bool _ _, rfl⟩
      · have eA : decide (a ∈ l) = false := decide_eq_false hal
        rw [eA]
        (repeat (first | (simp (disch := (first | omega | (simp only [evF, evL, implies_true, and_self]; done) | fail)) only [evS, evZ, evK, evB, evL, evR, Nat.reduceBEq, Nat.reduceAdd, Nat.reduceLeDiff, boxR, rboxR, allocR, fldR, binI, unR, pickR, mknilR, mkslR, buildSlR, buildR, extR, convI, eqB, evU, wrap64, encBools, encInts]) | (with_reducible intro _) | ((with_reducible apply And.intro); omega)))
        (repeat (first | (simp (disch := (first | omega | (simp only [evF, evL, implies_true, and_self]; done) | fail)) only [evS, evZ, evK, evB, evL, evR, Nat.reduceBEq, Nat.reduceAdd, Nat.reduceLeDiff, boxR, rboxR, allocR, fldR, binI, unR, pickR, mknilR, mkslR, buildSlR, buildR, extR, convI, eqB, evU, wrap64, Bool.not_true, Bool.not_false]) | (with_reducible intro _) | ((with_reducible apply And.intro); omega)))
        refine callX_fix (call_flat (hdm a a) rfl) ?_
        rw [hself]
        (repeat (first | (simp (disch := (first | omega | (simp only [evF, evL, implies_true, and_self]; done) | fail)) only [evS, evZ, evK, evB, evL, evR, Nat.reduceBEq, Nat.reduceAdd, Nat.reduceLeDiff, boxR, rboxR, allocR, fldR, binI, unR, pickR, mknilR, mkslR, buildSlR, buildR, extR, convI, eqB, evU, wrap64, getD_map hcR, hrg, eC]) | (with_reducible intro _) | ((with_reducible apply And.intro); omega)))
        refine callX_fix (call_flat L24_exampleHolds_ok rfl) ?_
        (repeat (first | (simp (disch := (first | omega | (simp only [evF, evL, implies_true, and_self]; done) | fail)) only [evS, evZ, evK, evB, evL, evR, Nat.reduceBEq, Nat.reduceAdd, Nat.reduceLeDiff, boxR, rboxR, allocR, fldR, binI, unR, pickR, mknilR, mkslR, buildSlR, buildR, extR, convI, eqB, evU, wrap64, rs_L24_DominatorRemoval]) | (with_reducible intro _) | ((with_reducible apply And.intro); omega)))
        exact ⟨_, .bool _ _, rfl⟩
    · have eC : decide (c ∈ l) = false := decide_eq_false hcl
      generalize decide (a ∈ l) = eA
      cases eA
      · (repeat (first | (simp (disch := (first | omega | (simp only [evF, evL, implies_true, and_self]; done) | fail)) only [evS, evZ, evK, evB, evL, evR, Nat.reduceBEq, Nat.reduceAdd, Nat.reduceLeDiff, boxR, rboxR, allocR, fldR, binI, unR, pickR, mknilR, mkslR, buildSlR, buildR, extR, convI, eqB, evU, wrap64, encBools, encInts]) | (with_reducible intro _) | ((with_reducible apply And.intro); omega)))
        (repeat (first | (simp (disch := (first | omega | (simp only [evF, evL, implies_true, and_self]; done) | fail)) only [evS, evZ, evK, evB, evL, evR, Nat.reduceBEq, Nat.reduceAdd, Nat.reduceLeDiff, boxR, rboxR, allocR, fldR, binI, unR, pickR, mknilR, mkslR, buildSlR, buildR, extR, convI, eqB, evU, wrap64, Bool.not_true, Bool.not_false]) | (with_reducible intro _) | ((with_reducible apply And.intro); omega)))
        refine callX_fix (call_flat (hdm a a) rfl) ?_
        rw [hself]
        (repeat (first | (simp (disch := (first | omega | (simp only [evF, evL, implies_true, and_self]; done) | fail)) only [evS, evZ, evK, evB, evL, evR, Nat.reduceBEq, Nat.reduceAdd, Nat.reduceLeDiff, boxR, rboxR, allocR, fldR, binI, unR, pickR, mknilR, mkslR, buildSlR, buildR, extR, convI, eqB, evU, wrap64, getD_map hcR, hrg, eC, getD_map hct, hout hct hcl]) | (with_reducible intro _) | ((with_reducible apply And.intro); omega)))
        refine callX_fix (call_flat L24_exampleHolds_ok rfl) ?_
        (repeat (first | (simp (disch := (first | omega | (simp only [evF, evL, implies_true, and_self]; done) | fail)) only [evS, evZ, evK, evB, evL, evR, Nat.reduceBEq, Nat.reduceAdd, Nat.reduceLeDiff, boxR, rboxR, allocR, fldR, binI, unR, pickR, mknilR, mkslR, buildSlR, buildR, extR, convI, eqB, evU, wrap64, rs_L24_DominatorRemoval]) | (with_reducible intro _) | ((with_reducible apply And.intro); omega)))
        exact ⟨_, .bool _ _, rfl⟩
      · (repeat (first | (simp (disch := (first | omega | (simp only [evF, evL, implies_true, and_self]; done) | fail)) only [evS, evZ, evK, evB, evL, evR, Nat.reduceBEq, Nat.reduceAdd, Nat.reduceLeDiff, boxR, rboxR, allocR, fldR, binI, unR, pickR, mknilR, mkslR, buildSlR, buildR, extR, convI, eqB, evU, wrap64, encBools, encInts, getD_map hcR, hrg, eC]) | (with_reducible intro _) | ((with_reducible apply And.intro); omega)))
        (repeat (first | (simp (disch := (first | omega | (simp only [evF, evL, implies_true, and_self]; done) | fail)) only [evS, evZ, evK, evB, evL, evR, Nat.reduceBEq, Nat.reduceAdd, Nat.reduceLeDiff, boxR, rboxR, allocR, fldR, binI, unR, pickR, mknilR, mkslR, buildSlR, buildR, extR, convI, eqB, evU, wrap64, Bool.not_true, Bool.not_false]) | (with_reducible intro _) | ((with_reducible apply And.intro); omega)))
        refine callX_fix (call_flat (hdm a a) rfl) ?_
        rw [hself]
        (repeat (first | (simp (disch := (first | omega | (simp only [evF, evL, implies_true, and_self]; done) | fail)) only [evS, evZ, evK, evB, evL, evR, Nat.reduceBEq, Nat.reduceAdd, Nat.reduceLeDiff, boxR, rboxR, allocR, fldR, binI, unR, pickR, mknilR, mkslR, buildSlR, buildR, extR, convI, eqB, evU, wrap64, getD_map hcR, hrg, eC, getD_map hct, hout hct hcl]) | (with_reducible intro _) | ((with_reducible apply And.intro); omega)))
        refine callX_fix (call_flat L24_exampleHolds_ok rfl) ?_
        (repeat (first | (simp (disch := (first | omega | (simp only [evF, evL, implies_true, and_self]; done) | fail)) only [evS, evZ, evK, evB, evL, evR, Nat.reduceBEq, Nat.reduceAdd, Nat.reduceLeDiff, boxR, rboxR, allocR, fldR, binI, unR, pickR, mknilR, mkslR, buildSlR, buildR, extR, convI, eqB, evU, wrap64, rs_L24_DominatorRemoval]) | (with_reducible intro _) | ((with_reducible apply And.intro); omega)))
        exact ⟨_, .bool _ _, rfl⟩

end Go.Ab

namespace Go.Ab
open Go.RowKit Go.Proofs

/-- A path goes on: the immediate dominator of the next node has been seen. -/
theorem path_step {E : Adj} (hE : E.ok) (hn : 0 < E.length) {T : Nat → Option Nat} (D : DTree' E 0 (ordL E 0) T) {seen : List Nat} {b c : Nat} (hr : RA E (fun _ => False) 0 b)
    (hi : ∀ x, x ∉ seen → RA E (· = x) 0 b) (hc : c ∈ suc E b) (h0 : c ≠ 0) : ∃ d, T c = some d ∧ d ∈ seen ∧ d ≠ c := by
  have hcl : c ∈ ordL E 0 := (mem_ordL hE hn).2 (hr.step hc (fun h => h))
  cases hT : T c with
  | none => exact absurd hT (D.held c hcl h0)
  | some d =>
    obtain ⟨_, h1, h2, _⟩ := D.wt.up c d hT
    have hne : d ≠ c := fun e => by subst e; omega
    refine ⟨d, rfl, ?_, hne⟩
    have hd : Dm E 0 d c := (D.ch c hcl d h1).1 (.up hT (.refl d))
    refine Classical.byContradiction fun hs => (hd.pred hc hne) (hi d hs)

theorem hasN_ownI {H : AH} {nx r q g : Nat} {l : List Nat} {x : Nat} {y : Int} (hy : y = x) (hg : H.get r q = some (.row 1 (l.map cN) g)) (hb : l.length ≤ big) :
    CallFix Try.prog f_R24_Has [.own r q g 0 l.length, .int .i64 y] H nx (.bool (decide (x ∈ l))) := by
  subst hy
  exact hasN_own hg hb

theorem pick_at {l : List Nat} {x : Int} (hx : 0 ≤ x) (h : 0 < l.length) : ∃ i : Nat, x.tmod (l.length : Int) = i ∧ i < l.length := by
  have h1 := Int.tmod_nonneg (l.length : Int) hx
  have h2 := Int.tmod_lt_of_pos x (show (0 : Int) < l.length by omega)
  exact ⟨(x.tmod (l.length : Int)).toNat, by omega, by omega⟩

theorem L24_DominatorPaths_ok (g : Gr) (cs : List Int) (hcs : ∀ n ∈ cs, 0 ≤ n ∧ n ≤ 255) : PureFn Try.prog f_L24_DominatorPaths [.agg g.cells, encL 1 (fun n => [.int .u8 n]) cs] (· = .bool true) := by
  refine fn_x cf_L24_DominatorPaths rfl ?_
  unfold ac_L24_DominatorPaths
  have hB : big = 9223372036854775807 := rfl
  (repeat (first | (simp (disch := (first | omega | (simp only [evF, evL, implies_true, and_self]; done) | fail)) only [evS, evZ, evK, evB, evL, evR, Nat.reduceBEq, Nat.reduceAdd, Nat.reduceLeDiff, boxR, rboxR, allocR, fldR, binI, unR, pickR, mknilR, mkslR, buildSlR, buildR, extR, convI, eqB, evU, wrap64, Gr.cells, Gr.two]) | (with_reducible intro _) | ((with_reducible apply And.intro); omega)))
  refine call_read (D := noR) (L24_few_ok g) (lend_flat rfl) (fun _ h => .inr fun _ _ h => h) ?_
  rintro v ⟨b, rfl, hb⟩
  cases b with
  | false =>
    (repeat (first | (simp (disch := (first | omega | (simp only [evF, evL, implies_true, and_self]; done) | fail)) only [evS, evZ, evK, evB, evL, evR, Nat.reduceBEq, Nat.reduceAdd, Nat.reduceLeDiff, boxR, rboxR, allocR, fldR, binI, unR, pickR, mknilR, mkslR, buildSlR, buildR, extR, convI, eqB, evU, wrap64]) | (with_reducible intro _) | ((with_reducible apply And.intro); omega)))
    refine callX_fix (call_flat L24_exampleHolds_ok rfl) ?_
    (repeat (first | (simp (disch := (first | omega | (simp only [evF, evL, implies_true, and_self]; done) | fail)) only [evS, evZ, evK, evB, evL, evR, Nat.reduceBEq, Nat.reduceAdd, Nat.reduceLeDiff, boxR, rboxR, allocR, fldR, binI, unR, pickR, mknilR, mkslR, buildSlR, buildR, extR, convI, eqB, evU, wrap64, rs_L24_DominatorPaths]) | (with_reducible intro _) | ((with_reducible apply And.intro); omega)))
    exact ⟨_, .bool _ _, rfl⟩
  | true =>
    obtain ⟨hsm, h12⟩ := hb rfl
    (repeat (first | (simp (disch := (first | omega | (simp only [evF, evL, implies_true, and_self]; done) | fail)) only [evS, evZ, evK, evB, evL, evR, Nat.reduceBEq, Nat.reduceAdd, Nat.reduceLeDiff, boxR, rboxR, allocR, fldR, binI, unR, pickR, mknilR, mkslR, buildSlR, buildR, extR, convI, eqB, evU, wrap64]) | (with_reducible intro _) | ((with_reducible apply And.intro); omega)))
    (refine condX_intro (fun h0 => ?_) (fun h0 => ?_)) <;> (try simp only [decide_eq_true_eq, decide_eq_false_iff_not, Bool.not_eq_true', Bool.not_eq_false', Bool.and_eq_true, Bool.or_eq_true, not_true_eq_false, not_false_eq_true] at h0)
    · (repeat (first | (simp (disch := (first | omega | (simp only [evF, evL, implies_true, and_self]; done) | fail)) only [evS, evZ, evK, evB, evL, evR, Nat.reduceBEq, Nat.reduceAdd, Nat.reduceLeDiff, boxR, rboxR, allocR, fldR, binI, unR, pickR, mknilR, mkslR, buildSlR, buildR, extR, convI, eqB, evU, wrap64]) | (with_reducible intro _) | ((with_reducible apply And.intro); omega)))
      refine callX_fix (call_flat L24_exampleHolds_ok rfl) ?_
      (repeat (first | (simp (disch := (first | omega | (simp only [evF, evL, implies_true, and_self]; done) | fail)) only [evS, evZ, evK, evB, evL, evR, Nat.reduceBEq, Nat.reduceAdd, Nat.reduceLeDiff, boxR, rboxR, allocR, fldR, binI, unR, pickR, mknilR, mkslR, buildSlR, buildR, extR, convI, eqB, evU, wrap64, rs_L24_DominatorPaths]) | (with_reducible intro _) | ((with_reducible apply And.intro); omega)))
      exact ⟨_, .bool _ _, rfl⟩
    have hlen := g.E_len
    have hok := g.E_ok
    (repeat (first | (simp (disch := (first | omega | (simp only [evF, evL, implies_true, and_self]; done) | fail)) only [evS, evZ, evK, evB, evL, evR, Nat.reduceBEq, Nat.reduceAdd, Nat.reduceLeDiff, boxR, rboxR, allocR, fldR, binI, unR, pickR, mknilR, mkslR, buildSlR, buildR, extR, convI, eqB, evU, wrap64, Gr.cells, Gr.two]) | (with_reducible intro _) | ((with_reducible apply And.intro); omega)))
    refine callX_fix (call_flat (dominator_Tree_ok g hsm) rfl) ?_
    have htl : (treeL g.E).length = g.blocks.length := by simp [treeL, hlen]
    have hget : ∀ {T : Nat → Option Nat}, 0 < g.E.length → DTree' g.E 0 (ordL g.E 0) T → ∀ k (h : k < (treeL g.E).length), (treeL g.E)[k] = tI (T k) := fun {T} hn D k h => by
      have e : (treeL g.E)[k]? = some (tI (T k)) := by
        rw [← treeL_eq hok hn D]
        simp [outI, show k < g.E.length by omega]
      rw [List.getElem?_eq_getElem h] at e
      exact Option.some.inj e
    generalize treeL g.E = t at *
    have d1 : decide ((t.length : Int) ≠ g.blocks.length) = false := decide_eq_false (by omega)
    (repeat (first | (simp (disch := (first | omega | (simp only [evF, evL, implies_true, and_self]; done) | fail)) only [evS, evZ, evK, evB, evL, evR, Nat.reduceBEq, Nat.reduceAdd, Nat.reduceLeDiff, boxR, rboxR, allocR, fldR, binI, unR, pickR, mknilR, mkslR, buildSlR, buildR, extR, convI, eqB, evU, wrap64, encInts, d1, Gr.cells, encP]) | (with_reducible intro _) | ((with_reducible apply And.intro); omega)))
    (refine condX_intro (fun h1 => ?_) (fun h1 => ?_)) <;> (try simp only [decide_eq_true_eq, decide_eq_false_iff_not, Bool.not_eq_true', Bool.not_eq_false', Bool.and_eq_true, Bool.or_eq_true, not_true_eq_false, not_false_eq_true] at h1)
    · (repeat (first | (simp (disch := (first | omega | (simp only [evF, evL, implies_true, and_self]; done) | fail)) only [evS, evZ, evK, evB, evL, evR, Nat.reduceBEq, Nat.reduceAdd, Nat.reduceLeDiff, boxR, rboxR, allocR, fldR, binI, unR, pickR, mknilR, mkslR, buildSlR, buildR, extR, convI, eqB, evU, wrap64]) | (with_reducible intro _) | ((with_reducible apply And.intro); omega)))
      refine callX_fix (call_flat L24_exampleHolds_ok rfl) ?_
      (repeat (first | (simp (disch := (first | omega | (simp only [evF, evL, implies_true, and_self]; done) | fail)) only [evS, evZ, evK, evB, evL, evR, Nat.reduceBEq, Nat.reduceAdd, Nat.reduceLeDiff, boxR, rboxR, allocR, fldR, binI, unR, pickR, mknilR, mkslR, buildSlR, buildR, extR, convI, eqB, evU, wrap64, rs_L24_DominatorPaths]) | (with_reducible intro _) | ((with_reducible apply And.intro); omega)))
      exact ⟨_, .bool _ _, rfl⟩
    have hn0 : 0 < g.E.length := by omega
    obtain ⟨T, D⟩ := dtree_ex hok hn0
    have hgt := hget hn0 D
    have ht0 : 0 < t.length := by omega
    have h00 : t[0] = -1 := by rw [hgt, D.wt.root]; rfl
    (repeat (first | (simp (disch := (first | omega | (simp only [evF, evL, implies_true, and_self]; done) | fail)) only [evS, evZ, evK, evB, evL, evR, Nat.reduceBEq, Nat.reduceAdd, Nat.reduceLeDiff, boxR, rboxR, allocR, fldR, binI, unR, pickR, mknilR, mkslR, buildSlR, buildR, extR, convI, eqB, evU, wrap64]) | (with_reducible intro _) | ((with_reducible apply And.intro); omega)))
    refine loopX_intro (fun s : (Nat × Nat) × List Nat => ([(1, encL 1 (fun n => [AV.int .u8 n]) cs), (2, encP 2 g.cells), (5, encL 1 (fun n => [AV.int .i64 n]) t), (6, .own 0 0 0 0 s.2.length), (7, .int .i64 s.1.2), (8, .int .i64 s.1.1)], [(0, .row 1 (s.2.map cN) 0)])) 1
      (fun s => s.1.1 ≤ cs.length ∧ s.1.2 < t.length ∧ s.2.length ≤ s.1.1 + 1 ∧ RA g.E (fun _ => False) 0 s.1.2 ∧ ∀ x, x ∉ s.2 → RA g.E (· = x) 0 s.1.2) (fun s => cs.length - s.1.1) ((0, 0), [0])
      ⟨Nat.zero_le _, ht0, by simp, .refl (by simp), fun x hx => .refl (fun e => hx (by simp [← e]))⟩ (Ent.tab [(0, 0, 0)] [] rfl (by (try simp only [evW, evK, evB, evL, Nat.reduceBEq, Nat.reduceAdd, Nat.reduceSub, Nat.reduceLeDiff, Nat.reduceLT, implies_true, and_self, Int.natCast_zero, Int.natCast_one, Int.cast_ofNat_Int, evV, encInts, encNats, encBools, encP, Gr.cells]) <;> (repeat' with_reducible apply And.intro) <;> first | omega | exact vw_nats rfl rfl (by omega) | exact vw_ints rfl rfl (by omega) | exact vw_bools rfl rfl (by omega) | exact rowV_fe (fun _ => rfl) | exact rowV_fe_start (c := cN) (fun _ => rfl) rfl | exact rowsV_fam (fun _ => rfl) (by decide) ⟨rfl, rfl⟩ trivial | exact rowsV_fam (fun _ => rfl) (by decide) (fun _ _ => ⟨rfl, rfl⟩) trivial | (simp; done)) (by (try simp only [evW, evK, evB, evL, Nat.reduceBEq, Nat.reduceAdd, Nat.reduceSub, Nat.reduceLeDiff, Nat.reduceLT, implies_true, and_self, Int.natCast_zero, Int.natCast_one, Int.cast_ofNat_Int, evV, encInts, encNats, encBools, encP, Gr.cells]) <;> (repeat' with_reducible apply And.intro) <;> first | omega | exact vw_nats rfl rfl (by omega) | exact vw_ints rfl rfl (by omega) | exact vw_bools rfl rfl (by omega) | exact rowV_fe (fun _ => rfl) | exact rowV_fe_start (c := cN) (fun _ => rfl) rfl | exact rowsV_fam (fun _ => rfl) (by decide) ⟨rfl, rfl⟩ trivial | exact rowsV_fam (fun _ => rfl) (by decide) (fun _ _ => ⟨rfl, rfl⟩) trivial | (simp; done))) ?_
    rintro ⟨⟨i, b⟩, seen⟩ ⟨hi, hbt, hsl, hra, hav⟩ wf
    simp only at hi hbt hsl hra hav
    unfold ac_L24_DominatorPaths_l0
    (repeat (first | (simp (disch := (first | omega | (simp only [evF, evL, implies_true, and_self]; done) | fail)) only [evS, evZ, evK, evB, evL, evR, Nat.reduceBEq, Nat.reduceAdd, Nat.reduceLeDiff, boxR, rboxR, allocR, fldR, binI, unR, pickR, mknilR, mkslR, buildSlR, buildR, extR, convI, eqB, evU, wrap64, encP, Gr.cells]) | (with_reducible intro _) | ((with_reducible apply And.intro); omega)))
    (refine condX_intro (fun h2 => ?_) (fun h2 => ?_)) <;> (try simp only [decide_eq_true_eq, decide_eq_false_iff_not, Bool.not_eq_true', Bool.not_eq_false', Bool.and_eq_true, Bool.or_eq_true, not_true_eq_false, not_false_eq_true] at h2)
    · have hi' : i < cs.length := by omega
      (repeat (first | (simp (disch := (first | omega | (simp only [evF, evL, implies_true, and_self]; done) | fail)) only [evS, evZ, evK, evB, evL, evR, Nat.reduceBEq, Nat.reduceAdd, Nat.reduceLeDiff, boxR, rboxR, allocR, fldR, binI, unR, pickR, mknilR, mkslR, buildSlR, buildR, extR, convI, eqB, evU, wrap64, Gr.two]) | (with_reducible intro _) | ((with_reducible apply And.intro); omega)))
      refine callX_fix (call_flat (R24_Edges_ok g hsm b (by omega)) rfl) ?_
      have hsu : ∀ c ∈ suc g.E b, c < g.E.length := hok b
      have hst := fun c => path_step hok hn0 D hra hav (c := c)
      have hnx : ∀ c ∈ suc g.E b, RA g.E (fun _ => False) 0 c ∧ ∀ x, x ∉ seen ++ [c] → RA g.E (· = x) 0 c := fun c hc => ⟨hra.step hc (fun h => h), fun x hx => (hav x (fun h => hx (by simp [h]))).step hc (fun e => hx (by simp [e]))⟩
      generalize suc g.E b = l at *
      (repeat (first | (simp (disch := (first | omega | (simp only [evF, evL, implies_true, and_self]; done) | fail)) only [evS, evZ, evK, evB, evL, evR, Nat.reduceBEq, Nat.reduceAdd, Nat.reduceLeDiff, boxR, rboxR, allocR, fldR, binI, unR, pickR, mknilR, mkslR, buildSlR, buildR, extR, convI, eqB, evU, wrap64, encNats]) | (with_reducible intro _) | ((with_reducible apply And.intro); omega)))
      (refine condX_intro (fun h3 => ?_) (fun h3 => ?_)) <;> (try simp only [decide_eq_true_eq, decide_eq_false_iff_not, Bool.not_eq_true', Bool.not_eq_false', Bool.and_eq_true, Bool.or_eq_true, not_true_eq_false, not_false_eq_true] at h3)
      · (repeat (first | (simp (disch := (first | omega | (simp only [evF, evL, implies_true, and_self]; done) | fail)) only [evS, evZ, evK, evB, evL, evR, Nat.reduceBEq, Nat.reduceAdd, Nat.reduceLeDiff, boxR, rboxR, allocR, fldR, binI, unR, pickR, mknilR, mkslR, buildSlR, buildR, extR, convI, eqB, evU, wrap64]) | (with_reducible intro _) | ((with_reducible apply And.intro); omega)))
        unfold ac_L24_DominatorPaths_k1
        have d3 : decide ((-1 : Int) = -1) = true := rfl
        (repeat (first | (simp (disch := (first | omega | (simp only [evF, evL, implies_true, and_self]; done) | fail)) only [evS, evZ, evK, evB, evL, evR, Nat.reduceBEq, Nat.reduceAdd, Nat.reduceLeDiff, boxR, rboxR, allocR, fldR, binI, unR, pickR, mknilR, mkslR, buildSlR, buildR, extR, convI, eqB, evU, wrap64, Int.toNat_zero, getD_map ht0, h00, d3]) | (with_reducible intro _) | ((with_reducible apply And.intro); omega)))
        refine callX_fix (call_flat L24_exampleHolds_ok rfl) ?_
        (repeat (first | (simp (disch := (first | omega | (simp only [evF, evL, implies_true, and_self]; done) | fail)) only [evS, evZ, evK, evB, evL, evR, Nat.reduceBEq, Nat.reduceAdd, Nat.reduceLeDiff, boxR, rboxR, allocR, fldR, binI, unR, pickR, mknilR, mkslR, buildSlR, buildR, extR, convI, eqB, evU, wrap64, rs_L24_DominatorPaths]) | (with_reducible intro _) | ((with_reducible apply And.intro); omega)))
        exact ⟨_, .bool _ _, rfl⟩
      have hl0 : 0 < l.length := by omega
      have hci := hcs _ (List.getElem_mem hi')
      obtain ⟨j, hj, hjl⟩ := pick_at (l := l) hci.1 hl0
      have hc := hnx _ (List.getElem_mem hjl)
      have hcl := hsu _ (List.getElem_mem hjl)
      have hcs' := hst _ (List.getElem_mem hjl)
      (repeat (first | (simp (disch := (first | omega | (simp only [evF, evL, implies_true, and_self]; done) | fail)) only [evS, evZ, evK, evB, evL, evR, Nat.reduceBEq, Nat.reduceAdd, Nat.reduceLeDiff, boxR, rboxR, allocR, fldR, binI, unR, pickR, mknilR, mkslR, buildSlR, buildR, extR, convI, eqB, evU, wrap64, getD_map hi', hj, getD_map hjl]) | (with_reducible intro _) | ((with_reducible apply And.intro); omega)))
      generalize l[j] = c at *
      have hct : c < t.length := by omega
      have hne : t[c] ≠ (c : Int) := by
        rw [hgt]
        by_cases h0 : c = 0
        · subst h0; rw [D.wt.root]; decide
        · obtain ⟨d, e1, _, e2⟩ := hcs' h0
          rw [e1]
          simp only [tI]
          omega
      have dne : decide (t[c] = (c : Int)) = false := decide_eq_false hne
      generalize h4 : decide ((c : Int) ≠ 0) = h4b; cases h4b <;> simp only [decide_eq_true_eq, decide_eq_false_iff_not, ne_eq, Classical.not_not] at h4
      · (repeat (first | (simp (disch := (first | omega | (simp only [evF, evL, implies_true, and_self]; done) | fail)) only [evS, evZ, evK, evB, evL, evR, Nat.reduceBEq, Nat.reduceAdd, Nat.reduceLeDiff, boxR, rboxR, allocR, fldR, binI, unR, pickR, mknilR, mkslR, buildSlR, buildR, extR, convI, eqB, evU, wrap64, getD_map hct, dne]) | (with_reducible intro _) | ((with_reducible apply And.intro); omega)))
        exact ⟨((i + 1, c), seen ++ [c]), ⟨by simp only; omega, by simp only; omega, by simp; omega, hc.1, hc.2⟩, by simp only; omega, (Ent.tab [(0, 0, 1)] [] rfl (by (try simp only [evW, evK, evB, evL, Nat.reduceBEq, Nat.reduceAdd, Nat.reduceSub, Nat.reduceLeDiff, Nat.reduceLT, implies_true, and_self, Int.natCast_zero, Int.natCast_one, Int.cast_ofNat_Int, evV, encInts, encNats, encBools, encP, Gr.cells]) <;> (repeat' with_reducible apply And.intro) <;> first | omega | exact vw_nats rfl rfl (by omega) | exact vw_ints rfl rfl (by omega) | exact vw_bools rfl rfl (by omega) | exact rowV_fe (fun _ => rfl) | exact rowV_fe_start (c := cN) (fun _ => rfl) rfl | exact rowsV_fam (fun _ => rfl) (by decide) ⟨rfl, rfl⟩ trivial | exact rowsV_fam (fun _ => rfl) (by decide) (fun _ _ => ⟨rfl, rfl⟩) trivial | (simp; done)) (by (try simp only [evW, evK, evB, evL, Nat.reduceBEq, Nat.reduceAdd, Nat.reduceSub, Nat.reduceLeDiff, Nat.reduceLT, implies_true, and_self, Int.natCast_zero, Int.natCast_one, Int.cast_ofNat_Int, evV, encInts, encNats, encBools, encP, Gr.cells]) <;> (repeat' with_reducible apply And.intro) <;> first | omega | exact vw_nats rfl rfl (by omega) | exact vw_ints rfl rfl (by omega) | exact vw_bools rfl rfl (by omega) | exact rowV_fe (fun _ => rfl) | exact rowV_fe_start (c := cN) (fun _ => rfl) rfl | exact rowsV_fam (fun _ => rfl) (by decide) ⟨rfl, rfl⟩ trivial | exact rowsV_fam (fun _ => rfl) (by decide) (fun _ _ => ⟨rfl, rfl⟩) trivial | (simp; done)))⟩
      · obtain ⟨d, e1, e2, _⟩ := hcs' (by omega)
        have htc : t[c] = (d : Int) := by rw [hgt, e1]; rfl
        (repeat (first | (simp (disch := (first | omega | (simp only [evF, evL, implies_true, and_self]; done) | fail)) only [evS, evZ, evK, evB, evL, evR, Nat.reduceBEq, Nat.reduceAdd, Nat.reduceLeDiff, boxR, rboxR, allocR, fldR, binI, unR, pickR, mknilR, mkslR, buildSlR, buildR, extR, convI, eqB, evU, wrap64, getD_map hct]) | (with_reducible intro _) | ((with_reducible apply And.intro); omega)))
        refine callX_fix (hasN_ownI (x := d) htc rfl (by omega)) ?_
        rw [decide_eq_true e2]
        (repeat (first | (simp (disch := (first | omega | (simp only [evF, evL, implies_true, and_self]; done) | fail)) only [evS, evZ, evK, evB, evL, evR, Nat.reduceBEq, Nat.reduceAdd, Nat.reduceLeDiff, boxR, rboxR, allocR, fldR, binI, unR, pickR, mknilR, mkslR, buildSlR, buildR, extR, convI, eqB, evU, wrap64, getD_map hct, dne]) | (with_reducible intro _) | ((with_reducible apply And.intro); omega)))
        exact ⟨((i + 1, c), seen ++ [c]), ⟨by simp only; omega, by simp only; omega, by simp; omega, hc.1, hc.2⟩, by simp only; omega, (Ent.tab [(0, 0, 1)] [] rfl (by (try simp only [evW, evK, evB, evL, Nat.reduceBEq, Nat.reduceAdd, Nat.reduceSub, Nat.reduceLeDiff, Nat.reduceLT, implies_true, and_self, Int.natCast_zero, Int.natCast_one, Int.cast_ofNat_Int, evV, encInts, encNats, encBools, encP, Gr.cells]) <;> (repeat' with_reducible apply And.intro) <;> first | omega | exact vw_nats rfl rfl (by omega) | exact vw_ints rfl rfl (by omega) | exact vw_bools rfl rfl (by omega) | exact rowV_fe (fun _ => rfl) | exact rowV_fe_start (c := cN) (fun _ => rfl) rfl | exact rowsV_fam (fun _ => rfl) (by decide) ⟨rfl, rfl⟩ trivial | exact rowsV_fam (fun _ => rfl) (by decide) (fun _ _ => ⟨rfl, rfl⟩) trivial | (simp; done)) (by (try simp only [evW, evK, evB, evL, Nat.reduceBEq, Nat.reduceAdd, Nat.reduceSub, Nat.reduceLeDiff, Nat.reduceLT, implies_true, and_self, Int.natCast_zero, Int.natCast_one, Int.cast_ofNat_Int, evV, encInts, encNats, encBools, encP, Gr.cells]) <;> (repeat' with_reducible apply And.intro) <;> first | omega | exact vw_nats rfl rfl (by omega) | exact vw_ints rfl rfl (by omega) | exact vw_bools rfl rfl (by omega) | exact rowV_fe (fun _ => rfl) | exact rowV_fe_start (c := cN) (fun _ => rfl) rfl | exact rowsV_fam (fun _ => rfl) (by decide) ⟨rfl, rfl⟩ trivial | exact rowsV_fam (fun _ => rfl) (by decide) (fun _ _ => ⟨rfl, rfl⟩) trivial | (simp; done)))⟩
    · unfold ac_L24_DominatorPaths_k1
      have d3 : decide ((-1 : Int) = -1) = true := rfl
      (repeat (first | (simp (disch := (first | omega | (simp only [evF, evL, implies_true, and_self]; done) | fail)) only [evS, evZ, evK, evB, evL, evR, Nat.reduceBEq, Nat.reduceAdd, Nat.reduceLeDiff, boxR, rboxR, allocR, fldR, binI, unR, pickR, mknilR, mkslR, buildSlR, buildR, extR, convI, eqB, evU, wrap64, Int.toNat_zero, getD_map ht0, h00, d3]) | (with_reducible intro _) | ((with_reducible apply And.intro); omega)))
      refine callX_fix (call_flat L24_exampleHolds_ok rfl) ?_
      (repeat (first | (simp (disch := (first | omega | (simp only [evF, evL, implies_true, and_self]; done) | fail)) only [evS, evZ, evK, evB, evL, evR, Nat.reduceBEq, Nat.reduceAdd, Nat.reduceLeDiff, boxR, rboxR, allocR, fldR, binI, unR, pickR, mknilR, mkslR, buildSlR, buildR, extR, convI, eqB, evU, wrap64, rs_L24_DominatorPaths]) | (with_reducible intro _) | ((with_reducible apply And.intro); omega)))
      exact ⟨_, .bool _ _, rfl⟩

end Go.Ab

namespace Go.Ab
open Go.RowKit Go.Proofs

theorem near_mem {S : Adj} : ∀ (l : List Nat) (best : Int), l.foldl (nearAdd S) best = best ∨ ∃ a ∈ l, l.foldl (nearAdd S) best = a
  | [], best => .inl rfl
  | a :: l, best => by
    rw [List.foldl_cons]
    rcases near_mem l (nearAdd S best a) with h | ⟨c, h1, h2⟩
    · rw [h]
      unfold nearAdd
      split
      · exact .inr ⟨a, by simp, rfl⟩
      · exact .inl rfl
    · exact .inr ⟨c, by simp [h1], h2⟩

theorem postL_mem {E : Adj} {f : Nat} (hf : f < (postL E).length) : (postL E)[f] = -1 ∨ ∃ a : Nat, (postL E)[f] = a ∧ a < E.length ∧ pdomP E f a = true := by
  have hfl : f < E.length := by simpa [postL] using hf
  have e : (postL E)[f] = nearL (postsL E) f := by simp [postL]
  rw [e]
  unfold nearL
  have e2 : suc (postsL E) f = (List.range E.length).filter fun a => pdomP E f a := by simp [suc, postsL, hfl]
  rcases near_mem (S := postsL E) (suc (postsL E) f) (-1) with h | ⟨a, h1, h2⟩
  · exact .inl h
  · rw [e2] at h1
    have := List.mem_filter.1 h1
    exact .inr ⟨a, h2, List.mem_range.1 this.1, this.2⟩

theorem post_ne {E : Adj} {f : Nat} (hf : f < (postL E).length) : (postL E)[f] ≠ (f : Int) := by
  rcases postL_mem hf with h | ⟨a, h1, h2, h3⟩
  · rw [h]; omega
  · rw [h1]
    unfold pdomP at h3
    simp only [Bool.and_eq_true, decide_eq_true_eq] at h3
    have := h3.1.2
    omega

theorem post_out {E : Adj} (hE : E.ok) {f e : Nat} (hf : f < (postL E).length) (he : suc E e = []) (hel : e < E.length) (h : RA E (IsN (postL E)[f]) f e) : (postL E)[f] < 0 := by
  have hfl : f < E.length := by simpa [postL] using hf
  rcases postL_mem hf with h1 | ⟨a, h1, h2, h3⟩
  · rw [h1]; omega
  · rw [h1] at h
    have h4 := (leaves_iff hE hfl (x := (a : Int))).2 ⟨e, he, hel, h⟩
    unfold pdomP at h3
    rw [h4] at h3
    simp at h3

theorem L24_DominatorPost_ok (g : Gr) (x : Int) (cs : List Int) (hx : 0 ≤ x ∧ x ≤ 255) (hcs : ∀ n ∈ cs, 0 ≤ n ∧ n ≤ 255) : PureFn Try.prog f_L24_DominatorPost [.agg g.cells, .int .u8 x, encL 1 (fun n => [.int .u8 n]) cs] (· = .bool true) := by
  refine fn_x cf_L24_DominatorPost rfl ?_
  unfold ac_L24_DominatorPost
  have hB : big = 9223372036854775807 := rfl
  (repeat (first | (simp (disch := (first | omega | (simp only [evF, evL, implies_true, and_self]; done) | fail)) only [evS, evZ, evK, evB, evL, evR, Nat.reduceBEq, Nat.reduceAdd, Nat.reduceLeDiff, boxR, rboxR, allocR, fldR, binI, unR, pickR, mknilR, mkslR, buildSlR, buildR, extR, convI, eqB, evU, wrap64, Gr.cells, Gr.two]) | (with_reducible intro _) | ((with_reducible apply And.intro); omega)))
  refine call_read (D := noR) (L24_few_ok g) (lend_flat rfl) (fun _ h => .inr fun _ _ h => h) ?_
  rintro v ⟨b, rfl, hb⟩
  cases b with
  | false =>
    (repeat (first | (simp (disch := (first | omega | (simp only [evF, evL, implies_true, and_self]; done) | fail)) only [evS, evZ, evK, evB, evL, evR, Nat.reduceBEq, Nat.reduceAdd, Nat.reduceLeDiff, boxR, rboxR, allocR, fldR, binI, unR, pickR, mknilR, mkslR, buildSlR, buildR, extR, convI, eqB, evU, wrap64]) | (with_reducible intro _) | ((with_reducible apply And.intro); omega)))
    refine callX_fix (call_flat L24_exampleHolds_ok rfl) ?_
    (repeat (first | (simp (disch := (first | omega | (simp only [evF, evL, implies_true, and_self]; done) | fail)) only [evS, evZ, evK, evB, evL, evR, Nat.reduceBEq, Nat.reduceAdd, Nat.reduceLeDiff, boxR, rboxR, allocR, fldR, binI, unR, pickR, mknilR, mkslR, buildSlR, buildR, extR, convI, eqB, evU, wrap64, rs_L24_DominatorPost]) | (with_reducible intro _) | ((with_reducible apply And.intro); omega)))
    exact ⟨_, .bool _ _, rfl⟩
  | true =>
    obtain ⟨hsm, h12⟩ := hb rfl
    (repeat (first | (simp (disch := (first | omega | (simp only [evF, evL, implies_true, and_self]; done) | fail)) only [evS, evZ, evK, evB, evL, evR, Nat.reduceBEq, Nat.reduceAdd, Nat.reduceLeDiff, boxR, rboxR, allocR, fldR, binI, unR, pickR, mknilR, mkslR, buildSlR, buildR, extR, convI, eqB, evU, wrap64]) | (with_reducible intro _) | ((with_reducible apply And.intro); omega)))
    (refine condX_intro (fun h0 => ?_) (fun h0 => ?_)) <;> (try simp only [decide_eq_true_eq, decide_eq_false_iff_not, Bool.not_eq_true', Bool.not_eq_false', Bool.and_eq_true, Bool.or_eq_true, not_true_eq_false, not_false_eq_true] at h0)
    · (repeat (first | (simp (disch := (first | omega | (simp only [evF, evL, implies_true, and_self]; done) | fail)) only [evS, evZ, evK, evB, evL, evR, Nat.reduceBEq, Nat.reduceAdd, Nat.reduceLeDiff, boxR, rboxR, allocR, fldR, binI, unR, pickR, mknilR, mkslR, buildSlR, buildR, extR, convI, eqB, evU, wrap64]) | (with_reducible intro _) | ((with_reducible apply And.intro); omega)))
      refine callX_fix (call_flat L24_exampleHolds_ok rfl) ?_
      (repeat (first | (simp (disch := (first | omega | (simp only [evF, evL, implies_true, and_self]; done) | fail)) only [evS, evZ, evK, evB, evL, evR, Nat.reduceBEq, Nat.reduceAdd, Nat.reduceLeDiff, boxR, rboxR, allocR, fldR, binI, unR, pickR, mknilR, mkslR, buildSlR, buildR, extR, convI, eqB, evU, wrap64, rs_L24_DominatorPost]) | (with_reducible intro _) | ((with_reducible apply And.intro); omega)))
      exact ⟨_, .bool _ _, rfl⟩
    have hlen := g.E_len
    have hok := g.E_ok
    (repeat (first | (simp (disch := (first | omega | (simp only [evF, evL, implies_true, and_self]; done) | fail)) only [evS, evZ, evK, evB, evL, evR, Nat.reduceBEq, Nat.reduceAdd, Nat.reduceLeDiff, boxR, rboxR, allocR, fldR, binI, unR, pickR, mknilR, mkslR, buildSlR, buildR, extR, convI, eqB, evU, wrap64, Gr.cells, Gr.two]) | (with_reducible intro _) | ((with_reducible apply And.intro); omega)))
    refine callX_fix (call_flat (dominator_PostTree_ok g hsm) rfl) ?_
    (repeat (first | (simp (disch := (first | omega | (simp only [evF, evL, implies_true, and_self]; done) | fail)) only [evS, evZ, evK, evB, evL, evR, Nat.reduceBEq, Nat.reduceAdd, Nat.reduceLeDiff, boxR, rboxR, allocR, fldR, binI, unR, pickR, mknilR, mkslR, buildSlR, buildR, extR, convI, eqB, evU, wrap64, Gr.cells, Gr.two]) | (with_reducible intro _) | ((with_reducible apply And.intro); omega)))
    refine callX_fix (call_flat (R24_PostTree_ok g hsm) rfl) ?_
    (repeat (first | (simp (disch := (first | omega | (simp only [evF, evL, implies_true, and_self]; done) | fail)) only [evS, evZ, evK, evB, evL, evR, Nat.reduceBEq, Nat.reduceAdd, Nat.reduceLeDiff, boxR, rboxR, allocR, fldR, binI, unR, pickR, mknilR, mkslR, buildSlR, buildR, extR, convI, eqB, evU, wrap64]) | (with_reducible intro _) | ((with_reducible apply And.intro); omega)))
    refine callX_fix (call_flat (R24_Ints_ok _ _) rfl) ?_
    rw [decide_eq_true (rfl : postL g.E = postL g.E)]
    have htl : (postL g.E).length = g.blocks.length := by simp [postL, hlen]
    have hpn := fun f (h : f < (postL g.E).length) => post_ne h
    have hpo := fun f e (h : f < (postL g.E).length) => post_out hok (e := e) h
    generalize postL g.E = t at *
    (repeat (first | (simp (disch := (first | omega | (simp only [evF, evL, implies_true, and_self]; done) | fail)) only [evS, evZ, evK, evB, evL, evR, Nat.reduceBEq, Nat.reduceAdd, Nat.reduceLeDiff, boxR, rboxR, allocR, fldR, binI, unR, pickR, mknilR, mkslR, buildSlR, buildR, extR, convI, eqB, evU, wrap64, encInts]) | (with_reducible intro _) | ((with_reducible apply And.intro); omega)))
    (refine condX_intro (fun h1 => ?_) (fun h1 => ?_)) <;> (try simp only [decide_eq_true_eq, decide_eq_false_iff_not, Bool.not_eq_true', Bool.not_eq_false', Bool.and_eq_true, Bool.or_eq_true, not_true_eq_false, not_false_eq_true] at h1)
    · (repeat (first | (simp (disch := (first | omega | (simp only [evF, evL, implies_true, and_self]; done) | fail)) only [evS, evZ, evK, evB, evL, evR, Nat.reduceBEq, Nat.reduceAdd, Nat.reduceLeDiff, boxR, rboxR, allocR, fldR, binI, unR, pickR, mknilR, mkslR, buildSlR, buildR, extR, convI, eqB, evU, wrap64]) | (with_reducible intro _) | ((with_reducible apply And.intro); omega)))
      refine callX_fix (call_flat L24_exampleHolds_ok rfl) ?_
      (repeat (first | (simp (disch := (first | omega | (simp only [evF, evL, implies_true, and_self]; done) | fail)) only [evS, evZ, evK, evB, evL, evR, Nat.reduceBEq, Nat.reduceAdd, Nat.reduceLeDiff, boxR, rboxR, allocR, fldR, binI, unR, pickR, mknilR, mkslR, buildSlR, buildR, extR, convI, eqB, evU, wrap64, rs_L24_DominatorPost]) | (with_reducible intro _) | ((with_reducible apply And.intro); omega)))
      exact ⟨_, .bool _ _, rfl⟩
    have ht0 : 0 < t.length := by omega
    obtain ⟨f, hf, hft⟩ : ∃ i : Nat, x.tmod (t.length : Int) = i ∧ i < t.length := by
      have h1 := Int.tmod_nonneg (t.length : Int) hx.1
      have h2 := Int.tmod_lt_of_pos x (show (0 : Int) < t.length by omega)
      exact ⟨(x.tmod (t.length : Int)).toNat, by omega, by omega⟩
    have hfn := hpn f hft
    have hfo := fun e => hpo f e hft
    (repeat (first | (simp (disch := (first | omega | (simp only [evF, evL, implies_true, and_self]; done) | fail)) only [evS, evZ, evK, evB, evL, evR, Nat.reduceBEq, Nat.reduceAdd, Nat.reduceLeDiff, boxR, rboxR, allocR, fldR, binI, unR, pickR, mknilR, mkslR, buildSlR, buildR, extR, convI, eqB, evU, wrap64, hf]) | (with_reducible intro _) | ((with_reducible apply And.intro); omega)))
    refine loopX_intro (fun s : (Nat × Nat) × Bool => ([(2, encL 1 (fun n => [AV.int .u8 n]) cs), (3, encP 2 g.cells), (7, encL 1 (fun n => [AV.int .i64 n]) t), (8, .int .i64 f), (9, .int .i64 s.1.2), (10, .bool s.2), (11, .int .i64 s.1.1)], [])) 0
      (fun s => s.1.1 ≤ cs.length ∧ s.1.2 < t.length ∧ (s.2 = true ∨ RA g.E (IsN t[f]) f s.1.2)) (fun s => cs.length - s.1.1) ((0, f), false)
      ⟨Nat.zero_le _, hft, .inr (.refl (fun e => hfn e.symm))⟩ (Ent.keep rfl (by (try simp [subK, Kn.get, beq_eq]) <;> (repeat' with_reducible apply And.intro) <;> first | rfl | omega | (simp; done))) ?_
    rintro ⟨⟨i, b⟩, met⟩ ⟨hi, hbt, hav⟩ wf
    simp only at hi hbt hav
    unfold ac_L24_DominatorPost_l0
    (repeat (first | (simp (disch := (first | omega | (simp only [evF, evL, implies_true, and_self]; done) | fail)) only [evS, evZ, evK, evB, evL, evR, Nat.reduceBEq, Nat.reduceAdd, Nat.reduceLeDiff, boxR, rboxR, allocR, fldR, binI, unR, pickR, mknilR, mkslR, buildSlR, buildR, extR, convI, eqB, evU, wrap64, encP, Gr.cells]) | (with_reducible intro _) | ((with_reducible apply And.intro); omega)))
    (refine condX_intro (fun h2 => ?_) (fun h2 => ?_)) <;> (try simp only [decide_eq_true_eq, decide_eq_false_iff_not, Bool.not_eq_true', Bool.not_eq_false', Bool.and_eq_true, Bool.or_eq_true, not_true_eq_false, not_false_eq_true] at h2)
    · have hi' : i < cs.length := by omega
      (repeat (first | (simp (disch := (first | omega | (simp only [evF, evL, implies_true, and_self]; done) | fail)) only [evS, evZ, evK, evB, evL, evR, Nat.reduceBEq, Nat.reduceAdd, Nat.reduceLeDiff, boxR, rboxR, allocR, fldR, binI, unR, pickR, mknilR, mkslR, buildSlR, buildR, extR, convI, eqB, evU, wrap64, Gr.two]) | (with_reducible intro _) | ((with_reducible apply And.intro); omega)))
      refine callX_fix (call_flat (R24_Edges_ok g hsm b (by omega)) rfl) ?_
      have hsu : ∀ c ∈ suc g.E b, c < g.E.length := hok b
      (repeat (first | (simp (disch := (first | omega | (simp only [evF, evL, implies_true, and_self]; done) | fail)) only [evS, evZ, evK, evB, evL, evR, Nat.reduceBEq, Nat.reduceAdd, Nat.reduceLeDiff, boxR, rboxR, allocR, fldR, binI, unR, pickR, mknilR, mkslR, buildSlR, buildR, extR, convI, eqB, evU, wrap64, encNats]) | (with_reducible intro _) | ((with_reducible apply And.intro); omega)))
      (refine condX_intro (fun h3 => ?_) (fun h3 => ?_)) <;> (try simp only [decide_eq_true_eq, decide_eq_false_iff_not, Bool.not_eq_true', Bool.not_eq_false', Bool.and_eq_true, Bool.or_eq_true, not_true_eq_false, not_false_eq_true] at h3)
      · (repeat (first | (simp (disch := (first | omega | (simp only [evF, evL, implies_true, and_self]; done) | fail)) only [evS, evZ, evK, evB, evL, evR, Nat.reduceBEq, Nat.reduceAdd, Nat.reduceLeDiff, boxR, rboxR, allocR, fldR, binI, unR, pickR, mknilR, mkslR, buildSlR, buildR, extR, convI, eqB, evU, wrap64]) | (with_reducible intro _) | ((with_reducible apply And.intro); omega)))
        unfold ac_L24_DominatorPost_k1
        (repeat (first | (simp (disch := (first | omega | (simp only [evF, evL, implies_true, and_self]; done) | fail)) only [evS, evZ, evK, evB, evL, evR, Nat.reduceBEq, Nat.reduceAdd, Nat.reduceLeDiff, boxR, rboxR, allocR, fldR, binI, unR, pickR, mknilR, mkslR, buildSlR, buildR, extR, convI, eqB, evU, wrap64, encP, Gr.cells, Gr.two]) | (with_reducible intro _) | ((with_reducible apply And.intro); omega)))
        refine callX_fix (call_flat (R24_Edges_ok g hsm b (by omega)) rfl) ?_
        by_cases hl : suc g.E b = []
        · rw [hl]
          have hd : met = true ∨ t[f] < 0 := by
            rcases hav with h | h
            · exact .inl h
            · exact .inr (hfo b hl (by omega) h)
          have dl : decide (((0 : Nat) : Int) ≠ 0) = false := rfl
          (repeat (first | (simp (disch := (first | omega | (simp only [evF, evL, implies_true, and_self]; done) | fail)) only [evS, evZ, evK, evB, evL, evR, Nat.reduceBEq, Nat.reduceAdd, Nat.reduceLeDiff, boxR, rboxR, allocR, fldR, binI, unR, pickR, mknilR, mkslR, buildSlR, buildR, extR, convI, eqB, evU, wrap64, encNats, dl, getD_map hft]) | (with_reducible intro _) | ((with_reducible apply And.intro); omega)))
          by_cases hn : t[f] < 0
          · have dn : decide (t[f] < 0) = true := decide_eq_true hn
            rw [dn]
            (repeat (first | (simp (disch := (first | omega | (simp only [evF, evL, implies_true, and_self]; done) | fail)) only [evS, evZ, evK, evB, evL, evR, Nat.reduceBEq, Nat.reduceAdd, Nat.reduceLeDiff, boxR, rboxR, allocR, fldR, binI, unR, pickR, mknilR, mkslR, buildSlR, buildR, extR, convI, eqB, evU, wrap64]) | (with_reducible intro _) | ((with_reducible apply And.intro); omega)))
            refine callX_fix (call_flat L24_exampleHolds_ok rfl) ?_
            (repeat (first | (simp (disch := (first | omega | (simp only [evF, evL, implies_true, and_self]; done) | fail)) only [evS, evZ, evK, evB, evL, evR, Nat.reduceBEq, Nat.reduceAdd, Nat.reduceLeDiff, boxR, rboxR, allocR, fldR, binI, unR, pickR, mknilR, mkslR, buildSlR, buildR, extR, convI, eqB, evU, wrap64, rs_L24_DominatorPost]) | (with_reducible intro _) | ((with_reducible apply And.intro); omega)))
            exact ⟨_, .bool _ _, rfl⟩
          · have dn : decide (t[f] < 0) = false := decide_eq_false hn
            obtain rfl : met = true := hd.resolve_right hn
            rw [dn]
            (repeat (first | (simp (disch := (first | omega | (simp only [evF, evL, implies_true, and_self]; done) | fail)) only [evS, evZ, evK, evB, evL, evR, Nat.reduceBEq, Nat.reduceAdd, Nat.reduceLeDiff, boxR, rboxR, allocR, fldR, binI, unR, pickR, mknilR, mkslR, buildSlR, buildR, extR, convI, eqB, evU, wrap64]) | (with_reducible intro _) | ((with_reducible apply And.intro); omega)))
            refine callX_fix (call_flat L24_exampleHolds_ok rfl) ?_
            (repeat (first | (simp (disch := (first | omega | (simp only [evF, evL, implies_true, and_self]; done) | fail)) only [evS, evZ, evK, evB, evL, evR, Nat.reduceBEq, Nat.reduceAdd, Nat.reduceLeDiff, boxR, rboxR, allocR, fldR, binI, unR, pickR, mknilR, mkslR, buildSlR, buildR, extR, convI, eqB, evU, wrap64, rs_L24_DominatorPost]) | (with_reducible intro _) | ((with_reducible apply And.intro); omega)))
            exact ⟨_, .bool _ _, rfl⟩
        · have dl : decide (((suc g.E b).length : Int) ≠ 0) = true := decide_eq_true (fun e => hl (List.eq_nil_of_length_eq_zero (by omega)))
          (repeat (first | (simp (disch := (first | omega | (simp only [evF, evL, implies_true, and_self]; done) | fail)) only [evS, evZ, evK, evB, evL, evR, Nat.reduceBEq, Nat.reduceAdd, Nat.reduceLeDiff, boxR, rboxR, allocR, fldR, binI, unR, pickR, mknilR, mkslR, buildSlR, buildR, extR, convI, eqB, evU, wrap64, encNats, dl]) | (with_reducible intro _) | ((with_reducible apply And.intro); omega)))
          refine callX_fix (call_flat L24_exampleHolds_ok rfl) ?_
          (repeat (first | (simp (disch := (first | omega | (simp only [evF, evL, implies_true, and_self]; done) | fail)) only [evS, evZ, evK, evB, evL, evR, Nat.reduceBEq, Nat.reduceAdd, Nat.reduceLeDiff, boxR, rboxR, allocR, fldR, binI, unR, pickR, mknilR, mkslR, buildSlR, buildR, extR, convI, eqB, evU, wrap64, rs_L24_DominatorPost]) | (with_reducible intro _) | ((with_reducible apply And.intro); omega)))
          exact ⟨_, .bool _ _, rfl⟩
      have hl0 : 0 < (suc g.E b).length := by omega
      have hci := hcs _ (List.getElem_mem hi')
      obtain ⟨j, hj, hjl⟩ := pick_at (l := suc g.E b) hci.1 hl0
      have hcm := List.getElem_mem hjl
      have hcl := hsu _ hcm
      (repeat (first | (simp (disch := (first | omega | (simp only [evF, evL, implies_true, and_self]; done) | fail)) only [evS, evZ, evK, evB, evL, evR, Nat.reduceBEq, Nat.reduceAdd, Nat.reduceLeDiff, boxR, rboxR, allocR, fldR, binI, unR, pickR, mknilR, mkslR, buildSlR, buildR, extR, convI, eqB, evU, wrap64, getD_map hi', hj, getD_map hjl]) | (with_reducible intro _) | ((with_reducible apply And.intro); omega)))
      generalize (suc g.E b)[j] = c at *
      cases met with
      | true =>
        (repeat (first | (simp (disch := (first | omega | (simp only [evF, evL, implies_true, and_self]; done) | fail)) only [evS, evZ, evK, evB, evL, evR, Nat.reduceBEq, Nat.reduceAdd, Nat.reduceLeDiff, boxR, rboxR, allocR, fldR, binI, unR, pickR, mknilR, mkslR, buildSlR, buildR, extR, convI, eqB, evU, wrap64]) | (with_reducible intro _) | ((with_reducible apply And.intro); omega)))
        exact ⟨((i + 1, c), true), ⟨by simp only; omega, by simp only; omega, .inl rfl⟩, by simp only; omega, Ent.keep rfl (by (try simp [subK, Kn.get, beq_eq]) <;> (repeat' with_reducible apply And.intro) <;> first | rfl | omega | (simp; done))⟩
      | false =>
        (repeat (first | (simp (disch := (first | omega | (simp only [evF, evL, implies_true, and_self]; done) | fail)) only [evS, evZ, evK, evB, evL, evR, Nat.reduceBEq, Nat.reduceAdd, Nat.reduceLeDiff, boxR, rboxR, allocR, fldR, binI, unR, pickR, mknilR, mkslR, buildSlR, buildR, extR, convI, eqB, evU, wrap64, getD_map hft]) | (with_reducible intro _) | ((with_reducible apply And.intro); omega)))
        by_cases hm : (c : Int) = t[f]
        · have dm : decide ((c : Int) = t[f]) = true := decide_eq_true hm
          rw [dm]
          exact ⟨((i + 1, c), true), ⟨by simp only; omega, by simp only; omega, .inl rfl⟩, by simp only; omega, Ent.keep rfl (by (try simp [subK, Kn.get, beq_eq]) <;> (repeat' with_reducible apply And.intro) <;> first | rfl | omega | (simp; done))⟩
        · have dm : decide ((c : Int) = t[f]) = false := decide_eq_false hm
          rw [dm]
          exact ⟨((i + 1, c), false), ⟨by simp only; omega, by simp only; omega, .inr ((hav.resolve_left (by simp)).step hcm hm)⟩, by simp only; omega, Ent.keep rfl (by (try simp [subK, Kn.get, beq_eq]) <;> (repeat' with_reducible apply And.intro) <;> first | rfl | omega | (simp; done))⟩
    · unfold ac_L24_DominatorPost_k1
      (repeat (first | (simp (disch := (first | omega | (simp only [evF, evL, implies_true, and_self]; done) | fail)) only [evS, evZ, evK, evB, evL, evR, Nat.reduceBEq, Nat.reduceAdd, Nat.reduceLeDiff, boxR, rboxR, allocR, fldR, binI, unR, pickR, mknilR, mkslR, buildSlR, buildR, extR, convI, eqB, evU, wrap64, encP, Gr.cells, Gr.two]) | (with_reducible intro _) | ((with_reducible apply And.intro); omega)))
      refine callX_fix (call_flat (R24_Edges_ok g hsm b (by omega)) rfl) ?_
      by_cases hl : suc g.E b = []
      · rw [hl]
        have hd : met = true ∨ t[f] < 0 := by
          rcases hav with h | h
          · exact .inl h
          · exact .inr (hfo b hl (by omega) h)
        have dl : decide (((0 : Nat) : Int) ≠ 0) = false := rfl
        (repeat (first | (simp (disch := (first | omega | (simp only [evF, evL, implies_true, and_self]; done) | fail)) only [evS, evZ, evK, evB, evL, evR, Nat.reduceBEq, Nat.reduceAdd, Nat.reduceLeDiff, boxR, rboxR, allocR, fldR, binI, unR, pickR, mknilR, mkslR, buildSlR, buildR, extR, convI, eqB, evU, wrap64, encNats, dl, getD_map hft]) | (with_reducible intro _) | ((with_reducible apply And.intro); omega)))
        by_cases hn : t[f] < 0
        · have dn : decide (t[f] < 0) = true := decide_eq_true hn
          rw [dn]
          (repeat (first | (simp (disch := (first | omega | (simp only [evF, evL, implies_true, and_self]; done) | fail)) only [evS, evZ, evK, evB, evL, evR, Nat.reduceBEq, Nat.reduceAdd, Nat.reduceLeDiff, boxR, rboxR, allocR, fldR, binI, unR, pickR, mknilR, mkslR, buildSlR, buildR, extR, convI, eqB, evU, wrap64]) | (with_reducible intro _) | ((with_reducible apply And.intro); omega)))
          refine callX_fix (call_flat L24_exampleHolds_ok rfl) ?_
          (repeat (first | (simp (disch := (first | omega | (simp only [evF, evL, implies_true, and_self]; done) | fail)) only [evS, evZ, evK, evB, evL, evR, Nat.reduceBEq, Nat.reduceAdd, Nat.reduceLeDiff, boxR, rboxR, allocR, fldR, binI, unR, pickR, mknilR, mkslR, buildSlR, buildR, extR, convI, eqB, evU, wrap64, rs_L24_DominatorPost]) | (with_reducible intro _) | ((with_reducible apply And.intro); omega)))
          exact ⟨_, .bool _ _, rfl⟩
        · have dn : decide (t[f] < 0) = false := decide_eq_false hn
          obtain rfl : met = true := hd.resolve_right hn
          rw [dn]
          (repeat (first | (simp (disch := (first | omega | (simp only [evF, evL, implies_true, and_self]; done) | fail)) only [evS, evZ, evK, evB, evL, evR, Nat.reduceBEq, Nat.reduceAdd, Nat.reduceLeDiff, boxR, rboxR, allocR, fldR, binI, unR, pickR, mknilR, mkslR, buildSlR, buildR, extR, convI, eqB, evU, wrap64]) | (with_reducible intro _) | ((with_reducible apply And.intro); omega)))
          refine callX_fix (call_flat L24_exampleHolds_ok rfl) ?_
          (repeat (first | (simp (disch := (first | omega | (simp only [evF, evL, implies_true, and_self]; done) | fail)) only [evS, evZ, evK, evB, evL, evR, Nat.reduceBEq, Nat.reduceAdd, Nat.reduceLeDiff, boxR, rboxR, allocR, fldR, binI, unR, pickR, mknilR, mkslR, buildSlR, buildR, extR, convI, eqB, evU, wrap64, rs_L24_DominatorPost]) | (with_reducible intro _) | ((with_reducible apply And.intro); omega)))
          exact ⟨_, .bool _ _, rfl⟩
      · have dl : decide (((suc g.E b).length : Int) ≠ 0) = true := decide_eq_true (fun e => hl (List.eq_nil_of_length_eq_zero (by omega)))
        (repeat (first | (simp (disch := (first | omega | (simp only [evF, evL, implies_true, and_self]; done) | fail)) only [evS, evZ, evK, evB, evL, evR, Nat.reduceBEq, Nat.reduceAdd, Nat.reduceLeDiff, boxR, rboxR, allocR, fldR, binI, unR, pickR, mknilR, mkslR, buildSlR, buildR, extR, convI, eqB, evU, wrap64, encNats, dl]) | (with_reducible intro _) | ((with_reducible apply And.intro); omega)))
        refine callX_fix (call_flat L24_exampleHolds_ok rfl) ?_
        (repeat (first | (simp (disch := (first | omega | (simp only [evF, evL, implies_true, and_self]; done) | fail)) only [evS, evZ, evK, evB, evL, evR, Nat.reduceBEq, Nat.reduceAdd, Nat.reduceLeDiff, boxR, rboxR, allocR, fldR, binI, unR, pickR, mknilR, mkslR, buildSlR, buildR, extR, convI, eqB, evU, wrap64, rs_L24_DominatorPost]) | (with_reducible intro _) | ((with_reducible apply And.intro); omega)))
        exact ⟨_, .bool _ _, rfl⟩

end Go.Ab
