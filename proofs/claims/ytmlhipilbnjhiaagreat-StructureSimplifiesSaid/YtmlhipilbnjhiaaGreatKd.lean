/-
  Part 4 of the proof: how the calls of this program run, over values instead of memory, and what each function computes.
-/
import Derived.Deep.LoopGhost
import Derived.Scope
import Derived.ScopeJumps
import Derived.Test.YtmlhipilbnjhiaaGreatKc
set_option linter.unusedVariables false
set_option linter.unusedSimpArgs false
set_option linter.unnecessarySimpa false
set_option linter.unusedSectionVars false

namespace Go.Ab
open Go.RowKit

section
variable {P : Program} {w : World} {L : Nat → Prop} {ι : Inj} {H : AH} {nx : Nat} {M : Nat → Prop}

theorem xopR_nx (x : XOp) (l : List AV) : nx ≤ (xopR x l H nx).nx := by
  unfold xopR
  split <;> (try unfold mkmapR) <;> simp only [markR, nilckR, seqR, sidxR, b2sR, s2bR, sappR, minR, eqsR, sl3R, mlookR, msetR, mlenR, mdelR, mrangeR, aidxR, aaddrR, capnR, apzR, bad] <;> (repeat' split) <;> simp

theorem cyop0_forms {o : Oper} {a : AOp} (h : cyop0 P o = some a) : (∃ x xs, a = .xop x xs) ∨ (∃ x, a = .mnext x) ∨ ∃ z ps, a = .build z ps := by
  unfold cyop0 at h
  cases hop : o.op <;> rw [hop] at h <;> (try (cases h; done)) <;> simp only at h <;> (repeat' split at h) <;>
    first
    | (cases h; done)
    | (obtain ⟨_, _, rfl⟩ := Option.map_eq_some_iff.1 h; first | exact .inl ⟨_, _, rfl⟩ | exact .inr (.inl ⟨_, rfl⟩))
    | (simp only [Option.bind_eq_bind, Option.bind_eq_some_iff, Option.some.injEq] at h; obtain ⟨_, _, rfl⟩ := h; exact .inr (.inr ⟨_, _, rfl⟩))
    | (simp only [Option.bind_eq_bind, Option.bind_eq_some_iff, Option.some.injEq] at h; obtain ⟨_, _, _, _, rfl⟩ := h; exact .inl ⟨_, _, rfl⟩)
    | (simp only [Option.bind_eq_bind, Option.bind_eq_some_iff, Option.some.injEq] at h; obtain ⟨_, _, _, _, _, _, rfl⟩ := h; exact .inl ⟨_, _, rfl⟩)

theorem cyop_forms {o : Oper} {a : AOp} (h : cyop P o = some a) : (∃ x xs, a = .xop x xs) ∨ (∃ x, a = .mnext x) ∨ ∃ z ps, a = .build z ps := by
  unfold cyop at h
  split at h
  · rename_i a0 h0
    cases h
    exact cyop0_forms h0
  · cases h
    exact .inl ⟨_, _, rfl⟩

theorem cop_xop {o : Oper} {a : AOp} (h : cop P o = some a) (hx : (∃ x xs, a = .xop x xs) ∨ (∃ x, a = .mnext x) ∨ (∃ z ps, a = .build z ps) → False) : cop0 P o = some a := by
  unfold cop at h
  split at h
  · rename_i a0 h0; rw [h0]; exact h
  · split at h
    · cases h
      exact (hx (.inl ⟨_, _, rfl⟩)).elim
    · exact (hx (cyop_forms h)).elim

theorem aop_nx (o : AOp) (ρ : Nat → AV) : nx ≤ (aop o ρ H nx).nx := by
  cases o <;> simp only [aop, mknilR, pickR, loadR, storeR, idxR, fldaddrR, fldR, lenR, slenR, binI, eqB, unR, convI, buildR, buildSlR, boxR, rboxR, rbuildSlR, allocR, mkslR, sliceR, cutR, appendR, clearR, extR, bad] <;> (try exact xopR_nx _ _) <;>
    (repeat' split) <;> simp

/-- A piece of a body in the midst of its run. -/
structure In (nt : Nat) (w0 : World) (L : Nat → Prop) (ι0 : Inj) (H0 : AH) (B : Nat) (w : World) (ι : Inj) (ρ : Nat → AV) (H : AH) (nx : Nat) (a : Act) : Prop where
  size : a.tmps.size = nt
  defers : a.defers = []
  st : Step w0 L ι0 H0 B w ι H nx
  le : B ≤ nx
  kn : KOk w (Lt L ι H) ι a.tmps ρ

def upd (ρ : Nat → AV) : Option Nat → AV → Nat → AV
  | none, _ => ρ
  | some d, v => fun i => if i = d then v else ρ i

theorem setO_get (K : Kn) (d : Option Nat) (v : AV) : (setO K d v).get = upd K.get d v := by
  funext i
  cases d with
  | none => rfl
  | some d => exact Kn.get_set K d v i

variable {nt : Nat} {w0 : World} {ι0 : Inj} {H0 : AH} {B : Nat} {ρ : Nat → AV} {a : Act}

theorem getD_put {tmps : Array Value} {d i : Nat} {v : Value} (hd : d < tmps.size) : (tmps.setIfInBounds d v).getD i undef = if i = d then v else tmps.getD i undef := by
  simp only [Array.getD_eq_getD_getElem?]
  by_cases h : i = d
  · subst h; simp [hd]
  · rw [if_neg h, Array.getElem?_setIfInBounds_ne (Ne.symm h)]

theorem In.put {d : Option Nat} (hd : dstOk nt d = true) (hin : In nt w0 L ι0 H0 B w ι ρ H nx a) {w' : World} {ι' : Inj} {H' : AH} {nx' : Nat} (st : Step w L ι H nx w' ι' H' nx') (hle : nx ≤ nx') {v : Value} {av : AV}
    (hv : VR w' (Lt L ι' H') ι' v av) : In nt w0 L ι0 H0 B w' ι' (upd ρ d av) H' nx' (a.put d v) := by
  cases d with
  | none => exact ⟨hin.size, hin.defers, hin.st.trans st, Nat.le_trans hin.le hle, fun i => st.vr (hin.kn i)⟩
  | some d =>
    have hd' : d < a.tmps.size := by rw [hin.size]; simpa [dstOk] using hd
    refine ⟨by simp [Act.put, hin.size], hin.defers, hin.st.trans st, Nat.le_trans hin.le hle, fun i => ?_⟩
    show VR w' (Lt L ι' H') ι' ((a.tmps.setIfInBounds d v).getD i undef) (if i = d then av else ρ i)
    rw [getD_put hd']
    split
    · exact hv
    · exact st.vr (hin.kn i)

/-- An operation and its light form. -/
structure OpRel (P : Program) (nt : Nat) (ops : Array Oper) (o : Oper) (ao : AOper) : Prop where
  dst : ao.dst = o.dst
  ok : dstOk nt o.dst = true
  guard : match o.guard with
    | none => ao.guard = none
    | some (j, want) => ∃ t, (ops[j]?).bind (·.dst) = some t ∧ ao.guard = some (t, want)
  op : ∃ op0, cop P o = some op0 ∧ (ao.op = op0 ∨ (∃ f xs, op0 = .call f xs ∧ ao.op = .callq f xs) ∨ (∃ x, op0 = .box x ∧ ao.op = .rbox x) ∨ ∃ s l z ps, op0 = .buildSl s l z ps ∧ ao.op = .rbuildSl s l z ps)

theorem coper_rel {ops : Array Oper} {o : Oper} {ao : AOper} (h : coper P nt ops o = some ao) : OpRel P nt ops o ao := by
  unfold coper at h
  split at h
  · rename_i hd
    split at h
    · rename_i op0 hop
      split at h
      · rename_i hg
        cases h
        exact ⟨rfl, hd, by rw [hg], op0, hop, .inl rfl⟩
      · rename_i j want hg
        split at h
        · rename_i t ht
          cases h
          exact ⟨rfl, hd, by rw [hg]; exact ⟨t, ht, rfl⟩, op0, hop, .inl rfl⟩
        · cases h
    · cases h
  · cases h

theorem OpRel.quiet {ops : Array Oper} {o : Oper} {ao : AOper} (h : OpRel P nt ops o ao) : OpRel P nt ops o ao.quiet := by
  unfold AOper.quiet
  split
  · rename_i f xs hop
    obtain ⟨op0, h1, h2⟩ := h.op
    refine ⟨h.dst, h.ok, h.guard, op0, h1, .inr (.inl ⟨f, xs, ?_, rfl⟩)⟩
    rcases h2 with h2 | ⟨f', xs', h3, h4⟩ | ⟨x, h3, h4⟩ | ⟨_, _, _, _, h3, h4⟩
    · rw [← h2, hop]
    · rw [h4] at hop; cases hop
    · rw [h4] at hop; cases hop
    · rw [h4] at hop; cases hop
  · exact h

/-- Is the operation wanted? The guard's slot tells. -/
theorem wanted_of {ops : Array Oper} {o : Oper} {ao : AOper} (h : OpRel P nt ops o ao) (hk : KOk w M ι a.tmps ρ) :
    match ao.guard with
    | none => Region.wanted o (yielded ops a.tmps) = true
    | some (t, want) => ∀ r, grd want (ρ t) = some r → Region.wanted o (yielded ops a.tmps) = r := by
  have hg := h.guard
  cases hog : o.guard with
  | none =>
    rw [hog] at hg
    rw [hg]
    simp [Region.wanted, hog]
  | some p =>
    obtain ⟨j, want⟩ := p
    rw [hog] at hg
    obtain ⟨t, ht, hg⟩ := hg
    rw [hg]
    intro r hr
    have hv := hk t
    cases hb : ρ t <;> rw [hb] at hr <;> try (cases hr; done)
    rotate_left
    · rename_i cs
      cases cs with
      | cons _ _ => cases hr
      | nil =>
        cases hr
        rw [hb] at hv
        have hval : a.tmps.getD t undef = .tuple #[] := by
          generalize a.tmps.getD t undef = u at hv
          cases hv with
          | tup _ cs _ hs _ =>
            have : cs = #[] := Array.eq_empty_of_size_eq_zero (by simpa using hs)
            rw [this]
        have hget : a.tmps[t]? = some (.tuple #[]) ∨ a.tmps[t]? = none := by
          rw [Array.getD_eq_getD_getElem?] at hval
          cases hq : a.tmps[t]? with
          | none => exact .inr rfl
          | some u => rw [hq] at hval; simp at hval; exact .inl (by rw [hval])
        rcases hget with hget | hget <;> simp only [Region.wanted, hog, yielded, ht, Option.bind_some, hget] <;> rfl
    rename_i b
    cases hr
    rw [hb] at hv
    have hval : a.tmps.getD t undef = .bool b := by
      generalize a.tmps.getD t undef = u at hv
      cases hv
      rfl
    have hget : a.tmps[t]? = some (.bool b) := by
      rw [Array.getD_eq_getD_getElem?] at hval
      cases hq : a.tmps[t]? with
      | none => rw [hq] at hval; simp [undef] at hval
      | some u => rw [hq] at hval; simp at hval; rw [hval]
    simp only [Region.wanted, hog, yielded, ht, Option.bind_some, hget]
    cases b <;> cases want <;> rfl

theorem run_callFunc {f : FuncId} (hf : fnGood P f = true) (args : Array Value) (w : World) : (callFunc f args).run P w = .ok (.enter f args) w := by
  unfold fnGood at hf
  split at hf
  · rename_i fn hfn
    simp only [Bool.and_eq_true, Bool.not_eq_true'] at hf
    have h1 : ¬ fn.body = none := by
      intro hb
      rw [hb] at hf
      simp at hf
    have h2 : ¬ fn.name = "runtime.NumGoroutine" := by
      intro hb
      rw [hb] at hf
      simp at hf
    simp [callFunc, Sem.run_bind, hfn, h2, h1]
  · cases hf

theorem run_call_value {o : Oper} {c : Call} {x : Operand} {f : FuncId} {caps : Array Value} (ho : o.op = .call c) (hc : c.callee = .value x) (hx : a.eval x = .func (.func f) #[] caps) (hf : fnGood P f = true) :
    (execOp a.eval o).run P w = .ok (.enter f (c.args.map a.eval ++ caps)) w := by
  simp [execOp, ho, resolve, hc, hx, Deferred.ofValue, Sem.run_bind, invoke, run_callFunc hf]

theorem NextOk.mono {x : AV} {k k' : AV → AH → Nat → Prop} (hk : ∀ v H nx, k v H nx → k' v H nx) (h : NextOk x H nx k) : NextOk x H nx k' := by
  unfold NextOk at *
  split at h
  · split at h
    · split at h
      · exact ⟨h.1, fun e => hk _ _ _ (h.2.1 e), fun e he => hk _ _ _ (h.2.2 e he)⟩
      · exact h
    · exact ⟨h.1, hk _ _ _ h.2⟩
    · exact h
  · exact h

theorem bodyK_mono {fx : Bool} {op : AOp} {k k' : AV → AH → Nat → Prop} (hk : ∀ v H nx, k v H nx → k' v H nx) (h : bodyK P fx op ρ H nx k) : bodyK P fx op ρ H nx k' := by
  have hcall : ∀ f args, CallOk P f args H nx (fun v H' nx' => (bif fx then v.wf else True) → k v H' nx') → CallOk P f args H nx (fun v H' nx' => (bif fx then v.wf else True) → k' v H' nx') := by
    intro f args h w L ι vs h1 h2
    exact (h w L ι vs h1 h2).mono fun e w' ⟨v, ι', H', nx', a, h3, h4, h5, h6, h7⟩ => ⟨v, ι', H', nx', a, h3, h4, h5, h6, fun hw => hk _ _ _ (h7 hw)⟩
  unfold bodyK at *
  cases op with
  | call f args => exact hcall _ _ h
  | callq f args => exact let ⟨a, h1, h2⟩ := h; ⟨a, h1, hk _ _ _ h2⟩
  | mnext x => exact NextOk.mono hk h
  | isnil n p x =>
    simp only at h ⊢
    split at h
    · exact hk _ _ _ h
    · exact fun b => hk _ _ _ (h b)
    · exact h
  | callv x args =>
    simp only at h ⊢
    cases hx : ev ρ x with
    | fn g caps =>
      rw [hx] at h
      cases g <;> first | exact ⟨h.1, hcall _ _ h.2⟩ | exact h
    | _ => rw [hx] at h; exact h
  | _ => exact ⟨h.1, fun hf => hk _ _ _ (h.2 hf)⟩

/-- What one operation asks, over any reading of the slots ('fx': may what is read be used as a fact?). -/
def ExF (P : Program) (fx : Bool) (o : AOper) (ρ : Nat → AV) (H : AH) (nx : Nat) (k : (Nat → AV) → AH → Nat → Prop) : Prop :=
  match o.guard with
  | none => bodyK P fx o.op ρ H nx (fun v H' nx' => k (upd ρ o.dst v) H' nx')
  | some (t, want) => match grd want (ρ t) with
    | some r => CondOk r (bodyK P fx o.op ρ H nx (fun v H' nx' => k (upd ρ o.dst v) H' nx')) (k (upd ρ o.dst (.tup [])) H nx)
    | none => False

theorem exK_exF {fx : Bool} {o : AOper} {K : Kn} {k : Kn → AH → Nat → Prop} {k' : (Nat → AV) → AH → Nat → Prop} (hk : ∀ K H nx, k K H nx → k' K.get H nx) (h : ExK P fx o K H nx k) : ExF P fx o K.get H nx k' := by
  have key : bodyK P fx o.op K.get H nx (fun v H' nx' => k (setO K o.dst v) H' nx') → bodyK P fx o.op K.get H nx (fun v H' nx' => k' (upd K.get o.dst v) H' nx') :=
    bodyK_mono fun v H nx h => by rw [← setO_get]; exact hk _ _ _ h
  unfold ExK at h
  unfold ExF
  cases hg : o.guard with
  | none => rw [hg] at h; exact key h
  | some p =>
    obtain ⟨t, want⟩ := p
    rw [hg] at h
    simp only at h ⊢
    cases hv : grd want (K.get t) with
    | some b =>
      rw [hv] at h
      exact ⟨fun e => key (h.1 e), fun e => by rw [← setO_get]; exact hk _ _ _ (h.2 e)⟩
    | none => rw [hv] at h; exact h

theorem cop_call {o : Oper} {f : FuncId} {xs : List AOpd} (h : cop P o = some (.call f xs)) : ∃ c, o.op = .call c ∧ c.callee = .value (.func f) ∧ c.args.toList.mapM copd = some xs ∧ fnGood P f = true := by
  replace h := cop_xop h (by rintro (⟨_, _, e⟩ | ⟨_, e⟩ | ⟨_, _, e⟩) <;> cases e)
  unfold cop0 at h
  cases hop : o.op with
  | call c =>
    rw [hop] at h
    simp only at h
    split at h
    · rename_i b hb
      exfalso
      unfold cbuiltin at h
      (repeat' split at h) <;> first | (cases h; done) | (simp at h; done) | (simp [Option.bind_eq_some_iff] at h; done)
    · rename_i f' hc
      split at h
      · rename_i fn hfn
        split at h
        · rename_i hgood
          obtain ⟨ys, hy, he⟩ := Option.map_eq_some_iff.1 h
          cases he
          refine ⟨c, rfl, hc, hy, ?_⟩
          simp [fnGood, hfn, hgood.1, hgood.2]
        · cases h
      · cases h
    · obtain ⟨ys, hy, he⟩ := Option.map_eq_some_iff.1 h
      cases he
    · cases h
  | _ =>
    rw [hop] at h
    simp only at h
    exfalso
    (repeat' split at h) <;> first | (cases h; done) | (simp at h; done) | (simp [Option.bind_eq_some_iff] at h; done) | (simp only [Option.bind_eq_bind, Option.bind_eq_some_iff] at h; obtain ⟨_, _, _, _, _, _, h⟩ := h; split at h <;> simp [Option.bind_eq_some_iff] at h; done)

theorem cop_callv {o : Oper} {x : AOpd} {xs : List AOpd} (h : cop P o = some (.callv x xs)) : ∃ c t, o.op = .call c ∧ c.callee = .value (.tmp t) ∧ c.args.toList.mapM copd = some xs ∧ x = .t t := by
  replace h := cop_xop h (by rintro (⟨_, _, e⟩ | ⟨_, e⟩ | ⟨_, _, e⟩) <;> cases e)
  unfold cop0 at h
  cases hop : o.op with
  | call c =>
    rw [hop] at h
    simp only at h
    split at h
    · rename_i b hb
      exfalso
      unfold cbuiltin at h
      (repeat' split at h) <;> first | (cases h; done) | (simp at h; done) | (simp [Option.bind_eq_some_iff] at h; done)
    · split at h
      · split at h
        · obtain ⟨ys, hy, he⟩ := Option.map_eq_some_iff.1 h
          cases he
        · cases h
      · cases h
    · rename_i t hc
      obtain ⟨ys, hy, he⟩ := Option.map_eq_some_iff.1 h
      cases he
      exact ⟨c, t, rfl, hc, hy, rfl⟩
    · cases h
  | _ =>
    rw [hop] at h
    simp only at h
    exfalso
    (repeat' split at h) <;> first | (cases h; done) | (simp at h; done) | (simp [Option.bind_eq_some_iff] at h; done) | (simp only [Option.bind_eq_bind, Option.bind_eq_some_iff] at h; obtain ⟨_, _, _, _, _, _, h⟩ := h; split at h <;> simp [Option.bind_eq_some_iff] at h; done)

theorem cop_callq {o : Oper} {f : FuncId} {xs : List AOpd} (h : cop P o = some (.callq f xs)) : False := by
  replace h := cop_xop h (by rintro (⟨_, _, e⟩ | ⟨_, e⟩ | ⟨_, _, e⟩) <;> cases e)
  unfold cop0 at h
  cases hop : o.op with
  | call c =>
    rw [hop] at h
    simp only at h
    split at h
    · unfold cbuiltin at h
      (repeat' split at h) <;> first | (cases h; done) | (simp at h; done) | (simp [Option.bind_eq_some_iff] at h; done)
    · (repeat' split at h) <;> first | (cases h; done) | (simp at h; done)
    · simp at h
    · cases h
  | _ =>
    rw [hop] at h
    simp only at h
    (repeat' split at h) <;> first | (cases h; done) | (simp at h; done) | (simp [Option.bind_eq_some_iff] at h; done) | (simp only [Option.bind_eq_bind, Option.bind_eq_some_iff] at h; obtain ⟨_, _, _, _, _, _, h⟩ := h; split at h <;> simp [Option.bind_eq_some_iff] at h; done)

theorem cop_isnil {o : Oper} {neg p : Bool} {x : AOpd} (h : cop P o = some (.isnil neg p x)) : ∃ t xo yt, o.op = .binOp (bif neg then .neq else .eql) t xo (.const (bif p then .pointer none else .slice none 0 0)) yt ∧ copd xo = some x ∧
    ∃ d, P.underlying t = some d ∧ (bif p then ∃ e, d = .pointer e else ∃ e, d = .slice e) := by
  replace h := cop_xop h (by rintro (⟨_, _, e⟩ | ⟨_, e⟩ | ⟨_, _, e⟩) <;> cases e)
  unfold cop0 at h
  cases hop : o.op with
  | call c =>
    rw [hop] at h
    simp only at h
    split at h
    · unfold cbuiltin at h
      (repeat' split at h) <;> first | (cases h; done) | (simp at h; done) | (simp [Option.bind_eq_some_iff] at h; done)
    · (repeat' split at h) <;> first | (cases h; done) | (simp at h; done)
    · simp at h
    · cases h
  | binOp op t a b yt =>
    rw [hop] at h
    simp only at h
    split at h
    · simp [Option.bind_eq_some_iff] at h
    · (repeat' split at h) <;> first | (cases h; done) | (simp [Option.bind_eq_some_iff] at h; done)
    · rename_i e hu
      split at h
      · split at h <;> first | (cases h; done) | skip
        all_goals
          obtain ⟨x', hx, he⟩ := Option.map_eq_some_iff.1 h
          cases he
          exact ⟨_, _, _, rfl, hx, _, hu, _, rfl⟩
      · cases h
    · rename_i e hu
      split at h
      · split at h <;> first | (cases h; done) | skip
        all_goals
          obtain ⟨x', hx, he⟩ := Option.map_eq_some_iff.1 h
          cases he
          exact ⟨_, _, _, rfl, hx, _, hu, _, rfl⟩
      · cases h
    · cases h
  | _ =>
    rw [hop] at h
    simp only at h
    exfalso
    (repeat' split at h) <;> first | (cases h; done) | (simp at h; done) | (simp [Option.bind_eq_some_iff] at h; done) | (simp only [Option.bind_eq_bind, Option.bind_eq_some_iff] at h; obtain ⟨_, _, _, _, _, _, h⟩ := h; split at h <;> simp [Option.bind_eq_some_iff] at h; done)

theorem run_equal_nil {t : TypeId} {d : TypeDesc} {p : Bool} (hu : P.underlying t = some d) (hd : bif p then ∃ e, d = .pointer e else ∃ e, d = .slice e) {v : Value} {a : AV} (hv : VR w M ι v a) {r : Option Bool} (hr : nilB p a = some r) :
    ∃ b, (∀ c, r = some c → b = c) ∧ (Op.equal t v (bif p then .pointer none else .slice none 0 0)).run P w = .ok b w ∧ (∀ k n, v ≠ .int k n) ∧ (∀ s, v ≠ .string s) ∧ (∀ k n, v ≠ .float k n) ∧ (∀ k n m, v ≠ .complex k n m) ∧ v ≠ .nilIface ∧ (∀ c, v ≠ .agg c) := by
  cases p with
  | false =>
    obtain ⟨e, rfl⟩ := hd
    have key : ∀ (x : Option Addr) (n c : Nat), (Op.equal t (.slice x n c) (.slice none 0 0)).run P w = .ok x.isNone w := by
      intro x n c
      show (Op.equalIn (Op.maxDepth - 1 + 1) t _ _).run P w = _
      cases x <;> simp only [Op.equalIn, Sem.run_bind, run_underlying hu, Result.andThen_ok] <;> rfl
    cases hv <;> first | (cases hr; done) | skip
    case sl => rename_i a sz n cap f V hn hb hc hL hv; exact ⟨false, fun c hc => by subst hc; cases n with | zero => cases hr | succ n => cases hr; rfl, key _ _ _, by simp⟩
    case sl0 => exact ⟨true, fun c hc => by subst hc; simp [nilB] at hr, key _ _ _, by simp⟩
    case nilsl => exact ⟨true, fun c hc => by subst hc; cases hr; rfl, key _ _ _, by simp⟩
    case cut => rename_i a; exact ⟨_, fun c hc => by subst hc; simp [nilB] at hr, key a _ _, by simp⟩
    case own =>
      rename_i r q g off n a c l hm hn hc ha h
      refine ⟨_, fun c' hc' => ?_, key a _ _, by simp⟩
      subst hc'
      cases n with
      | zero => simp [nilB] at hr
      | succ n =>
        cases hr
        rw [ha (by omega)]
        rfl
  | true =>
    obtain ⟨e, rfl⟩ := hd
    have key : ∀ (x : Option Addr), (Op.equal t (.pointer x) (.pointer none)).run P w = .ok x.isNone w := by
      intro x
      show (Op.equalIn (Op.maxDepth - 1 + 1) t _ _).run P w = _
      cases x <;> simp only [Op.equalIn, Sem.run_bind, run_underlying hu, Result.andThen_ok] <;> rfl
    cases hv <;> first | (cases hr; done) | skip
    case nilp => exact ⟨true, fun c hc => by subst hc; cases hr; rfl, key _, by simp⟩
    case ptr => exact ⟨false, fun c hc => by subst hc; cases hr; rfl, key _, by simp⟩
    case iptr => exact ⟨false, fun c hc => by subst hc; cases hr; rfl, key _, by simp⟩

theorem cop_box {o : Oper} {x : AOpd} (h : cop P o = some (.box x)) : ∃ e xo, o.op = .box e xo ∧ copd xo = some x := by
  replace h := cop_xop h (by rintro (⟨_, _, e⟩ | ⟨_, e⟩ | ⟨_, _, e⟩) <;> cases e)
  unfold cop0 at h
  cases hop : o.op with
  | box e xo =>
    rw [hop] at h
    obtain ⟨x', hx, he⟩ := Option.map_eq_some_iff.1 h
    cases he
    exact ⟨e, xo, rfl, hx⟩
  | call c =>
    rw [hop] at h
    exfalso
    simp only [cbuiltin] at h
    (repeat' split at h) <;> first | (cases h; done) | (simp at h; done) | (simp [Option.bind_eq_some_iff] at h; done)
  | _ =>
    rw [hop] at h
    exfalso
    simp only at h
    (repeat' split at h) <;> first | (cases h; done) | (simp at h; done) | (simp [Option.bind_eq_some_iff] at h; done) | (simp only [Option.bind_eq_bind, Option.bind_eq_some_iff] at h; obtain ⟨_, _, _, _, _, _, h⟩ := h; split at h <;> simp [Option.bind_eq_some_iff] at h; done)

theorem nextOk_ok {xv : Value} {x : AV} {ty : TypeId} {k : AV → AH → Nat → Prop} (rel : RelH w L ι H nx) (hx : VR w (Lt L ι H) ι xv x) (h : NextOk x H nx k) :
    ∃ v w' ι' a H', (Instr.next xv false ty).run P w = .ok v w' ∧ Step w L ι H nx w' ι' H' nx ∧ VR w' (Lt L ι' H') ι' v a ∧ k a H' nx := by
  have tupF : ∀ (w : World) (M : Nat → Prop) (ι : Inj), VR w M ι (.tuple #[.bool false]) (.tup [.bool false]) := fun w M ι => .tup _ _ _ rfl (fun i v a h1 h2 => by
    match i with
    | 0 => cases h1; cases h2; exact .bool _ _
    | i + 1 => cases h2)
  cases hx with
  | it _ r l hl hcap =>
    unfold NextOk at h
    simp only at h
    split at h
    · rename_i sz rm since st seen g hg
      split at h
      · rename_i sz2 c u u' es g2 hg2
        obtain ⟨⟨rfl, rfl, rfl, rfl, hst, hborn, hseen⟩, hnone, hsome⟩ := h
        obtain ⟨l', hl', okr⟩ := rel.row _ _ _ _ _ hg
        rw [hl] at hl'
        cases hl'
        have hcap := okr.noBox (by simp) hcap
        obtain ⟨m, sn, sv, stp, hb, hsz, hh⟩ := okr.iter hcap
        obtain ⟨v0, e0, r0⟩ := hh 0 (.mp rm) rfl
        cases e0
        cases r0 with
        | mp _ _ lm hlm hcm =>
          obtain ⟨v1, e1, r1⟩ := hh 1 (.int .i64 since) rfl
          cases e1
          have hsi : since = (sn : Int) := by cases r1; rfl
          subst hsi
          obtain ⟨v2, e2, r2⟩ := hh 2 (.int .i64 st) rfl
          cases e2
          have hsi : st = (stp : Int) := by cases r2; rfl
          subst hsi
          obtain ⟨l'', hl'', okm⟩ := rel.row _ _ _ _ _ hg2
          rw [hlm] at hl''
          cases hl''
          obtain ⟨ms, clock, hbm, hszm, hhm⟩ := okm.map hcm
          have hms : ms.size = es.length := by simpa using hszm
          have hc : c = (clock : Int) := by
            obtain ⟨v3, e3, r3⟩ := hhm 0 0 _ _ rfl rfl
            cases e3
            cases r3
            rfl
          subst hc
          have hcr : InR .i64 (clock : Int) := by
            obtain ⟨v3, e3, r3⟩ := hhm 0 0 _ _ rfl rfl
            cases e3
            cases r3
            assumption
          -- stamps of the entries and of what was seen
          have hrow : ∀ (i : Nat) (e : MapEntry) (cs : List AV), ms[i]? = some e → es[i]? = some cs → ∃ (kk vv : AV) (b : Nat), cs = [kk, vv, .int .i64 (b : Int)] ∧ e.born = b ∧ VR w (Lt L ι H) ι e.key kk ∧ VR w (Lt L ι H) ι e.val vv ∧ InR .i64 (b : Int) := by
            intro i e cs he hcs
            have hwid := okm.wide (i + 1) cs (by simpa using hcs)
            obtain ⟨kk, vv, bb, rfl⟩ : ∃ a b c, cs = [a, b, c] := by
              match cs, hwid with
              | [a, b, c], _ => exact ⟨a, b, c, rfl⟩
            obtain ⟨b, hb1, _⟩ := hborn _ (List.mem_of_getElem? hcs)
            simp only [List.getD_cons_succ, List.getD_cons_zero] at hb1
            subst hb1
            obtain ⟨f1, f2, f3⟩ := vcell_entry (clock := clock) he
            obtain ⟨w1, g1, q1⟩ := hhm (i + 1) 0 _ kk (by simpa using hcs) rfl
            obtain ⟨w2, g2, q2⟩ := hhm (i + 1) 1 _ vv (by simpa using hcs) rfl
            obtain ⟨w3, g3, q3⟩ := hhm (i + 1) 2 _ _ (by simpa using hcs) rfl
            rw [f1] at g1
            cases g1
            rw [f2] at g2
            cases g2
            rw [f3] at g3
            cases g3
            cases q3 with
            | int _ _ _ hr => exact ⟨kk, vv, e.born, rfl, rfl, q1, q2, hr⟩
          have hsv : ∀ (i : Nat) (b : Nat), sv[i]? = some b → seen[i]? = some [.int .i64 (b : Int)] := by
            intro i b hi
            have hlt : i < seen.length := by
              have := (Array.getElem?_eq_some_iff.1 hi).1
              simp at hsz
              omega
            obtain ⟨b', hb'⟩ := hseen _ (List.getElem_mem hlt)
            obtain ⟨v3, e3, r3⟩ := hh (i + 3) (.int .i64 b') (by simp [List.getElem?_eq_getElem hlt, hb'])
            rw [vcell_seen hi] at e3
            cases e3
            rw [List.getElem?_eq_getElem hlt, hb']
            cases r3
            rfl
          have hin : ∀ b : Nat, bornIn (.int .i64 (b : Int)) seen = sv.contains b := by
            intro b
            rw [Bool.eq_iff_iff, Array.contains_iff_mem]
            unfold bornIn
            rw [List.any_eq_true]
            constructor
            · rintro ⟨s, hs, hd⟩
              obtain ⟨i, hi, hi2⟩ := List.getElem_of_mem hs
              have hlt : i < sv.size := by simp at hsz; omega
              have h1 := hsv i _ (Array.getElem?_eq_getElem hlt)
              rw [List.getElem?_eq_getElem hi, hi2] at h1
              cases h1
              simp only [decide_eq_true_eq] at hd
              have : sv[i] = b := by omega
              rw [← this]
              exact Array.getElem_mem hlt
            · intro hm
              obtain ⟨i, hi, hi2⟩ := Array.getElem_of_mem hm
              have h1 := hsv i _ (Array.getElem?_eq_getElem hi)
              rw [hi2] at h1
              exact ⟨_, List.mem_of_getElem? h1, by simp⟩
          have hold : ∀ x ∈ ms.toList, x.born < sn := by
            intro x hx
            obtain ⟨i, hi, hi2⟩ := List.getElem_of_mem hx
            have hi' : i < es.length := by simp at hi; omega
            have hxi : ms[i]? = some x := by rw [← Array.getElem?_toList, List.getElem?_eq_getElem hi, hi2]
            obtain ⟨kk, vv, b, hcs, hb1, _⟩ := hrow i x _ hxi (List.getElem?_eq_getElem hi')
            obtain ⟨b', hb2, hb3⟩ := hborn _ (List.getElem_mem hi')
            rw [hcs] at hb2
            simp only [List.getD_cons_succ, List.getD_cons_zero] at hb2
            cases hb2
            omega
          rcases Go.run_next_at (P := P) w ty l.block lm.block sn stp sv ms clock hb hbm hold (by omega) with ⟨hz, hrun⟩ | ⟨e, hmem, w1, hw1, hrun⟩
          · refine ⟨_, w, ι, .tup [.bool false], H, ?_, .refl rel, tupF _ _ _, hnone ?_⟩
            · exact hrun
            · rw [List.eq_nil_iff_forall_not_mem]
              intro cs hcs
              unfold leftL at hcs
              obtain ⟨h1, h2⟩ := List.mem_filter.1 hcs
              obtain ⟨i, hi, hi2⟩ := List.getElem_of_mem h1
              have hlt : i < ms.size := by omega
              obtain ⟨kk, vv, b, hc2, hb1, _⟩ := hrow i _ _ (Array.getElem?_eq_getElem hlt) (by rw [List.getElem?_eq_getElem hi, hi2])
              subst hc2
              simp only [List.getD_cons_succ, List.getD_cons_zero, hin, Bool.not_eq_true'] at h2
              have hm : ms[i] ∈ leftOf ms sv := by
                unfold leftOf
                rw [Array.mem_filter]
                exact ⟨Array.getElem_mem hlt, by rw [hb1, h2]; rfl⟩
              have := Array.size_pos_of_mem hm
              omega
          · have hm0 : e ∈ leftOf ms sv := by simpa using hmem
            unfold leftOf at hm0
            rw [Array.mem_filter] at hm0
            obtain ⟨hm1, hm2⟩ := hm0
            obtain ⟨i, hi, hi2⟩ := Array.getElem_of_mem hm1
            have hi' : i < es.length := by omega
            have hei : es[i]? = some es[i] := List.getElem?_eq_getElem hi'
            obtain ⟨kk, vv, b, hc2, hb1, hk1, hv1, hbr⟩ := hrow i e _ (by rw [Array.getElem?_eq_getElem hi, hi2]) hei
            have hleft : es[i] ∈ leftL seen es := by
              unfold leftL
              rw [List.mem_filter]
              refine ⟨List.getElem_mem hi', ?_⟩
              rw [hc2]
              simp only [List.getD_cons_succ, List.getD_cons_zero, hin]
              rw [← hb1]
              exact hm2
            have hk := hsome _ hleft
            rw [hc2] at hk
            simp only [List.getD_cons_succ, List.getD_cons_zero] at hk
            have st := Step.itset (seen' := sv.push e.born) (st' := clock) (els' := [.mp rm] :: [.int .i64 (sn : Int)] :: [.int .i64 (clock : Int)] :: (seen ++ [[.int .i64 (b : Int)]])) rel hw1 hg hl hcap okr hb (by simp at hsz ⊢; omega) (fun i c hi => by
              match i with
              | 0 => cases hi; rfl
              | 1 => cases hi; rfl
              | 2 => cases hi; rfl
              | i + 3 =>
                simp only [List.getElem?_cons_succ] at hi
                by_cases hlt : i < seen.length
                · rw [List.getElem?_append_left hlt] at hi
                  exact okr.wide (i + 3) c (by simpa using hi)
                · rw [List.getElem?_append_right (by omega)] at hi
                  cases hi3 : i - seen.length with
                  | zero => rw [hi3] at hi; cases hi; rfl
                  | succ q => rw [hi3] at hi; cases hi) (fun i a hi => by
              match i with
              | 0 => cases hi; exact ⟨_, rfl, .mp _ _ _ hlm hcm⟩
              | 1 => cases hi; exact ⟨_, rfl, r1⟩
              | 2 => cases hi; exact ⟨_, rfl, .int _ _ _ hcr⟩
              | i + 3 =>
                simp only [List.getElem?_cons_succ] at hi
                have hsl : sv.size = seen.length := by simp at hsz; omega
                by_cases hlt : i < seen.length
                · rw [List.getElem?_append_left hlt] at hi
                  obtain ⟨v3, e3, r3⟩ := hh (i + 3) a (by simpa using hi)
                  refine ⟨v3, ?_, r3⟩
                  rw [← e3]
                  exact vcell_seen2 (by rw [Array.getElem?_push, if_neg (show i ≠ sv.size by omega)])
                · rw [List.getElem?_append_right (by omega)] at hi
                  cases hi3 : i - seen.length with
                  | succ q => rw [hi3] at hi; cases hi
                  | zero =>
                    rw [hi3] at hi
                    cases hi
                    have hlt2 : i = sv.size := by omega
                    subst hlt2
                    refine ⟨.int .i64 (e.born : Int), ?_, ?_⟩
                    · exact vcell_seen (by simp)
                    · rw [hb1]
                      exact .int _ _ _ hbr)
            refine ⟨_, _, _, _, _, hrun, st, ?_, hk⟩
            refine .tup _ _ _ rfl (fun i v a h1 h2 => ?_)
            match i with
            | 0 => cases h1; cases h2; exact .bool _ _
            | 1 => cases h1; cases h2; exact st.vr hk1
            | 2 => cases h1; cases h2; exact st.vr hv1
            | i + 3 => cases h2
      · exact h.elim
    · rename_i sz seen g hg
      obtain ⟨⟨rfl, rfl⟩, hk⟩ := h
      obtain ⟨l', hl', okr⟩ := rel.row _ _ _ _ _ hg
      rw [hl] at hl'
      cases hl'
      obtain ⟨m, sn, sv, stp, hb, hsz, hh⟩ := okr.iter (okr.noBox (by simp) hcap)
      obtain ⟨v0, e0, r0⟩ := hh 0 .nilmp rfl
      cases e0
      cases r0
      refine ⟨_, w, ι, .tup [.bool false], H, ?_, .refl rel, tupF _ _ _, hk⟩
      simp [Instr.next, getObj, Sem.run_bind, Sem.run, hb, Result.andThen]
    · exact h.elim
  | _ => exact h.elim

theorem OpRel.ro {ops : Array Oper} {o : Oper} {ao : AOper} {l : List Nat} (h : OpRel P nt ops o ao) : OpRel P nt ops o (ao.ro l) := by
  unfold AOper.ro
  split
  · rename_i x d hop hd
    cases hm : memN l d with
    | false => exact h
    | true =>
      obtain ⟨op0, h1, h2⟩ := h.op
      refine ⟨h.dst, h.ok, h.guard, op0, h1, .inr (.inr (.inl ⟨x, ?_, rfl⟩))⟩
      rcases h2 with h2 | ⟨f', xs', h3, h4⟩ | ⟨x', h3, h4⟩ | ⟨_, _, _, _, h3, h4⟩
      · rw [← h2, hop]
      · rw [h4] at hop; cases hop
      · rw [h4] at hop; cases hop
      · rw [h4] at hop; cases hop
  · rename_i sz len z ps d hop hd
    cases hm : memN l d with
    | false => exact h
    | true =>
      obtain ⟨op0, h1, h2⟩ := h.op
      refine ⟨h.dst, h.ok, h.guard, op0, h1, .inr (.inr (.inr ⟨sz, len, z, ps, ?_, rfl⟩))⟩
      rcases h2 with h2 | ⟨f', xs', h3, h4⟩ | ⟨x', h3, h4⟩ | ⟨_, _, _, _, h3, h4⟩
      · rw [← h2, hop]
      · rw [h4] at hop; cases hop
      · rw [h4] at hop; cases hop
      · rw [h4] at hop; cases hop
  · exact h

theorem cop_buildSl {o : Oper} {sz len : Nat} {z : List AV} {ps : List (Nat × AOpd)} (h : cop P o = some (.buildSl sz len z ps)) :
    ∃ t parts e i, o.op = .buildSlice t len parts ∧ P.underlying t = some (.slice e) ∧ P.info? e = some i ∧ czero P e = some z ∧ len * i.size ≤ 16777216 ∧ 0 < i.size ∧ sz = i.size ∧ (parts.toList.mapM fun p => do some (p.1, (← copd p.2))) = some ps := by
  replace h := cop_xop h (by rintro (⟨_, _, e⟩ | ⟨_, e⟩ | ⟨_, _, e⟩) <;> cases e)
  unfold cop0 at h
  cases hop : o.op with
  | buildSlice t l parts =>
    rw [hop] at h
    simp only at h
    split at h
    · rename_i e hu
      split at h
      · rename_i i z' hi hz
        split at h
        · rename_i hc
          simp only [Option.bind_eq_bind, Option.bind_eq_some_iff, Option.some.injEq] at h
          obtain ⟨ps', hps, he⟩ := h
          cases he
          exact ⟨t, parts, e, i, rfl, hu, hi, hz, hc.1, hc.2, rfl, by simpa using hps⟩
        · cases h
      · cases h
    · cases h
  | call c =>
    rw [hop] at h
    exfalso
    simp only [cbuiltin] at h
    (repeat' split at h) <;> first | (cases h; done) | (simp at h; done) | (simp [Option.bind_eq_some_iff] at h; done)
  | _ =>
    rw [hop] at h
    exfalso
    simp only at h
    (repeat' split at h) <;> first | (cases h; done) | (simp at h; done) | (simp [Option.bind_eq_some_iff] at h; done) | (simp only [Option.bind_eq_bind, Option.bind_eq_some_iff] at h; obtain ⟨_, _, _, _, _, _, h⟩ := h; split at h <;> simp [Option.bind_eq_some_iff] at h; done)

theorem cop_mnext {o : Oper} {x : AOpd} (h : cop P o = some (.mnext x)) : ∃ xo, o.op = .next xo false ∧ copd xo = some x := by
  unfold cop at h
  split at h
  · rename_i a0 h0
    cases h
    exfalso
    unfold cop0 at h0
    cases hop : o.op with
    | call c =>
      rw [hop] at h0
      simp only [cbuiltin] at h0
      (repeat' split at h0) <;> first | (cases h0; done) | (simp at h0; done) | (simp [Option.bind_eq_some_iff] at h0; done)
    | _ =>
      rw [hop] at h0
      simp only at h0
      (repeat' split at h0) <;> first | (cases h0; done) | (simp at h0; done) | (simp [Option.bind_eq_some_iff] at h0; done) | (simp only [Option.bind_eq_bind, Option.bind_eq_some_iff] at h0; obtain ⟨_, _, _, _, _, _, h0⟩ := h0; split at h0 <;> simp [Option.bind_eq_some_iff] at h0; done)
  · split at h
    · cases h
    · unfold cyop at h
      split at h
      rotate_left
      · cases h
      rename_i a1 h1
      cases h
      replace h := h1
      unfold cyop0 at h
      cases hop : o.op with
      | next y s =>
        rw [hop] at h
        simp only at h
        split at h
        · rename_i hs
          subst hs
          obtain ⟨x', hx, he⟩ := Option.map_eq_some_iff.1 h
          cases he
          exact ⟨y, rfl, hx⟩
        · cases h
      | _ =>
        rw [hop] at h
        exfalso
        simp only at h
        (repeat' split at h) <;> first | (cases h; done) | (simp at h; done) | (simp [Option.bind_eq_some_iff] at h; done)

/-- THE STEP: what the condition asks, the operation does. -/
theorem exF_sound {fx : Bool} {ops : Array Oper} {o : Oper} {ao : AOper} (hr : OpRel P nt ops o ao) (hin : In nt w0 L ι0 H0 B w ι ρ H nx a) {k : (Nat → AV) → AH → Nat → Prop} (hex : ExF P fx ao ρ H nx k)
    {Kc : Act → World → Prop} {Qc : Exit → Act → World → Prop} (hk : ∀ w' ι' ρ' H' nx' a', In nt w0 L ι0 H0 B w' ι' ρ' H' nx' a' → k ρ' H' nx' → Kc a' w') :
    if Region.wanted o (yielded ops a.tmps) then o.wp P a w Kc Qc else Kc (a.put o.dst undef) w := by
  have hrel := hin.st.rel
  have skip : k (upd ρ ao.dst (.tup [])) H nx → Kc (a.put o.dst undef) w := fun h =>
    hk _ _ _ _ _ _ (hin.put hr.ok (.refl hrel) (Nat.le_refl _) (VR.tup _ #[] [] rfl (fun i v a h => by simp at h))) (by rw [← hr.dst]; exact h)
  -- a call through a value that is known
  have callIt : ∀ (c : Call) (x : Operand) (f : FuncId) (capsV : Array Value) (args caps : List AV), o.op = .call c → c.callee = .value x → a.eval x = .func (.func f) #[] capsV → fnGood P f = true →
      VRs w (Lt L ι H) ι (c.args.toList.map a.eval) args → VRs w (Lt L ι H) ι capsV.toList caps → CallOk P f (args ++ caps) H nx (fun v H' nx' => (bif fx then v.wf else True) → k (upd ρ ao.dst v) H' nx') → o.wp P a w Kc Qc := by
    intro c x f capsV args caps ho hc hx hf hargs hcaps hcall
    unfold Oper.wp
    rw [run_call_value ho hc hx hf]
    simp only [Oper.upon]
    refine (hcall w L ι _ hrel (by simpa using hargs.append hcaps)).mono fun e w' ⟨v, ι', H', nx', av, he, h1, h2, h3, h4⟩ => ?_
    subst he
    refine hk _ _ _ _ _ _ (hin.put hr.ok h1 h2 h3) ?_
    rw [← hr.dst]
    refine h4 ?_
    cases fx
    · trivial
    · exact h3.wf
  have callFix : ∀ (c : Call) (f : FuncId) (args : List AV) (av : AV), o.op = .call c → c.callee = .value (.func f) → fnGood P f = true →
      VRs w (Lt L ι H) ι (c.args.toList.map a.eval) args → CallFix P f args H nx av → k (upd ρ ao.dst av) H nx → o.wp P a w Kc Qc := by
    intro c f args av ho hc hf hargs hcall hkk
    unfold Oper.wp
    rw [run_call_value (caps := #[]) ho hc rfl hf]
    simp only [Oper.upon]
    refine (hcall w L ι _ hrel (by simpa using hargs)).mono fun e w' ⟨v, he, h1, h3⟩ => ?_
    subst he
    exact hk _ _ _ _ _ _ (hin.put hr.ok h1 (Nat.le_refl _) h3) (by rw [← hr.dst]; exact hkk)
  have body : bodyK P fx ao.op ρ H nx (fun v H' nx' => k (upd ρ ao.dst v) H' nx') → o.wp P a w Kc Qc := by
    intro hbody
    obtain ⟨op0, hop, hcase⟩ := hr.op
    rcases hcase with hcase | ⟨f, xs, rfl, h1⟩ | ⟨x, rfl, h1⟩ | ⟨sz, len, z, ps, rfl, h1⟩
    · rw [← hcase] at hop
      have plain : ao.op.isCall = false → useRes fx (aop ao.op ρ H nx) (fun v H' nx' => k (upd ρ ao.dst v) H' nx') → o.wp P a w Kc Qc := by
        intro hcall ⟨hs, hf⟩
        obtain ⟨n, v, w', ι', hrun, hn, hst, hv, hfact, _⟩ := cop_ok hop hcall hrel hin.kn hs
        unfold Oper.wp
        rw [hrun]
        have hfin := hk _ _ _ _ _ _ (hin.put hr.ok hst (aop_nx _ _) hv) (by rw [← hr.dst]; exact hf (by cases fx; trivial; exact hfact))
        rcases hn with rfl | ⟨rfl, rfl⟩
        · exact hfin
        · exact hfin
      unfold bodyK at hbody
      cases hk0 : ao.op with
      | call f xs =>
        rw [hk0] at hbody hop
        obtain ⟨c, h1, h2, h3, h4⟩ := cop_call hop
        exact callIt c _ f #[] (evs ρ xs) [] h1 h2 rfl h4 (copds_ok hin.kn h3) .nil (by simpa using hbody)
      | callq f xs => rw [hk0] at hop; exact (cop_callq hop).elim
      | mnext x =>
        rw [hk0] at hbody hop
        obtain ⟨xo, h1, h2⟩ := cop_mnext hop
        obtain ⟨v, w', ι', av, H', hrun, hst, hv, hkk⟩ := nextOk_ok (P := P) (ty := o.type) hrel (copd_ok hin.kn h2) hbody
        unfold Oper.wp
        have hrun' : (execOp a.eval o).run P w = .ok (.value v) w' := by
          unfold execOp
          rw [h1]
          exact run_v hrun
        rw [hrun']
        exact hk _ _ _ _ _ _ (hin.put hr.ok hst (Nat.le_refl _) hv) (by rw [← hr.dst]; exact hkk)
      | isnil neg p x =>
        rw [hk0] at hbody hop
        obtain ⟨t, xo, yt, h1, h2, d, h3, h4⟩ := cop_isnil hop
        simp only at hbody
        cases hn : nilB p (ev ρ x) with
        | none => rw [hn] at hbody; exact hbody.elim
        | some r =>
          obtain ⟨b, h5, h6, h7⟩ := run_equal_nil h3 h4 (copd_ok hin.kn h2) hn
          have hrun : (execOp a.eval o).run P w = .ok (.value (.bool (b != neg))) w := by
            simp only [execOp, h1]
            have hy : a.eval (.const (bif p then .pointer none else .slice none 0 0)) = (bif p then .pointer none else .slice none 0 0) := rfl
            rw [hy]
            generalize a.eval xo = v at h6 h7
            obtain ⟨i1, i2, i3, i4, i5, i6⟩ := h7
            cases neg <;> cases p <;> cases v <;> first
              | exact absurd rfl (i1 _ _)
              | exact absurd rfl (i2 _)
              | exact absurd rfl (i3 _ _)
              | exact absurd rfl (i4 _ _ _)
              | exact absurd rfl i5
              | exact absurd rfl (i6 _)
              | (simp only [cond_true, cond_false] at h6
                 simp [Sem.run_bind, eqGuard, binOp, h6])
          unfold Oper.wp
          rw [hrun]
          refine hk _ _ _ _ _ _ (hin.put hr.ok (.refl hrel) (Nat.le_refl _) (.bool _ (b != neg))) ?_
          rw [← hr.dst]
          rw [hn] at hbody
          cases r with
          | none => exact hbody (b != neg)
          | some c => rw [h5 c rfl]; exact hbody
      | callv x xs =>
        rw [hk0] at hbody hop
        obtain ⟨c, t, h1, h2, h3, rfl⟩ := cop_callv hop
        simp only [ev] at hbody
        cases hx : ρ t with
        | fn g caps =>
          rw [hx] at hbody
          cases g with
          | func f =>
            have hv := hin.kn t
            rw [hx] at hv
            generalize hu : a.tmps.getD t undef = u at hv
            cases hv with
            | fn _ _ cs _ hs hvv =>
              exact callIt c _ f cs (evs ρ xs) caps h1 h2 hu hbody.1 (copds_ok hin.kn h3) (.ofGet _ _ (by simpa using hs) (fun i v b h5 h6 => hvv i v b (by simpa using h5) h6)) hbody.2
          | _ => exact hbody.elim
        | _ => rw [hx] at hbody; exact hbody.elim
      | _ => rw [hk0] at hbody; exact plain (by rw [hk0]; rfl) (by rw [hk0]; exact hbody)
    · unfold bodyK at hbody
      rw [h1] at hbody
      obtain ⟨c, h2, h3, h4, h5⟩ := cop_call hop
      obtain ⟨av, h6, h7⟩ := hbody
      exact callFix c f _ av h2 h3 h5 (copds_ok hin.kn h4) h6 h7
    · unfold bodyK at hbody
      rw [h1] at hbody
      obtain ⟨hs, hf⟩ := hbody
      obtain ⟨e, xo, h2, h3⟩ := cop_box hop
      obtain ⟨v, w', ι', hrun, hst, hv, hfact⟩ := rboxR_ok (P := P) (e := e) hrel (copd_ok hin.kn h3) hs
      unfold Oper.wp
      have hrun' : (execOp a.eval o).run P w = .ok (.value v) w' := by
        unfold execOp
        rw [h2]
        exact run_v hrun
      rw [hrun']
      exact hk _ _ _ _ _ _ (hin.put hr.ok hst (aop_nx (.rbox x) _) hv) (by rw [← hr.dst]; exact hf (by cases fx <;> trivial))
    · unfold bodyK at hbody
      rw [h1] at hbody
      obtain ⟨hs, hf⟩ := hbody
      obtain ⟨t, parts, e, i, h2, hu, hi, hz, hb, hpos, rfl, hps⟩ := cop_buildSl hop
      have hel := mapM_copd_parts hin.kn (by simpa using hps)
      have hmap : (parts.map fun (p : Nat × Operand) => (p.1, a.eval p.2)).toList = parts.toList.map fun p => (p.1, a.eval p.2) := by simp
      obtain ⟨v, w', ι', hrun, hst, hv, hfact⟩ := rbuildSlR_ok (P := P) (parts := parts.map fun (p : Nat × Operand) => (p.1, a.eval p.2)) hrel hu hi hz hb hpos (by rw [hmap]; exact hel) hs
      unfold Oper.wp
      have hrun' : (execOp a.eval o).run P w = .ok (.value v) w' := by
        unfold execOp
        rw [h2]
        exact run_v hrun
      rw [hrun']
      exact hk _ _ _ _ _ _ (hin.put hr.ok hst (aop_nx (.rbuildSl i.size len z ps) _) hv) (by rw [← hr.dst]; exact hf (by cases fx <;> trivial))
  have hw := wanted_of hr hin.kn
  unfold ExF at hex
  cases hg : ao.guard with
  | none =>
    rw [hg] at hex hw
    rw [if_pos hw]
    exact body hex
  | some p =>
    obtain ⟨t, want⟩ := p
    rw [hg] at hex hw
    simp only at hex hw
    cases hv : grd want (ρ t) with
    | some r =>
      rw [hv] at hex
      simp only at hex
      rw [hw r hv]
      cases r with
      | true => rw [if_pos rfl]; exact body (hex.1 rfl)
      | false => rw [if_neg (by simp)]; exact skip (hex.2 rfl)
    | none => rw [hv] at hex; exact hex.elim

end
end Go.Ab

namespace Go.Ab
open Go.RowKit

section
variable {P : Program} {L : Nat → Prop} {nt : Nat} {w0 : World} {ι0 : Inj} {H0 : AH} {B : Nat}

/-- What is known when a piece of code is left. -/
def QQ (nt : Nat) (w0 : World) (L : Nat → Prop) (ι0 : Inj) (H0 : AH) (B : Nat) (Q : QT) : Exit → Act → World → Prop := fun e a w =>
  ∃ ι K H nx, In nt w0 L ι0 H0 B w ι (Kn.get K) H nx a ∧ match e with
    | .normal => Q .normal K H nx
    | .exit id => Q (.exit id) K H nx
    | .ret => Q .ret K H nx
    | .goto l => Q (.goto l) K H nx
    | _ => False

theorem In.drop {w : World} {ι : Inj} {K : Kn} {H : AH} {nx : Nat} {a : Act} (h : In nt w0 L ι0 H0 B w ι K.get H nx a) (l : List Nat) : In nt w0 L ι0 H0 B w ι (K.drop l).get H nx a := by
  refine ⟨h.size, h.defers, h.st, h.le, fun i => ?_⟩
  rcases Kn.get_drop K l i with h1 | h1
  · rw [h1]; exact .undef _ _
  · rw [h1]; exact h.kn i

theorem In.ent (base : RelH w0 L ι0 H0 B) {w : World} {ι : Inj} {K K2 : Kn} {H H2 : AH} {nx nx2 : Nat} {a : Act} (h : In nt w0 L ι0 H0 B w ι K.get H nx a) (he : Ent B K H nx K2 H2 nx2) :
    ∃ ι2, In nt w0 L ι0 H0 B w ι2 K2.get H2 nx2 a := by
  obtain ⟨h1, h2⟩ := he
  obtain ⟨ι2, h3, h4, h5, h6⟩ := h2 w L ι a.tmps h.st.rel h.kn
  refine ⟨ι2, h.size, h.defers, ⟨h.st.ext, fun r q g l hl => h6 r q g l (base.idx _ _ _ _ hl) (h.st.inj _ _ _ _ hl), h3, fun b hb => h.st.lv b (h5 b hb)⟩, h1, h4⟩

theorem In.wfK {w : World} {ι : Inj} {K : Kn} {H : AH} {nx : Nat} {a : Act} (h : In nt w0 L ι0 H0 B w ι K.get H nx a) : WfK K := fun i => (h.kn i).wf

theorem aops_sound {ops : Array Oper} {drop : List Nat} {Q : QT} : ∀ (l : List Oper) (asv : List AOper), asv.length = l.length → (∀ (i : Nat) (o : Oper) (ao : AOper), l[i]? = some o → asv[i]? = some ao → OpRel P nt ops o ao) →
    ∀ {w : World} {ι : Inj} {K : Kn} {H : AH} {nx : Nat} {a : Act}, In nt w0 L ι0 H0 B w ι K.get H nx a → aops P asv drop Q K H nx → wpList P ops (QQ nt w0 L ι0 H0 B Q) l a w
  | [], [], _, _, w, ι, K, H, nx, a, hin, h => ⟨ι, K.drop drop, H, nx, hin.drop drop, h⟩
  | o :: l, ao :: asv, hl, hr, w, ι, K, H, nx, a, hin, h => by
    have h1 := hr 0 o ao rfl rfl
    have hex := exK_exF (k' := fun ρ H nx => ∃ K', Kn.get K' = ρ ∧ aops P asv drop Q K' H nx) (fun K H nx hh => ⟨K, rfl, hh⟩) h
    have := exF_sound h1 hin hex (Kc := wpList P ops (QQ nt w0 L ι0 H0 B Q) l) (Qc := QQ nt w0 L ι0 H0 B Q) (fun w' ι' ρ' H' nx' a' hin' ⟨K', hK', hh⟩ => by
      subst hK'
      exact aops_sound l asv (by simpa using hl) (fun i o ao h1 h2 => hr (i + 1) o ao (by simpa using h1) (by simpa using h2)) hin' hh)
    unfold wpList
    split
    · rename_i hw; rw [if_pos hw] at this; exact .inl this
    · rename_i hw; rw [if_neg hw] at this; exact this

theorem mapM_rel {ops : Array Oper} : ∀ {l : List Oper} {asv : List AOper}, l.mapM (coper P nt ops) = some asv → asv.length = l.length ∧ ∀ (i : Nat) (o : Oper) (ao : AOper), l[i]? = some o → asv[i]? = some ao → OpRel P nt ops o ao := by
  intro l asv h
  refine ⟨cav_ok.mapM_len _ _ _ h, fun i o ao h1 h2 => coper_rel (cav_ok.mapM_get _ _ _ h i o ao h1 h2)⟩

/-- What part O proves of a region that draws its order. -/
def DrawSound (P : Program) : Prop := ∀ (nt : Nat) (w0 : World) (L : Nat → Prop) (ι0 : Inj) (H0 : AH) (B : Nat) (id : Nat) (ops : Array Oper) (bs : List AOper) (drop : List Nat) (Q : QT),
  bs.length = ops.size → (∀ (i : Nat) (o : Oper) (ao : AOper), ops.toList[i]? = some o → bs[i]? = some ao → OpRel P nt ops o ao) → P.follows .mixedOrders = true →
  ((List.range ops.size).all fun j => ((ops.toList.map depsOf).getD j []).all fun i => Nat.blt i j) = true →
  ∀ (w : World) (ι : Inj) (K : Kn) (H : AH) (nx : Nat) (a : Act), In nt w0 L ι0 H0 B w ι K.get H nx a →
    awpT P (mkTree bs (ops.toList.map depsOf) ops.size (List.replicate ops.size false)) drop Q K H nx → (Code.region id ops true).wp P (QQ nt w0 L ι0 H0 B Q) a w

theorem quietAt_length (q : List Nat) : ∀ (k : Nat) (asv : List AOper), (quietAt q k asv).length = asv.length
  | _, [] => rfl
  | k, o :: r => by simp [quietAt, quietAt_length q (k + 1) r]

theorem quietAt_get (q : List Nat) : ∀ (k : Nat) (asv : List AOper) (i : Nat) (b : AOper), (quietAt q k asv)[i]? = some b → ∃ a, asv[i]? = some a ∧ (b = a ∨ b = a.quiet)
  | _, [], i, b, h => by simp [quietAt] at h
  | k, o :: r, 0, b, h => by
    simp only [quietAt, List.getElem?_cons_zero, Option.some.injEq] at h
    refine ⟨o, rfl, ?_⟩
    cases hm : memN q k <;> rw [hm] at h
    · exact .inl h.symm
    · exact .inr h.symm
  | k, o :: r, i + 1, b, h => by
    simp only [quietAt, List.getElem?_cons_succ] at h
    simpa using quietAt_get q (k + 1) r i b h

/-- The least number of which something holds. -/
noncomputable def leastOf (G : Nat → Act → World → Prop) (a : Act) (w : World) : Nat := open Classical in if h : ∃ n, G n a w ∧ ∀ m, G m a w → n ≤ m then Classical.choose h else 0
theorem least_ex {p : Nat → Prop} (h : ∃ n, p n) : ∃ n, p n ∧ ∀ m, p m → n ≤ m := by
  obtain ⟨n, hn⟩ := h
  induction n using Nat.strongRecOn with
  | _ n ih =>
    by_cases hs : ∃ m, m < n ∧ p m
    · obtain ⟨m, h1, h2⟩ := hs
      exact ih m h1 h2
    · exact ⟨n, hn, fun m hm => by
        rcases Nat.lt_or_ge m n with h | h
        · exact absurd ⟨m, h, hm⟩ hs
        · exact h⟩
theorem leastOf_both {G : Nat → Act → World → Prop} {a : Act} {w : World} (h : ∃ n, G n a w) : G (leastOf G a w) a w ∧ ∀ m, G m a w → leastOf G a w ≤ m := by
  have hex := least_ex h
  have e : leastOf G a w = Classical.choose hex := by unfold leastOf; rw [dif_pos hex]
  rw [e]
  exact Classical.choose_spec hex
theorem leastOf_spec {G : Nat → Act → World → Prop} {a : Act} {w : World} (h : ∃ n, G n a w) : G (leastOf G a w) a w := (leastOf_both h).1
theorem leastOf_le {G : Nat → Act → World → Prop} {a : Act} {w : World} {n : Nat} (h : G n a w) : leastOf G a w ≤ n := (leastOf_both ⟨n, h⟩).2 n h

theorem inScp_scope {a x : ACode} (h : inScp a = some (.scope x)) : a = x := by
  unfold inScp at h
  split at h
  · cases h; rfl
  · split at h <;> cases h
theorem inScp_jump {a x y : ACode} {l : Nat} (h : inScp a = some (.jump l x y)) : a = x ∧ findL a l = some y := by
  unfold inScp at h
  split at h
  · cases h
  · split at h
    · rename_i hf
      cases h
      exact ⟨rfl, hf⟩
    · cases h
theorem inScp_form {a x : ACode} (h : inScp a = some x) : match x with | .scope _ => True | .jump _ _ _ => True | _ => False := by
  unfold inScp at h
  split at h
  · cases h; trivial
  · split at h <;> cases h
    trivial

theorem findLabel_comp {q : Nat → List Nat} : ∀ {c : Code} {x : ACode} {l : Nat} {rest : Code}, comp P nt q c = some x → findLabel c l = some rest → ∃ y, findL x l = some y := by
  intro c
  induction c with
  | seq a b iha ihb =>
    intro x l rest hc hf
    simp only [comp, Option.bind_eq_bind, Option.bind_eq_some_iff, Option.some.injEq] at hc
    obtain ⟨x', hx, y', hy, rfl⟩ := hc
    simp only [findLabel] at hf
    simp only [findL]
    split at hf
    · rename_i r hr
      obtain ⟨y, h1⟩ := iha hx hr
      exact ⟨_, by rw [h1]⟩
    · obtain ⟨y, h1⟩ := ihb hy hf
      cases h2 : findL x' l with
      | none => exact ⟨y, h1⟩
      | some r => exact ⟨_, rfl⟩
  | label l' =>
    intro x l rest hc hf
    simp only [comp, Option.some.injEq] at hc
    subst hc
    simp only [findLabel] at hf
    split at hf
    · rename_i h
      have : l' = l := by simpa using h
      subst this
      exact ⟨.skip, by simp [findL]⟩
    · cases hf
  | _ => intro x l rest hc hf; cases hf

/-- What follows a label, and its light form. -/
theorem findL_comp {q : Nat → List Nat} : ∀ {c : Code} {x y : ACode} {l : Nat}, comp P nt q c = some x → findL x l = some y → ∃ rest, findLabel c l = some rest ∧ comp P nt q rest = some y := by
  intro c
  induction c with
  | seq a b iha ihb =>
    intro x y l hc hf
    simp only [comp, Option.bind_eq_bind, Option.bind_eq_some_iff, Option.some.injEq] at hc
    obtain ⟨x', hx, y', hy, rfl⟩ := hc
    simp only [findL] at hf
    split at hf
    · rename_i r hr
      cases hf
      obtain ⟨rest, h1, h2⟩ := iha hx hr
      exact ⟨.seq rest b, by simp [findLabel, h1], by simp [comp, h2, hy]⟩
    · rename_i hr
      obtain ⟨rest, h1, h2⟩ := ihb hy hf
      refine ⟨rest, ?_, h2⟩
      have hno : findLabel a l = none := by
        cases hfa : findLabel a l with
        | none => rfl
        | some rest' =>
          obtain ⟨y2, h3⟩ := findLabel_comp hx hfa
          rw [hr] at h3
          cases h3
      simp [findLabel, hno, h1]
  | label l' =>
    intro x y l hc hf
    simp only [comp, Option.some.injEq] at hc
    subst hc
    simp only [findL] at hf
    cases hb : Nat.beq l' l with
    | true =>
      rw [hb] at hf
      cases hf
      exact ⟨.skip, by simp [findLabel, beq_true hb], rfl⟩
    | false => rw [hb] at hf; cases hf
  | _ =>
    intro x y l hc hf
    exfalso
    simp only [comp] at hc
    first
    | (cases hc; cases hf; done)
    | (obtain ⟨x', hx, he⟩ := Option.bind_eq_some_iff.1 hc
       have := inScp_form he
       cases x <;> first | (cases hf; done) | exact this)
    | (simp only [Option.bind_eq_bind, Option.bind_eq_some_iff, Option.some.injEq] at hc
       obtain ⟨_, _, rfl⟩ := hc
       cases hf)
    | (simp only [Option.bind_eq_bind, Option.bind_eq_some_iff, Option.some.injEq] at hc
       obtain ⟨_, _, _, _, _, _, rfl⟩ := hc
       cases hf)
    | ((repeat' split at hc) <;> first | (cases hc; done) | (simp at hc; (repeat' split at hc) <;> first | (cases hc; cases hf; done) | (cases hc; done) | skip))

theorem awp_sound (hdraw : DrawSound P) (base : RelH w0 L ι0 H0 B) {q : Nat → List Nat} : ∀ (ac : ACode) (c : Code), comp P nt q c = some ac.strip → ∀ (Q : QT) (w : World) (ι : Inj) (K : Kn) (H : AH) (nx : Nat) (a : Act),
    In nt w0 L ι0 H0 B w ι K.get H nx a → awp P B ac Q K H nx → c.wp P (QQ nt w0 L ι0 H0 B Q) a w := by
  intro ac
  induction ac with
  | skip =>
    intro c hc Q w ι K H nx a hin h
    cases c <;> simp only [comp, ACode.strip] at hc <;> first | exact wp_skip ⟨ι, K, H, nx, hin, h⟩ | (cases hc; done) | (obtain ⟨x', hx, he⟩ := Option.bind_eq_some_iff.1 hc; exact (inScp_form he).elim) | ((repeat' split at hc) <;> simp [Option.bind_eq_some_iff] at hc; done)
  | region asv drop =>
    intro c hc Q w ι K H nx a hin h
    cases c with
    | region id ops draw =>
      simp only [comp, ACode.strip] at hc
      split at hc
      · rename_i as' hm
        cases draw with
        | true => simp at hc
        | false =>
          simp at hc
          subst hc
          obtain ⟨h1, h2⟩ := mapM_rel hm
          refine wp_region_list (aops_sound _ _ (by simpa using h1) (fun i o ao h3 h4 => ?_) hin h)
          rw [List.getElem?_map] at h4
          obtain ⟨b, h5, rfl⟩ := Option.map_eq_some_iff.1 h4
          exact (h2 i o b h3 h5).ro
      · cases hc
    | scope c1 =>
      exfalso
      simp only [comp, ACode.strip, Option.bind_eq_some_iff] at hc
      obtain ⟨x', hx, he⟩ := hc
      exact (inScp_form he).elim
    | _ => simp [comp, ACode.strip, Option.bind_eq_some_iff] at hc
  | draw t drop =>
    intro c hc Q w ι K H nx a hin h
    cases c with
    | region id ops draw =>
      simp only [comp, ACode.strip] at hc
      split at hc
      · rename_i as' hm
        cases draw with
        | false => simp at hc
        | true =>
          simp only [if_true] at hc
          split at hc
          · rename_i hg
            simp only [Bool.and_eq_true] at hg
            cases hc
            obtain ⟨h1, h2⟩ := mapM_rel hm
            refine hdraw nt w0 L ι0 H0 B id ops ((quietAt (q id) 0 as').map (AOper.ro (q 999999))) drop Q (by rw [List.length_map, quietAt_length, h1]; simp) (fun i o ao h3 h4 => ?_) hg.1 hg.2 w ι K H nx a hin h
            rw [List.getElem?_map] at h4
            obtain ⟨b0, h40, rfl⟩ := Option.map_eq_some_iff.1 h4
            obtain ⟨b, h5, h6⟩ := quietAt_get _ _ _ _ _ h40
            rcases h6 with rfl | rfl
            · exact (h2 i o _ h3 h5).ro
            · exact (h2 i o _ h3 h5).quiet.ro
          · cases hc
      · cases hc
    | scope c1 =>
      exfalso
      simp only [comp, ACode.strip, Option.bind_eq_some_iff] at hc
      obtain ⟨x', hx, he⟩ := hc
      exact (inScp_form he).elim
    | _ => simp [comp, ACode.strip, Option.bind_eq_some_iff] at hc
  | seq x y ihx ihy =>
    intro c hc Q w ι K H nx a hin h
    cases c with
    | seq c1 c2 =>
      simp only [comp, ACode.strip, Option.bind_eq_bind, Option.bind_eq_some_iff, Option.some.injEq] at hc
      obtain ⟨x', hx, y', hy, he⟩ := hc
      cases he
      refine wp_seq (wp_mono (ihx c1 hx _ w ι K H nx a hin h) fun e a' w' ⟨ι', K', H', nx', hin', hq⟩ => ?_)
      cases e with
      | normal => exact ihy c2 hy Q w' ι' K' H' nx' a' hin' hq
      | exit id => exact ⟨ι', K', H', nx', hin', hq⟩
      | ret => exact ⟨ι', K', H', nx', hin', hq⟩
      | goto l => exact ⟨ι', K', H', nx', hin', hq⟩
      | _ => exact hq.elim
    | scope c1 =>
      exfalso
      simp only [comp, ACode.strip, Option.bind_eq_some_iff] at hc
      obtain ⟨x', hx, he⟩ := hc
      exact (inScp_form he).elim
    | region id ops draw => simp only [comp, ACode.strip] at hc; (repeat' split at hc) <;> simp at hc
    | _ => simp [comp, ACode.strip, Option.bind_eq_some_iff] at hc
  | join x y ihx ihy =>
    intro c hc Q w ι K H nx a hin h
    cases c with
    | seq c1 c2 =>
      simp only [comp, ACode.strip, Option.bind_eq_bind, Option.bind_eq_some_iff, Option.some.injEq] at hc
      obtain ⟨x', hx, y', hy, he⟩ := hc
      cases he
      obtain ⟨α, S, N, inv, h1, h2⟩ := h
      refine wp_seq (wp_mono (ihx c1 hx _ w ι K H nx a hin h1) fun e a' w' ⟨ι', K', H', nx', hin', hq⟩ => ?_)
      cases e with
      | normal =>
        obtain ⟨s, hs, he⟩ := hq
        obtain ⟨ι2, hin2⟩ := hin'.ent base he
        exact ihy c2 hy Q w' ι2 (S s).1 (S s).2 N a' hin2 (h2 s hs hin2.wfK)
      | exit id => exact ⟨ι', K', H', nx', hin', hq⟩
      | ret => exact ⟨ι', K', H', nx', hin', hq⟩
      | goto l => exact ⟨ι', K', H', nx', hin', hq⟩
      | _ => exact hq.elim
    | scope c1 =>
      exfalso
      simp only [comp, ACode.strip, Option.bind_eq_some_iff] at hc
      obtain ⟨x', hx, he⟩ := hc
      exact (inScp_form he).elim
    | region id ops draw => simp only [comp, ACode.strip] at hc; (repeat' split at hc) <;> simp at hc
    | _ => simp [comp, ACode.strip, Option.bind_eq_some_iff] at hc
  | cond x y z ihy ihz =>
    intro c hc Q w ι K H nx a hin h
    cases c with
    | cond x1 c1 c2 =>
      simp only [comp, ACode.strip, Option.bind_eq_bind, Option.bind_eq_some_iff, Option.some.injEq] at hc
      obtain ⟨x', hx, y', hy, z', hz, he⟩ := hc
      cases he
      have hv := copd_ok hin.kn hx
      simp only [awp] at h
      cases hev : ev K.get x with
      | bool t =>
        rw [hev] at h hv
        simp only at h
        generalize hu : a.eval x1 = u at hv
        cases hv
        cases t with
        | true => exact wp_cond_true hu (ihy c1 hy Q w ι K H nx a hin (h.1 rfl))
        | false => exact wp_cond_false hu (ihz c2 hz Q w ι K H nx a hin (h.2 rfl))
      | _ => rw [hev] at h; exact h.elim
    | scope c1 =>
      exfalso
      simp only [comp, ACode.strip, Option.bind_eq_some_iff] at hc
      obtain ⟨x', hx, he⟩ := hc
      exact (inScp_form he).elim
    | region id ops draw => simp only [comp, ACode.strip] at hc; (repeat' split at hc) <;> simp at hc
    | _ => simp [comp, ACode.strip, Option.bind_eq_some_iff] at hc
  | block id x ih =>
    intro c hc Q w ι K H nx a hin h
    cases c with
    | block id' c1 =>
      simp only [comp, ACode.strip, Option.bind_eq_bind, Option.bind_eq_some_iff, Option.some.injEq] at hc
      obtain ⟨x', hx, he⟩ := hc
      cases he
      refine wp_block (wp_mono (ih c1 hx _ w ι K H nx a hin h) fun e a' w' ⟨ι', K', H', nx', hin', hq⟩ => ?_)
      cases e with
      | normal => exact ⟨ι', K', H', nx', hin', hq⟩
      | exit j =>
        simp only [Exit.inBlock]
        simp only at hq
        by_cases hj : j = id
        · subst hj
          rw [if_pos rfl]
          rw [beq_refl'] at hq
          exact ⟨ι', K', H', nx', hin', hq⟩
        · rw [if_neg hj]
          rw [beq_ne hj] at hq
          exact ⟨ι', K', H', nx', hin', hq⟩
      | ret => exact ⟨ι', K', H', nx', hin', hq⟩
      | goto l => exact ⟨ι', K', H', nx', hin', hq⟩
      | _ => exact hq.elim
    | scope c1 =>
      exfalso
      simp only [comp, ACode.strip, Option.bind_eq_some_iff] at hc
      obtain ⟨x', hx, he⟩ := hc
      exact (inScp_form he).elim
    | region id ops draw => simp only [comp, ACode.strip] at hc; (repeat' split at hc) <;> simp at hc
    | _ => simp [comp, ACode.strip, Option.bind_eq_some_iff] at hc
  | loop x ih =>
    intro c hc Q w ι K H nx a hin h
    cases c with
    | loop c1 =>
      simp only [comp, ACode.strip, Option.bind_eq_bind, Option.bind_eq_some_iff, Option.some.injEq] at hc
      obtain ⟨x', hx, he⟩ := hc
      cases he
      obtain ⟨α, S, N, inv, μ, ⟨s0, hs0, he0⟩, hround⟩ := h
      obtain ⟨ι1, hin1⟩ := hin.ent base he0
      refine wp_loop_ghost (fun n a w => ∃ s ι, inv s ∧ μ s = n ∧ In nt w0 L ι0 H0 B w ι (Kn.get (S s).1) (S s).2 N a) (μ s0) ⟨s0, ι1, hs0, rfl, hin1⟩ ?_
      rintro n a' w' ⟨s, ι', hs, rfl, hin'⟩
      refine wp_mono (ih c1 hx _ w' ι' (S s).1 (S s).2 N a' hin' (hround s hs hin'.wfK)) fun e a2 w2 ⟨ι2, K2, H2, nx2, hin2, hq⟩ => ?_
      cases e with
      | normal =>
        obtain ⟨s', hs', hlt, he⟩ := hq
        obtain ⟨ι3, hin3⟩ := hin2.ent base he
        exact ⟨_, hlt, s', ι3, hs', rfl, hin3⟩
      | exit id => exact ⟨ι2, K2, H2, nx2, hin2, hq⟩
      | ret => exact ⟨ι2, K2, H2, nx2, hin2, hq⟩
      | goto l => exact ⟨ι2, K2, H2, nx2, hin2, hq⟩
      | _ => exact hq.elim
    | scope c1 =>
      exfalso
      simp only [comp, ACode.strip, Option.bind_eq_some_iff] at hc
      obtain ⟨x', hx, he⟩ := hc
      exact (inScp_form he).elim
    | region id ops draw => simp only [comp, ACode.strip] at hc; (repeat' split at hc) <;> simp at hc
    | _ => simp [comp, ACode.strip, Option.bind_eq_some_iff] at hc
  | exit id =>
    intro c hc Q w ι K H nx a hin h
    cases c with
    | exit id' =>
      simp only [comp, ACode.strip, Option.some.injEq] at hc
      cases hc
      exact wp_exit ⟨ι, K, H, nx, hin, h⟩
    | scope c1 =>
      exfalso
      simp only [comp, ACode.strip, Option.bind_eq_some_iff] at hc
      obtain ⟨x', hx, he⟩ := hc
      exact (inScp_form he).elim
    | region id ops draw => simp only [comp, ACode.strip] at hc; (repeat' split at hc) <;> simp at hc
    | _ => simp [comp, ACode.strip, Option.bind_eq_some_iff] at hc
  | ret =>
    intro c hc Q w ι K H nx a hin h
    cases c with
    | ret => exact wp_ret ⟨ι, K, H, nx, hin, h⟩
    | scope c1 =>
      exfalso
      simp only [comp, ACode.strip, Option.bind_eq_some_iff] at hc
      obtain ⟨x', hx, he⟩ := hc
      exact (inScp_form he).elim
    | region id ops draw => simp only [comp, ACode.strip] at hc; (repeat' split at hc) <;> simp at hc
    | _ => simp [comp, ACode.strip, Option.bind_eq_some_iff] at hc
  | label l =>
    intro c hc Q w ι K H nx a hin h
    cases c with
    | label l' => exact wp_label ⟨ι, K, H, nx, hin, h⟩
    | scope c1 =>
      exfalso
      simp only [comp, ACode.strip, Option.bind_eq_some_iff] at hc
      obtain ⟨x', hx, he⟩ := hc
      exact (inScp_form he).elim
    | region id ops draw => simp only [comp, ACode.strip] at hc; (repeat' split at hc) <;> simp at hc
    | _ => simp [comp, ACode.strip, Option.bind_eq_some_iff] at hc
  | goto l =>
    intro c hc Q w ι K H nx a hin h
    cases c with
    | goto l' =>
      simp only [comp, ACode.strip, Option.some.injEq] at hc
      cases hc
      exact wp_goto ⟨ι, K, H, nx, hin, h⟩
    | scope c1 =>
      exfalso
      simp only [comp, ACode.strip, Option.bind_eq_some_iff] at hc
      obtain ⟨x', hx, he⟩ := hc
      exact (inScp_form he).elim
    | region id ops draw => simp only [comp, ACode.strip] at hc; (repeat' split at hc) <;> simp at hc
    | _ => simp [comp, ACode.strip, Option.bind_eq_some_iff] at hc
  | scope x ih =>
    intro c hc Q w ι K H nx a hin h
    cases c with
    | scope c1 =>
      simp only [comp, ACode.strip, Option.bind_eq_some_iff] at hc
      obtain ⟨x', hx, he⟩ := hc
      have hx' := inScp_scope he
      subst hx'
      refine wp_scope_straight (wp_mono (ih c1 hx (noGQ Q) w ι K H nx a hin h) fun e a' w' ⟨ι', K', H', nx', hin', hq⟩ => ?_)
      cases e with
      | normal => exact ⟨ι', K', H', nx', hin', hq⟩
      | exit id => exact ⟨ι', K', H', nx', hin', hq⟩
      | ret => exact ⟨ι', K', H', nx', hin', hq⟩
      | _ => exact hq.elim
    | region id ops draw => simp only [comp, ACode.strip] at hc; (repeat' split at hc) <;> simp at hc
    | _ => simp [comp, ACode.strip, Option.bind_eq_some_iff] at hc
  | jump l x y ihx ihy =>
    intro c hc Q w ι K H nx a hin h
    cases c with
    | scope c1 =>
      simp only [comp, ACode.strip, Option.bind_eq_some_iff] at hc
      obtain ⟨x', hx, he⟩ := hc
      obtain ⟨rfl, hf⟩ := inScp_jump he
      obtain ⟨rest, hrest, hcr⟩ := findL_comp hx hf
      obtain ⟨α, S, N, inv, μ, h1, h2⟩ := h
      let G : Nat → Act → World → Prop := fun n a w => ∃ s ι, inv s ∧ μ s = n ∧ In nt w0 L ι0 H0 B w ι (Kn.get (S s).1) (S s).2 N a
      refine wp_scope_jumps l (fun a w => ∃ n, G n a w) (leastOf G) hrest ?_ ?_
      · refine wp_mono (ihx c1 hx _ w ι K H nx a hin h1) fun e a' w' ⟨ι', K', H', nx', hin', hq⟩ => ?_
        cases e with
        | normal => exact ⟨ι', K', H', nx', hin', hq⟩
        | exit id => exact ⟨ι', K', H', nx', hin', hq⟩
        | ret => exact ⟨ι', K', H', nx', hin', hq⟩
        | goto l' =>
          obtain ⟨rfl, s, hs, he⟩ := hq
          obtain ⟨ι2, hin2⟩ := hin'.ent base he
          exact ⟨rfl, _, s, ι2, hs, rfl, hin2⟩
        | _ => exact hq.elim
      · intro a' w' hJ
        obtain ⟨s, ι', hs, hμ, hin'⟩ := leastOf_spec hJ
        refine wp_mono (ihy rest hcr _ w' ι' (S s).1 (S s).2 N a' hin' (h2 s hs hin'.wfK)) fun e a2 w2 ⟨ι2, K2, H2, nx2, hin2, hq⟩ => ?_
        cases e with
        | normal => exact ⟨ι2, K2, H2, nx2, hin2, hq⟩
        | exit id => exact ⟨ι2, K2, H2, nx2, hin2, hq⟩
        | ret => exact ⟨ι2, K2, H2, nx2, hin2, hq⟩
        | goto l' =>
          obtain ⟨rfl, s', hs', hlt, he⟩ := hq
          obtain ⟨ι3, hin3⟩ := hin2.ent base he
          have hg : G (μ s') a2 w2 := ⟨s', ι3, hs', rfl, hin3⟩
          exact ⟨rfl, ⟨_, hg⟩, by rw [← hμ]; exact Nat.lt_of_le_of_lt (leastOf_le hg) hlt⟩
        | _ => exact hq.elim
    | region id ops draw => simp only [comp, ACode.strip] at hc; (repeat' split at hc) <;> simp at hc
    | _ => simp [comp, ACode.strip, Option.bind_eq_some_iff] at hc
  | mark n x ih =>
    intro c hc Q w ι K H nx a hin h
    obtain ⟨K2, H2, nx2, he, h2⟩ := h hin.wfK
    obtain ⟨ι2, hin2⟩ := hin.ent base he
    exact ih c hc Q w ι2 K2 H2 nx2 a hin2 h2

end
end Go.Ab

namespace Go.Ab
open Go.RowKit

section
variable {P : Program}

/-- Operation i of a region that draws: where there is none, nothing happens. -/
def opA (P : Program) (bs : List AOper) (i : Nat) (ρ : Nat → AV) (H : AH) (nx : Nat) (k : (Nat → AV) → AH → Nat → Prop) : Prop :=
  ExF P false (bs.getD i default) ρ H nx k

/-- In whatever order the edges allow. -/
def anyA (P : Program) (bs : List AOper) (deps : List (List Nat)) (Q : (Nat → AV) → AH → Nat → Prop) : Nat → List Bool → (Nat → AV) → AH → Nat → Prop
  | 0, listed, ρ, H, nx => (∀ i, i < bs.length → readyA deps listed i = false) ∧ Q ρ H nx
  | fuel + 1, listed, ρ, H, nx => ((∀ i, i < bs.length → readyA deps listed i = false) → Q ρ H nx) ∧
    ∀ i, i < bs.length → readyA deps listed i = true → opA P bs i ρ H nx (anyA P bs deps Q fuel (listed.set i true))

theorem exF_mono {fx : Bool} {o : AOper} {ρ : Nat → AV} {H : AH} {nx : Nat} {k k' : (Nat → AV) → AH → Nat → Prop} (hk : ∀ ρ H nx, k ρ H nx → k' ρ H nx) (h : ExF P fx o ρ H nx k) : ExF P fx o ρ H nx k' := by
  unfold ExF at *
  cases hg : o.guard with
  | none => rw [hg] at h; exact bodyK_mono (fun v H nx h => hk _ _ _ h) h
  | some p =>
    obtain ⟨t, want⟩ := p
    rw [hg] at h
    simp only at h ⊢
    cases hv : grd want (ρ t) with
    | some b => rw [hv] at h; exact ⟨fun e => bodyK_mono (fun v H nx h => hk _ _ _ h) (h.1 e), fun e => hk _ _ _ (h.2 e)⟩
    | none => rw [hv] at h; exact h

theorem memN_iff : ∀ (l : List Nat) (i : Nat), memN l i = true ↔ i ∈ l
  | [], i => by simp [memN]
  | j :: t, i => by
    simp only [memN]
    cases h : Nat.beq j i with
    | true => simp [beq_true h]
    | false =>
      have : ¬ j = i := fun e => by rw [e, beq_refl'] at h; cases h
      simp [memN_iff t i, Ne.symm this, eq_comm]

theorem memN_false {l : List Nat} {i : Nat} (h : memN l i = false) : i ∉ l := fun hm => by rw [(memN_iff l i).2 hm] at h; cases h

/-! ### What an operation looks at -/

theorem ev_congr {ρ ρ' : Nat → AV} {x : AOpd} (h : ∀ t ∈ x.tmps, ρ t = ρ' t) : ev ρ x = ev ρ' x := by
  cases x with
  | t n => exact h n (by simp [AOpd.tmps])
  | c v => rfl

theorem evs_congr {ρ ρ' : Nat → AV} : ∀ {xs : List AOpd}, (∀ t ∈ xs.flatMap (·.tmps), ρ t = ρ' t) → evs ρ xs = evs ρ' xs
  | [], _ => rfl
  | x :: xs, h => by
    simp only [evs]
    rw [ev_congr (fun t ht => h t (by simp [ht])), evs_congr (fun t ht => h t (by
      simp only [List.flatMap_cons, List.mem_append]
      exact .inr ht))]

theorem evParts_congr {ρ ρ' : Nat → AV} : ∀ {xs : List (Nat × Nat × AOpd)}, (∀ t ∈ xs.flatMap (·.2.2.tmps), ρ t = ρ' t) → evParts ρ xs = evParts ρ' xs
  | [], _ => rfl
  | (a, b, x) :: xs, h => by
    simp only [evParts]
    rw [ev_congr (fun t ht => h t (by simp [ht])), evParts_congr (fun t ht => h t (by
      simp only [List.flatMap_cons, List.mem_append]
      exact .inr ht))]

theorem evEls_congr {ρ ρ' : Nat → AV} : ∀ {xs : List (Nat × AOpd)}, (∀ t ∈ xs.flatMap (·.2.tmps), ρ t = ρ' t) → evEls ρ xs = evEls ρ' xs
  | [], _ => rfl
  | (a, x) :: xs, h => by
    simp only [evEls]
    rw [ev_congr (fun t ht => h t (by simp [ht])), evEls_congr (fun t ht => h t (by
      simp only [List.flatMap_cons, List.mem_append]
      exact .inr ht))]

theorem aop_congr {ρ ρ' : Nat → AV} {H : AH} {nx : Nat} {o : AOp} (h : ∀ t ∈ o.tmps, ρ t = ρ' t) : aop o ρ H nx = aop o ρ' H nx := by
  cases o with
  | slice sz x lo hi =>
    simp only [aop]
    rw [ev_congr (x := x) (fun t ht => h t (by simp [AOp.tmps, ht]))]
    have h1 : evO ρ lo = evO ρ' lo := by
      cases lo with
      | none => rfl
      | some y => simp only [evO]; rw [ev_congr (x := y) (fun t ht => h t (by simp [AOp.tmps, ht]))]
    have h2 : evO ρ hi = evO ρ' hi := by
      cases hi with
      | none => rfl
      | some y => simp only [evO]; rw [ev_congr (x := y) (fun t ht => h t (by simp [AOp.tmps, ht]))]
    rw [h1, h2]
  | build z ps => simp only [aop]; rw [evParts_congr (fun t ht => h t ht)]
  | buildSl sz len z ps => simp only [aop]; rw [evEls_congr (fun t ht => h t ht)]
  | rbuildSl sz len z ps => simp only [aop]; rw [evEls_congr (fun t ht => h t ht)]
  | mkfn f cs => simp only [aop]; rw [evs_congr (fun t ht => h t ht)]
  | pick c x y =>
    simp only [aop]
    rw [ev_congr (x := c) (fun t ht => h t (by simp [AOp.tmps, ht])), ev_congr (x := x) (fun t ht => h t (by simp [AOp.tmps, ht])), ev_congr (x := y) (fun t ht => h t (by simp [AOp.tmps, ht]))]
  | store n x y => simp only [aop]; rw [ev_congr (x := x) (fun t ht => h t (by simp [AOp.tmps, ht])), ev_congr (x := y) (fun t ht => h t (by simp [AOp.tmps, ht]))]
  | idx n x y => simp only [aop]; rw [ev_congr (x := x) (fun t ht => h t (by simp [AOp.tmps, ht])), ev_congr (x := y) (fun t ht => h t (by simp [AOp.tmps, ht]))]
  | bin op x y => simp only [aop]; rw [ev_congr (x := x) (fun t ht => h t (by simp [AOp.tmps, ht])), ev_congr (x := y) (fun t ht => h t (by simp [AOp.tmps, ht]))]
  | eqb n x y => simp only [aop]; rw [ev_congr (x := x) (fun t ht => h t (by simp [AOp.tmps, ht])), ev_congr (x := y) (fun t ht => h t (by simp [AOp.tmps, ht]))]
  | mksl a b z x y => simp only [aop]; rw [ev_congr (x := x) (fun t ht => h t (by simp [AOp.tmps, ht])), ev_congr (x := y) (fun t ht => h t (by simp [AOp.tmps, ht]))]
  | append a b x y => simp only [aop]; rw [ev_congr (x := x) (fun t ht => h t (by simp [AOp.tmps, ht])), ev_congr (x := y) (fun t ht => h t (by simp [AOp.tmps, ht]))]
  | mov x => simp only [aop]; rw [ev_congr (x := x) (fun t ht => h t ht)]
  | load a n x => simp only [aop]; rw [ev_congr (x := x) (fun t ht => h t ht)]
  | fldaddr a n x => simp only [aop]; rw [ev_congr (x := x) (fun t ht => h t ht)]
  | fld a n b x => simp only [aop]; rw [ev_congr (x := x) (fun t ht => h t ht)]
  | len x => simp only [aop]; rw [ev_congr (x := x) (fun t ht => h t ht)]
  | slen x => simp only [aop]; rw [ev_congr (x := x) (fun t ht => h t ht)]
  | un op x => simp only [aop]; rw [ev_congr (x := x) (fun t ht => h t ht)]
  | conv k x => simp only [aop]; rw [ev_congr (x := x) (fun t ht => h t ht)]
  | box x => simp only [aop]; rw [ev_congr (x := x) (fun t ht => h t ht)]
  | rbox x => simp only [aop]; rw [ev_congr (x := x) (fun t ht => h t ht)]
  | cut x => simp only [aop]; rw [ev_congr (x := x) (fun t ht => h t ht)]
  | clear a z x => simp only [aop]; rw [ev_congr (x := x) (fun t ht => h t ht)]
  | ext i x => simp only [aop]; rw [ev_congr (x := x) (fun t ht => h t ht)]
  | xop x xs => simp only [aop]; rw [evs_congr (fun t ht => h t ht)]
  | _ => rfl

theorem bodyK_congr {fx : Bool} {ρ ρ' : Nat → AV} {H : AH} {nx : Nat} {o : AOp} {k : AV → AH → Nat → Prop} (h : ∀ t ∈ o.tmps, ρ t = ρ' t) : bodyK P fx o ρ H nx k = bodyK P fx o ρ' H nx k := by
  cases o with
  | call f xs => simp only [bodyK]; rw [evs_congr (fun t ht => h t ht)]
  | callq f xs => simp only [bodyK]; rw [evs_congr (fun t ht => h t ht)]
  | isnil n p x => simp only [bodyK]; rw [ev_congr (x := x) (fun t ht => h t ht)]
  | mnext x => simp only [bodyK]; rw [ev_congr (x := x) (fun t ht => h t ht)]
  | callv x xs =>
    simp only [bodyK]
    rw [ev_congr (x := x) (fun t ht => h t (by simp [AOp.tmps, ht])), evs_congr (xs := xs) (fun t ht => h t (by
      simp only [AOp.tmps, List.mem_append]
      exact .inr ht))]
  | _ => simp only [bodyK]; rw [aop_congr h]

theorem xopR_pure {x : XOp} {l : List AV} {H : AH} {nx : Nat} (h : x.pure = true) : (xopR x l H nx).H = H ∧ (xopR x l H nx).nx = nx := by
  cases x <;> first | (cases h; done) | skip
  all_goals
    unfold xopR
    split <;> (try unfold mkmapR) <;> simp only [markR, nilckR, seqR, sidxR, b2sR, s2bR, sappR, minR, eqsR, sl3R, mlookR, msetR, mlenR, mdelR, mrangeR, aidxR, aaddrR, capnR, apzR, bad]
  all_goals (repeat' split) <;> first | exact ⟨rfl, rfl⟩ | exact ⟨trivial, trivial⟩ | (exfalso; simp_all; done)

theorem xopR_blind {x : XOp} {l : List AV} {H H' : AH} {nx nx' : Nat} (h : x.pure = true) (hr : x.reads = false) : (xopR x l H nx).v = (xopR x l H' nx').v ∧ ((xopR x l H nx).side → (xopR x l H' nx').side) := by
  cases x <;> first | (cases h; done) | (cases hr; done) | skip
  all_goals rcases l with _ | ⟨a, _ | ⟨b, _ | ⟨c, l⟩⟩⟩ <;> first | exact ⟨rfl, id⟩ | skip
  all_goals simp only [xopR, nilckR, seqR, sidxR, minR, eqsR, aidxR, aaddrR, capnR, bad]
  all_goals (repeat' split) <;> first | exact ⟨rfl, id⟩ | exact ⟨trivial, id⟩

/-- A pure operation leaves the rows. -/
theorem aop_pure {ρ : Nat → AV} {H : AH} {nx : Nat} {o : AOp} (h : o.pure = true) : (aop o ρ H nx).H = H ∧ (aop o ρ H nx).nx = nx := by
  cases o <;> first | (cases h; done) | exact xopR_pure h | skip
  all_goals simp only [aop, mknilR, pickR, loadR, storeR, idxR, fldaddrR, fldR, lenR, slenR, binI, eqB, unR, convI, buildR, buildSlR, boxR, rboxR, rbuildSlR, allocR, mkslR, sliceR, cutR, appendR, clearR, extR, bad]
  all_goals (repeat' split) <;> first | exact ⟨rfl, rfl⟩ | exact ⟨trivial, trivial⟩

/-- A pure operation that does not look at the rows yields the same over any rows. -/
theorem aop_blind {ρ : Nat → AV} {H H' : AH} {nx nx' : Nat} {o : AOp} (h : o.pure = true) (hr : o.reads = false) : (aop o ρ H nx).v = (aop o ρ H' nx').v ∧ ((aop o ρ H nx).side → (aop o ρ H' nx').side) := by
  cases o <;> first | (cases h; done) | (cases hr; done) | exact xopR_blind h hr | skip
  all_goals simp only [aop, mknilR, pickR, loadR, storeR, idxR, fldaddrR, fldR, lenR, slenR, binI, eqB, unR, convI, buildR, buildSlR, boxR, rboxR, rbuildSlR, allocR, mkslR, sliceR, cutR, appendR, clearR, extR, bad]
  all_goals (repeat' split) <;> first | exact ⟨rfl, id⟩ | exact ⟨trivial, id⟩

/-- Operation o yields v over these slots and rows, and leaves the rows. -/
def Yld (P : Program) (o : AOper) (ρ : Nat → AV) (H : AH) (nx : Nat) (v : AV) : Prop :=
  let body : Prop := (o.op.pure = true ∧ (aop o.op ρ H nx).side ∧ v = (aop o.op ρ H nx).v) ∨ ∃ f xs, o.op = .callq f xs ∧ CallFix P f (evs ρ xs) H nx v
  match o.guard with
  | none => body
  | some (t, want) => ∃ b, grd want (ρ t) = some b ∧ ((b = true ∧ body) ∨ (b = false ∧ v = .tup []))

theorem yld_of_ex {o : AOper} {ρ : Nat → AV} {H : AH} {nx : Nat} {k : (Nat → AV) → AH → Nat → Prop} (hf : o.fixed = true) (h : ExF P false o ρ H nx k) : ∃ v, Yld P o ρ H nx v ∧ k (upd ρ o.dst v) H nx := by
  have key : ∀ k : AV → AH → Nat → Prop, bodyK P false o.op ρ H nx k → ∃ v, ((o.op.pure = true ∧ (aop o.op ρ H nx).side ∧ v = (aop o.op ρ H nx).v) ∨ ∃ f xs, o.op = .callq f xs ∧ CallFix P f (evs ρ xs) H nx v) ∧ k v H nx := by
    intro k hb
    unfold AOper.fixed at hf
    cases hp : o.op.pure with
    | true =>
      obtain ⟨h1, h2⟩ := aop_pure (ρ := ρ) (H := H) (nx := nx) hp
      have hu : useRes false (aop o.op ρ H nx) k := by
        unfold bodyK at hb
        cases ho : o.op <;> rw [ho] at hb hp <;> first | (cases hp; done) | exact hb
      refine ⟨_, .inl ⟨hp ▸ rfl, hu.1, rfl⟩, ?_⟩
      have := hu.2 trivial
      rwa [h1, h2] at this
    | false =>
      rw [hp] at hf
      simp only [Bool.false_or] at hf
      split at hf
      · rename_i f xs ho
        unfold bodyK at hb
        rw [ho] at hb
        obtain ⟨v, h1, h2⟩ := hb
        exact ⟨v, .inr ⟨f, xs, ho, h1⟩, h2⟩
      · cases hf
  unfold ExF at h
  unfold Yld
  cases hg : o.guard with
  | none =>
    rw [hg] at h
    obtain ⟨v, h1, h2⟩ := key _ h
    exact ⟨v, h1, h2⟩
  | some p =>
    obtain ⟨t, want⟩ := p
    rw [hg] at h
    simp only at h ⊢
    cases hv : grd want (ρ t) with
    | some b =>
      rw [hv] at h
      simp only at h
      cases b with
      | true =>
        obtain ⟨v, h1, h2⟩ := key _ (h.1 rfl)
        exact ⟨v, ⟨true, rfl, .inl ⟨rfl, h1⟩⟩, h2⟩
      | false => exact ⟨.tup [], ⟨false, rfl, .inr ⟨rfl, rfl⟩⟩, h.2 rfl⟩
    | none => rw [hv] at h; exact h.elim

theorem ex_of_yld {o : AOper} {ρ : Nat → AV} {H : AH} {nx : Nat} {v : AV} {k : (Nat → AV) → AH → Nat → Prop} (hy : Yld P o ρ H nx v) (hk : k (upd ρ o.dst v) H nx) : ExF P false o ρ H nx k := by
  have key : ((o.op.pure = true ∧ (aop o.op ρ H nx).side ∧ v = (aop o.op ρ H nx).v) ∨ ∃ f xs, o.op = .callq f xs ∧ CallFix P f (evs ρ xs) H nx v) → bodyK P false o.op ρ H nx (fun v H' nx' => k (upd ρ o.dst v) H' nx') := by
    rintro (⟨hp, hs, rfl⟩ | ⟨f, xs, ho, hc⟩)
    · obtain ⟨h1, h2⟩ := aop_pure (ρ := ρ) (H := H) (nx := nx) hp
      have hu : useRes false (aop o.op ρ H nx) (fun v H' nx' => k (upd ρ o.dst v) H' nx') := ⟨hs, fun _ => by
        rw [h1, h2]
        exact hk⟩
      unfold bodyK
      cases ho : o.op <;> rw [ho] at hu hp <;> first | (cases hp; done) | exact hu
    · unfold bodyK
      rw [ho]
      exact ⟨v, hc, hk⟩
  unfold Yld at hy
  unfold ExF
  cases hg : o.guard with
  | none => rw [hg] at hy; exact key hy
  | some p =>
    obtain ⟨t, want⟩ := p
    rw [hg] at hy
    obtain ⟨b, hb, hc⟩ := hy
    simp only
    rw [hb]
    rcases hc with ⟨rfl, h⟩ | ⟨rfl, rfl⟩
    · exact ⟨fun _ => key h, fun e => (by cases e)⟩
    · exact ⟨fun e => (by cases e), fun _ => hk⟩

theorem upd_comm {ρ : Nat → AV} {d d' : Option Nat} {v u : AV} (h : ∀ x, d = some x → d' ≠ some x) : upd (upd ρ d v) d' u = upd (upd ρ d' u) d v := by
  cases d with
  | none => cases d' <;> rfl
  | some x =>
    cases d' with
    | none => rfl
    | some y =>
      have hne : y ≠ x := fun e => h x rfl (by rw [e])
      funext i
      simp only [upd]
      by_cases h1 : i = y
      · subst h1; simp [hne]
      · simp [h1]

theorem upd_other {ρ : Nat → AV} {d : Option Nat} {v : AV} {t : Nat} (h : d ≠ some t) : upd ρ d v t = ρ t := by
  cases d with
  | none => rfl
  | some x =>
    have : t ≠ x := fun e => h (by rw [e])
    simp [upd, this]

theorem apart_spec {x y : AOper} (h : x.apart y = true) :
    (∀ d, x.dst = some d → d ∉ y.looks) ∧ (∀ d, x.dst = some d → y.dst ≠ some d) ∧ (∀ d, y.dst = some d → d ∉ x.looks) ∧ (y.fixed = true ∨ x.sees = false) := by
  unfold AOper.apart at h
  simp only [Bool.and_eq_true, Bool.or_eq_true, Bool.not_eq_true'] at h
  obtain ⟨⟨h1, h2⟩, h3⟩ := h
  refine ⟨fun d hd => ?_, fun d hd hy => ?_, fun d hd => ?_, h3⟩
  · rw [hd] at h1
    simp only [Bool.and_eq_true, Bool.not_eq_true'] at h1
    exact memN_false h1.1
  · rw [hd] at h1
    simp only [Bool.and_eq_true, Bool.not_eq_true'] at h1
    rw [hy] at h1
    simp [beq_refl'] at h1
  · rw [hd] at h2
    simp only [Bool.not_eq_true'] at h2
    exact memN_false h2

theorem looks_op {o : AOper} {t : Nat} (h : t ∈ o.op.tmps) : t ∈ o.looks := by unfold AOper.looks; exact List.mem_append.2 (.inr h)
theorem looks_guard {o : AOper} {t : Nat} {want : Bool} (h : o.guard = some (t, want)) : t ∈ o.looks := by unfold AOper.looks; rw [h]; simp

/-- What an operation yields does not hang on slots that it does not look at. -/
theorem yld_slots {o : AOper} {ρ ρ' : Nat → AV} {H : AH} {nx : Nat} {v : AV} (hρ : ∀ t ∈ o.looks, ρ t = ρ' t) (h : Yld P o ρ H nx v) : Yld P o ρ' H nx v := by
  have e1 : aop o.op ρ H nx = aop o.op ρ' H nx := aop_congr fun t ht => hρ t (looks_op ht)
  have e2 : ∀ f xs, o.op = .callq f xs → evs ρ xs = evs ρ' xs := fun f xs ho => evs_congr fun t ht => hρ t (looks_op (by rw [ho]; exact ht))
  have key : ((o.op.pure = true ∧ (aop o.op ρ H nx).side ∧ v = (aop o.op ρ H nx).v) ∨ ∃ f xs, o.op = .callq f xs ∧ CallFix P f (evs ρ xs) H nx v) →
      ((o.op.pure = true ∧ (aop o.op ρ' H nx).side ∧ v = (aop o.op ρ' H nx).v) ∨ ∃ f xs, o.op = .callq f xs ∧ CallFix P f (evs ρ' xs) H nx v) := by
    rintro (h | ⟨f, xs, ho, hc⟩)
    · rw [← e1]; exact .inl h
    · exact .inr ⟨f, xs, ho, by rw [← e2 f xs ho]; exact hc⟩
  unfold Yld at *
  cases hg : o.guard with
  | none => rw [hg] at h; exact key h
  | some p =>
    obtain ⟨t, want⟩ := p
    rw [hg] at h
    obtain ⟨b, hb, hc⟩ := h
    exact ⟨b, by rw [← hρ t (looks_guard hg)]; exact hb, hc.imp (fun ⟨h1, h2⟩ => ⟨h1, key h2⟩) id⟩

/-- .. nor on the rows, where it does not look at them. -/
theorem yld_rows {o : AOper} {ρ : Nat → AV} {H H' : AH} {nx nx' : Nat} {v : AV} (hs : o.sees = false) (h : Yld P o ρ H nx v) : Yld P o ρ H' nx' v := by
  unfold AOper.sees at hs
  simp only [Bool.or_eq_false_iff] at hs
  have key : ((o.op.pure = true ∧ (aop o.op ρ H nx).side ∧ v = (aop o.op ρ H nx).v) ∨ ∃ f xs, o.op = .callq f xs ∧ CallFix P f (evs ρ xs) H nx v) →
      ((o.op.pure = true ∧ (aop o.op ρ H' nx').side ∧ v = (aop o.op ρ H' nx').v) ∨ ∃ f xs, o.op = .callq f xs ∧ CallFix P f (evs ρ xs) H' nx' v) := by
    rintro (⟨h1, h2, h3⟩ | ⟨f, xs, ho, hc⟩)
    · obtain ⟨e1, e2⟩ := aop_blind (ρ := ρ) (H := H) (H' := H') (nx := nx) (nx' := nx') h1 hs.1
      exact .inl ⟨h1, e2 h2, by rw [← e1]; exact h3⟩
    · have := hs.2
      rw [ho] at this
      cases this
  unfold Yld at *
  cases hg : o.guard with
  | none => rw [hg] at h; exact key h
  | some p =>
    obtain ⟨t, want⟩ := p
    rw [hg] at h
    obtain ⟨b, hb, hc⟩ := h
    exact ⟨b, hb, hc.imp (fun ⟨h1, h2⟩ => ⟨h1, key h2⟩) id⟩

/-- TWO OPERATIONS EXCHANGED: x of one result, y any. -/
theorem ex_swap {x y : AOper} {ρ : Nat → AV} {H : AH} {nx : Nat} {v : AV} {k : (Nat → AV) → AH → Nat → Prop} (hap : x.apart y = true) (hy : Yld P x ρ H nx v) (h : ExF P false y (upd ρ x.dst v) H nx k) :
    ExF P false y ρ H nx (fun ρ' H' nx' => Yld P x ρ' H' nx' v ∧ k (upd ρ' x.dst v) H' nx') := by
  obtain ⟨h1, h2, h3, h4⟩ := apart_spec hap
  have slots : ∀ t ∈ y.looks, upd ρ x.dst v t = ρ t := fun t ht => upd_other fun e => h1 t e ht
  have xs : ∀ u, ∀ t ∈ x.looks, ρ t = upd ρ y.dst u t := fun u t ht => (upd_other fun e => h3 t e ht).symm
  have stay : ∀ (u : AV) (H' : AH) (nx' : Nat), (x.sees = false ∨ (H' = H ∧ nx' = nx)) → Yld P x (upd ρ y.dst u) H' nx' v := by
    intro u H' nx' hh
    rcases hh with hh | ⟨rfl, rfl⟩
    · exact yld_rows hh (yld_slots (xs u) hy)
    · exact yld_slots (xs u) hy
  have comm : ∀ u, upd (upd ρ x.dst v) y.dst u = upd (upd ρ y.dst u) x.dst v := fun u => upd_comm h2
  rcases h4 with hfix | hblind
  · obtain ⟨u, hu, hk⟩ := yld_of_ex hfix h
    refine ex_of_yld (yld_slots slots hu) ⟨stay u H nx (.inr ⟨rfl, rfl⟩), ?_⟩
    rw [← comm]
    exact hk
  · have bodyc : bodyK P false y.op (upd ρ x.dst v) H nx (fun u H' nx' => k (upd (upd ρ x.dst v) y.dst u) H' nx') → bodyK P false y.op ρ H nx (fun u H' nx' => Yld P x (upd ρ y.dst u) H' nx' v ∧ k (upd (upd ρ y.dst u) x.dst v) H' nx') := by
      intro hb
      rw [bodyK_congr (fun t ht => slots t (looks_op ht))] at hb
      exact bodyK_mono (fun u H' nx' hh => ⟨stay u H' nx' (.inl hblind), by rw [← comm]; exact hh⟩) hb
    unfold ExF at h ⊢
    cases hg : y.guard with
    | none => rw [hg] at h; exact bodyc h
    | some p =>
      obtain ⟨t, want⟩ := p
      rw [hg] at h
      simp only at h ⊢
      rw [slots t (looks_guard hg)] at h
      cases hv : grd want (ρ t) with
      | some b =>
        rw [hv] at h
        exact ⟨fun e => bodyc (h.1 e), fun e => ⟨stay (.tup []) H nx (.inl hblind), by rw [← comm]; exact h.2 e⟩⟩
      | none => rw [hv] at h; exact h

/-! ### The listed -/

theorem getB_set {l : List Bool} {i j : Nat} (hi : i < l.length) : getB (l.set i true) j = if j = i then true else getB l j := by
  unfold getB
  by_cases h : j = i
  · subst h; simp [hi]
  · rw [if_neg h]; simp [List.getElem?_set, Ne.symm h]

theorem readyA_spec {deps : List (List Nat)} {listed : List Bool} {i : Nat} : readyA deps listed i = true ↔ getB listed i = false ∧ ∀ j ∈ deps.getD i [], getB listed j = true := by
  unfold readyA
  simp only [Bool.and_eq_true, Bool.not_eq_true', List.all_eq_true]

theorem ready_stay {deps : List (List Nat)} {listed : List Bool} {i j : Nat} (hi : i < listed.length) (h : readyA deps listed j = true) (hne : j ≠ i) : readyA deps (listed.set i true) j = true := by
  rw [readyA_spec] at *
  refine ⟨by rw [getB_set hi, if_neg hne]; exact h.1, fun k hk => ?_⟩
  rw [getB_set hi]
  split
  · rfl
  · exact h.2 k hk

theorem set_comm (l : List Bool) (i j : Nat) : (l.set i true).set j true = (l.set j true).set i true := by
  by_cases h : i = j
  · subst h; rfl
  · exact List.set_comm _ _ h

/-- **It may be taken first**: an operation that may come now, of one result, that every other one that is still to come waits for or is apart from. -/
theorem anyA_first {bs : List AOper} {deps : List (List Nat)} {Q : (Nat → AV) → AH → Nat → Prop} {i : Nat} (hi : i < bs.length) {v : AV} :
    ∀ (fuel : Nat) (listed : List Bool) (ρ : Nat → AV) (H : AH) (nx : Nat), listed.length = bs.length →
      (∀ j, j < bs.length → j ≠ i → getB listed j = false → i ∉ deps.getD j [] → (bs.getD i default).apart (bs.getD j default) = true) →
      readyA deps listed i = true → Yld P (bs.getD i default) ρ H nx v → anyA P bs deps Q fuel (listed.set i true) (upd ρ (bs.getD i default).dst v) H nx → anyA P bs deps Q (fuel + 1) listed ρ H nx := by
  intro fuel
  induction fuel with
  | zero =>
    intro listed ρ H nx hl hfree hr hy h
    refine ⟨fun h0 => (by rw [h0 i hi] at hr; cases hr), fun j hj hrj => ?_⟩
    by_cases hji : j = i
    · subst hji
      exact ex_of_yld hy h
    · have := h.1 j hj
      rw [ready_stay (by omega) hrj hji] at this
      cases this
  | succ fuel ih =>
    intro listed ρ H nx hl hfree hr hy h
    refine ⟨fun h0 => (by rw [h0 i hi] at hr; cases hr), fun j hj hrj => ?_⟩
    by_cases hji : j = i
    · subst hji
      exact ex_of_yld hy h
    · have hil : i < listed.length := by omega
      have h1 := h.2 j hj (ready_stay hil hrj hji)
      have hnot : i ∉ deps.getD j [] := fun hm => by
        have := (readyA_spec.1 hrj).2 i hm
        rw [(readyA_spec.1 hr).1] at this
        cases this
      have hap := hfree j hj hji (readyA_spec.1 hrj).1 hnot
      have h2 := ex_swap hap hy h1
      refine exF_mono (fun ρ' H' nx' ⟨hy', hk'⟩ => ?_) h2
      refine ih (listed.set j true) ρ' H' nx' (by simpa using hl) (fun k hk hki hun hno => hfree k hk hki ?_ hno) (ready_stay (by omega) hr (Ne.symm hji)) hy' ?_
      · rw [getB_set (by omega)] at hun
        split at hun
        · cases hun
        · exact hun
      · rw [set_comm]
        exact hk'

/-- How many are still to come. -/
def toCome : List Bool → Nat
  | [] => 0
  | b :: r => (bif b then 0 else 1) + toCome r

theorem toCome_set : ∀ {l : List Bool} {i : Nat}, i < l.length → getB l i = false → toCome (l.set i true) + 1 = toCome l
  | [], i, h, _ => by simp at h
  | b :: r, 0, _, hb => by
    simp [getB] at hb
    subst hb
    simp [toCome]
    omega
  | b :: r, i + 1, h, hb => by
    have := toCome_set (l := r) (i := i) (by simpa using h) (by simpa [getB] using hb)
    simp only [List.set_cons_succ, toCome]
    omega

theorem toCome_zero : ∀ {l : List Bool}, toCome l = 0 → ∀ i, i < l.length → getB l i = true
  | [], _, i, h => by simp at h
  | b :: r, h, i, hi => by
    simp only [toCome] at h
    cases b with
    | false => simp at h
    | true =>
      cases i with
      | zero => rfl
      | succ i =>
        have := toCome_zero (l := r) (by simpa using h) i (by simpa using hi)
        simpa [getB] using this

theorem alt_sound {drop : List Nat} {Q : QT} : ∀ {l : List (AOper × DTree)} {K : Kn} {H : AH} {nx : Nat}, awpT P (altOf l) drop Q K H nx → ∀ p ∈ l, ExK P false p.1 K H nx (awpT P p.2 drop Q)
  | [], _, _, _, _, p, hp => by simp at hp
  | (o, t) :: r, K, H, nx, h, p, hp => by
    rcases List.mem_cons.1 hp with rfl | hp
    · exact h.1
    · exact alt_sound (l := r) h.2 p hp

/-- The tree of choices serves every order. -/
theorem tree_any {bs : List AOper} {deps : List (List Nat)} {drop : List Nat} {Q : QT} : ∀ (fuel : Nat) (listed : List Bool) (K : Kn) (H : AH) (nx : Nat), listed.length = bs.length → toCome listed ≤ fuel →
    awpT P (mkTree bs deps fuel listed) drop Q K H nx → anyA P bs deps (fun ρ H nx => ∃ K, Kn.get K = ρ ∧ Q .normal (K.drop drop) H nx) fuel listed K.get H nx
  | 0, listed, K, H, nx, hl, hc, h => by
    refine ⟨fun i hi => ?_, K, rfl, h⟩
    have := toCome_zero (l := listed) (by omega) i (by omega)
    unfold readyA
    rw [this]
    rfl
  | fuel + 1, listed, K, H, nx, hl, hc, h => by
    simp only [mkTree] at h
    cases hr : (List.range bs.length).filter (readyA deps listed) with
    | nil =>
      rw [hr] at h
      have hnone : ∀ i, i < bs.length → readyA deps listed i = false := fun i hi => by
        cases hb : readyA deps listed i with
        | false => rfl
        | true =>
          have : i ∈ (List.range bs.length).filter (readyA deps listed) := List.mem_filter.2 ⟨List.mem_range.2 hi, hb⟩
          rw [hr] at this
          simp at this
      exact ⟨fun _ => ⟨K, rfl, h⟩, fun i hi hb => by rw [hnone i hi] at hb; cases hb⟩
    | cons i0 r0 =>
      rw [hr] at h
      have hmem : ∀ i, i ∈ i0 :: r0 → i < bs.length ∧ readyA deps listed i = true := fun i hi => by
        rw [← hr] at hi
        have := List.mem_filter.1 hi
        exact ⟨List.mem_range.1 this.1, this.2⟩
      simp only at h
      have next : ∀ i, i ∈ i0 :: r0 → ∀ (K' : Kn) (H' : AH) (nx' : Nat), awpT P (mkTree bs deps fuel (listed.set i true)) drop Q K' H' nx' →
          anyA P bs deps (fun ρ H nx => ∃ K, Kn.get K = ρ ∧ Q .normal (K.drop drop) H nx) fuel (listed.set i true) K'.get H' nx' := fun i hi K' H' nx' hh => by
        obtain ⟨h1, h2⟩ := hmem i hi
        refine tree_any fuel (listed.set i true) K' H' nx' (by simpa using hl) ?_ hh
        have := toCome_set (l := listed) (i := i) (by omega) (readyA_spec.1 h2).1
        omega
      cases hf : (i0 :: r0).find? (freeA bs deps listed) with
      | some i =>
        rw [hf] at h
        simp only [awpT] at h
        have hi := List.mem_of_find?_eq_some hf
        have hfree := List.find?_some hf
        obtain ⟨h1, h2⟩ := hmem i hi
        unfold freeA at hfree
        simp only [Bool.and_eq_true, List.all_eq_true, List.mem_range, Bool.or_eq_true] at hfree
        obtain ⟨hfix, hall⟩ := hfree
        have hex := exK_exF (k' := anyA P bs deps (fun ρ H nx => ∃ K, Kn.get K = ρ ∧ Q .normal (K.drop drop) H nx) fuel (listed.set i true)) (fun K' H' nx' hh => next i hi K' H' nx' hh) h
        obtain ⟨v, hy, hk⟩ := yld_of_ex hfix hex
        refine anyA_first h1 fuel listed K.get H nx hl (fun j hj hji hun hno => ?_) h2 hy hk
        rcases hall j hj with ((hx | hx) | hx) | hx
        · exact absurd (beq_true hx).symm hji
        · rw [hun] at hx; cases hx
        · exact absurd ((memN_iff _ _).1 hx) hno
        · exact hx
      | none =>
        rw [hf] at h
        simp only at h
        have halt := alt_sound h
        refine ⟨fun h0 => ?_, fun i hi hb => ?_⟩
        · have := h0 i0 (hmem i0 (by simp)).1
          rw [(hmem i0 (by simp)).2] at this
          cases this
        · have him : i ∈ i0 :: r0 := by rw [← hr]; exact List.mem_filter.2 ⟨List.mem_range.2 hi, hb⟩
          have := halt (bs.getD i default, mkTree bs deps fuel (listed.set i true)) (List.mem_map.2 ⟨i, him, rfl⟩)
          exact exK_exF (fun K' H' nx' hh => next i him K' H' nx' hh) this

/-! ### In the world -/

theorem depsOf_spec {ops : Array Oper} {j : Nat} {o : Oper} (h : ops[j]? = some o) : (ops.toList.map depsOf).getD j [] = depsOf o := by
  simp [List.getD, List.getElem?_map, h]

theorem mem_depsOf {o : Oper} {i : Nat} : i ∈ depsOf o ↔ ∃ e ∈ o.after, Region.binds .any e = true ∧ e.on = i := by
  unfold depsOf
  simp only [List.mem_map, List.mem_filter, Array.mem_toList_iff]
  constructor
  · rintro ⟨e, ⟨h1, h2⟩, h3⟩; exact ⟨e, h1, h2, h3⟩
  · rintro ⟨e, h1, h2, h3⟩; exact ⟨e, ⟨h1, h2⟩, h3⟩

/-- The list and the array of what has come. -/
def Same (l : List Bool) (a : Array Bool) : Prop := a.toList = l

theorem ready_iff {ops : Array Oper} {listed : List Bool} {j : Nat} (hl : listed.length = ops.size) : j ∈ Region.ready .any ops listed.toArray ↔ j < ops.size ∧ readyA (ops.toList.map depsOf) listed j = true := by
  rw [mem_ready]
  have e1 : ∀ (i : Nat), listed.toArray.getD i false = getB listed i := fun i => by simp [getB, List.getD]
  constructor
  · rintro ⟨h1, o, h2, h3⟩
    have hj : j < ops.size := (Array.getElem?_eq_some_iff.1 h2).1
    refine ⟨hj, readyA_spec.2 ⟨?_, fun i hi => ?_⟩⟩
    · have hjl : j < listed.length := by omega
      simp [Array.getD_eq_getD_getElem?, hjl] at h1
      simp [getB, hjl, h1]
    · rw [depsOf_spec h2] at hi
      obtain ⟨e, he, hb, rfl⟩ := mem_depsOf.1 hi
      rw [← e1]
      exact h3 e he hb
  · rintro ⟨hj, h⟩
    obtain ⟨h1, h2⟩ := readyA_spec.1 h
    have ho : ops[j]? = some ops[j] := Array.getElem?_eq_getElem hj
    refine ⟨?_, ops[j], ho, fun e he hb => ?_⟩
    · have hjl : j < listed.length := by omega
      simp [getB, hjl] at h1
      simp [Array.getD_eq_getD_getElem?, hjl, h1]
    · rw [e1]
      refine h2 _ ?_
      rw [depsOf_spec ho]
      exact mem_depsOf.2 ⟨e, he, hb, rfl⟩

theorem any_world {L : Nat → Prop} {nt : Nat} {w0 : World} {ι0 : Inj} {H0 : AH} {B : Nat} {ops : Array Oper} {bs : List AOper} {Q : (Nat → AV) → AH → Nat → Prop} {Qc : Exit → Act → World → Prop} (hlen : bs.length = ops.size)
    (hrel : ∀ (i : Nat) (o : Oper) (ao : AOper), ops.toList[i]? = some o → bs[i]? = some ao → OpRel P nt ops o ao)
    (hQ : ∀ w ι ρ H nx a, In nt w0 L ι0 H0 B w ι ρ H nx a → Q ρ H nx → Qc .normal a w) :
    ∀ (fuel : Nat) (listed : List Bool) (w : World) (ι : Inj) (ρ : Nat → AV) (H : AH) (nx : Nat) (a : Act), listed.length = bs.length → In nt w0 L ι0 H0 B w ι ρ H nx a → anyA P bs (ops.toList.map depsOf) Q fuel listed ρ H nx →
      wpAny P .any ops Qc fuel listed.toArray a w
  | 0, listed, w, ι, ρ, H, nx, a, hl, hin, h => by
    refine ⟨?_, hQ _ _ _ _ _ _ hin h.2⟩
    rw [List.eq_nil_iff_forall_not_mem]
    intro j hj
    obtain ⟨h1, h2⟩ := (ready_iff (by omega)).1 hj
    rw [h.1 j (by omega)] at h2
    cases h2
  | fuel + 1, listed, w, ι, ρ, H, nx, a, hl, hin, h => by
    refine ⟨fun h0 => hQ _ _ _ _ _ _ hin (h.1 fun i hi => ?_), fun i hi => ?_⟩
    · cases hb : readyA (ops.toList.map depsOf) listed i with
      | false => rfl
      | true =>
        have : i ∈ Region.ready .any ops listed.toArray := (ready_iff (by omega)).2 ⟨by omega, hb⟩
        rw [h0] at this
        simp at this
    · obtain ⟨h1, h2⟩ := (ready_iff (by omega)).1 hi
      have ho : ops[i]? = some ops[i] := Array.getElem?_eq_getElem h1
      have hb : bs[i]? = some (bs.getD i default) := by simp [List.getD, List.getElem?_eq_getElem (show i < bs.length by omega)]
      have hr := hrel i ops[i] _ (by simp [ho]) hb
      have hex := h.2 i (by omega) h2
      have := exF_sound hr hin hex (Kc := wpAny P .any ops Qc fuel (listed.toArray.setIfInBounds i true)) (Qc := Qc) (fun w' ι' ρ' H' nx' a' hin' hk => by
        have := any_world hlen hrel hQ fuel (listed.set i true) w' ι' ρ' H' nx' a' (by simpa using hl) hin' hk
        simpa using this)
      unfold wpOp
      rw [ho]
      simp only
      split
      · rename_i hw; rw [if_pos hw] at this; exact .inl this
      · rename_i hw; rw [if_neg hw] at this; exact this

theorem In.drewW {L : Nat → Prop} {nt : Nat} {w0 w : World} {ι0 ι : Inj} {H0 H : AH} {B nx : Nat} {ρ : Nat → AV} {a : Act} (h : In nt w0 L ι0 H0 B w ι ρ H nx a) : In nt w0 L ι0 H0 B { w with drawn := w.drawn + 1 } ι ρ H nx a := by
  have hm : ∀ {M : Nat → Prop} {ι : Inj} {v : Value} {x : AV}, VR w M ι v x → VR { w with drawn := w.drawn + 1 } M ι v x := fun h => VR.mono (w := w) (w' := { w with drawn := w.drawn + 1 }) (fun b _ hn => ⟨rfl, hn⟩) h (fun _ _ _ _ h => h)
  have st := h.st
  refine ⟨h.size, h.defers, ⟨⟨st.ext.os, st.ext.tape, st.ext.output, st.ext.size, st.ext.block⟩, st.inj, ?_, st.lv⟩, h.le, fun i => hm (h.kn i)⟩
  exact ⟨fun r q sz els g hg => let ⟨l, h1, ok⟩ := st.rel.row r q sz els g hg; ⟨l, h1, ok.trans (fun _ => rfl) (fun v a hv => hm hv)⟩,
    st.rel.apart, st.rel.out, st.rel.idx, st.rel.dom, st.rel.gen, st.rel.Lsz⟩

theorem draw_sound : DrawSound P := by
  intro nt w0 L ι0 H0 B id ops bs drop Q hlen hrel hfol _ w ι K H nx a hin h
  have htree := tree_any ops.size (List.replicate ops.size false) K H nx (by simp [hlen]) (by
    have : ∀ n, toCome (List.replicate n false) = n := fun n => by
      induction n with
      | zero => rfl
      | succ n ih => simp [List.replicate_succ, toCome, ih]; omega
    rw [this]
    exact Nat.le_refl _) h
  refine wp_region_any hfol ?_
  have := any_world hlen hrel (Qc := QQ nt w0 L ι0 H0 B Q) (fun w ι ρ H nx a hin ⟨K, hK, hq⟩ => by
    subst hK
    exact ⟨ι, K.drop drop, H, nx, hin.drop drop, hq⟩) ops.size (List.replicate ops.size false) _ ι K.get H nx a (by simp [hlen]) hin.drewW htree
  simpa using this

end
end Go.Ab

namespace Go.Ab
open Go.RowKit

section
variable {P : Program}

/-! ### A function keeps its contract -/

theorem load_ptr {w : World} {L : Nat → Prop} {ι : Inj} {agg : Bool} {n : Nat} {pv : Value} {p : AV} {H : AH} {nx : Nat} (hp : VR w L ι pv p) (hs : (loadR agg n p H nx).side) : ∃ a, pv = .pointer (some a) := by
  cases hp <;> first | exact ⟨_, rfl⟩ | simp [loadR, bad] at hs

theorem ret_ok {w : World} {L : Nat → Prop} {ι : Inj} {H : AH} {nx : Nat} {tmps : Array Value} {K : Kn} (rel : RelH w L ι H nx) (hk : KOk w (Lt L ι H) ι tmps K.get) :
    ∀ (xs : List ResultVar) (rs : List ARet), xs.mapM (cret P) = some rs → retSide K H nx rs →
      ∃ vs, (xs.mapM (m := Sem) fun | .tmp t => pure (tmps.getD t undef) | .cell a t => do loadVar t (← asAddr (tmps.getD a undef))).run P w = .ok vs w ∧ VRs w (Lt L ι H) ι vs (retVals K H nx rs)
  | [], rs, h, _ => by simp at h; subst h; exact ⟨[], by simp, .nil⟩
  | x :: xs, rs, h, hs => by
    simp only [List.mapM_cons, Option.bind_eq_bind, Option.pure_def, Option.bind_eq_some_iff, Option.some.injEq] at h
    obtain ⟨b, hb, bs, hbs, rfl⟩ := h
    cases x with
    | tmp t =>
      simp only [cret, Option.some.injEq] at hb
      subst hb
      obtain ⟨vs, h1, h2⟩ := ret_ok rel hk xs bs hbs hs
      refine ⟨tmps.getD t undef :: vs, ?_, .cons (hk t) h2⟩
      simp only [List.mapM_cons, Sem.run_bind, Sem.run_pure, Result.andThen_ok, h1]
    | cell t ty =>
      simp only [cret] at hb
      split at hb
      · rename_i d i hu hi
        have key : ∀ (agg : Bool) (n : Nat), isRow d = agg → n = (if isRow d then i.size else 1) → b = .cell t agg n →
            ∃ vs, ((.cell t ty :: xs).mapM (m := Sem) fun | .tmp t => pure (tmps.getD t undef) | .cell a t => do loadVar t (← asAddr (tmps.getD a undef))).run P w = .ok vs w ∧ VRs w (Lt L ι H) ι vs (retVals K H nx (b :: bs)) := by
          rintro agg n rfl hn rfl
          obtain ⟨hs1, hs2⟩ := hs
          obtain ⟨v, h1, h2, _⟩ := loadR_ok hu hi rel (hk t) hn hs1
          obtain ⟨vs, h3, h4⟩ := ret_ok rel hk xs bs hbs hs2
          refine ⟨v :: vs, ?_, .cons h2 h4⟩
          obtain ⟨a, ha⟩ := load_ptr (hk t) hs1
          rw [ha] at h1
          simp only [Instr.loadAt, Instr.sureAddr, Sem.run_bind, Sem.run_pure, Result.andThen_ok] at h1
          have h5 : (do loadVar ty (← asAddr (tmps.getD t undef)) : Sem Value).run P w = .ok v w := by
            simp only [ha, asAddr, Sem.run_bind, Sem.run_pure, Result.andThen_ok, h1]
          rw [List.mapM_cons, Sem.run_bind, h5, Result.andThen_ok, Sem.run_bind, h3]
          rfl
        split at hb
        · rename_i hd; cases hb; exact key true i.size hd (by rw [if_pos hd]) rfl
        · rename_i hd; cases hb; exact key false 1 (by simpa using hd) (by rw [if_neg hd]) rfl
      · cases hb

theorem VRs.tup {w : World} {M : Nat → Prop} {ι : Inj} {vs : List Value} {asv : List AV} (h : VRs w M ι vs asv) : VR w M ι (.tuple vs.toArray) (.tup asv) :=
  .tup _ _ _ (by simpa using h.length) (fun i v a h1 h2 => h.get i v a (by simpa using h1) h2)

theorem results_ok {w : World} {M : Nat → Prop} {ι : Inj} {fn : Func} {tmps : Array Value} {vs : List Value} {asv : List AV}
    (h : (fn.results.toList.mapM (m := Sem) fun | .tmp t => pure (tmps.getD t undef) | .cell a t => do loadVar t (← asAddr (tmps.getD a undef))).run P w = .ok vs w) (hv : VRs w M ι vs asv) :
    ∃ v, (results fn tmps).run P w = .ok v w ∧ VR w M ι v (retOf asv) := by
  have key : (results fn tmps).run P w = .ok (if h : vs.toArray.size = 1 then vs.toArray[0] else .tuple vs.toArray) w := by
    unfold results
    rw [Array.mapM_eq_mapM_toList]
    rw [Sem.run_bind, Sem.run_map]
    exact congrArg (fun (r : Result (List Value)) => (r.andThen fun a w' => Result.ok a.toArray w').andThen fun a w' => (pure (if h : a.size = 1 then a[0] else Value.tuple a) : Sem Value).run P w') h
  rw [key]
  refine ⟨_, rfl, ?_⟩
  cases hv with
  | nil => exact VRs.nil.tup
  | cons h1 h2 =>
    cases h2 with
    | nil => exact h1
    | cons h3 h4 => exact (VRs.cons h1 (.cons h3 h4)).tup

/-- A FUNCTION keeps its contract, if its light form does. -/
theorem fn_ok {f : FuncId} {fn : Func} {c : Code} {ac : ACode} {q : Nat → List Nat} {rs : List ARet} {args : List AV} {H : AH} {nx : Nat} {Post : AV → AH → Nat → Prop}
    (hf : P.funcs[f]? = some fn) (hb : fn.body = some c) (hc : comp P fn.ntmps q c = some ac.strip) (hr : fn.results.toList.mapM (cret P) = some rs) (hn : args.length ≤ fn.ntmps)
    (h : awp P nx ac (retK rs Post) (argsK 0 args) H nx) : CallOk P f args H nx Post := by
  intro w L ι vs rel hv
  have hlen : vs.size = args.length := by simpa using hv.length
  refine calls_of_wp hf hb ?_
  have hin : In fn.ntmps w L ι H nx w ι (argsK 0 args).get H nx { tmps := vs ++ Array.replicate (fn.ntmps - vs.size) undef, defers := [] } := by
    refine ⟨by simp; omega, rfl, .refl rel, Nat.le_refl _, fun i => ?_⟩
    rw [argsK_get, if_pos (Nat.zero_le _), Nat.sub_zero]
    rcases Nat.lt_or_ge i args.length with hi | hi
    · have h1 : i < vs.size := by omega
      refine hv.get i _ _ ?_ (by simp [List.getD, List.getElem?_eq_getElem hi])
      simp [Array.getD_eq_getD_getElem?, Array.getElem?_append, h1]
    · rw [show args.getD i .undef = .undef by simp [List.getD, List.getElem?_eq_none hi]]
      exact .undef _ _
  refine wp_mono (awp_sound draw_sound rel ac c hc _ w ι _ H nx _ hin h) fun e a' w' ⟨ι', K, H', nx', hin', hq⟩ => ?_
  have fin : retSide K H' nx' rs ∧ Post (retOf (retVals K H' nx' rs)) H' nx' → a'.defers = [] ∧ ∃ v, (results fn a'.tmps).run P w' = .ok v w' ∧ ∃ v_1 ι' H' nx' a, Ending.returned v = .returned v_1 ∧ Step w L ι H nx w' ι' H' nx' ∧ nx ≤ nx' ∧ VR w' (Lt L ι' H') ι' v_1 a ∧ Post a H' nx' := by
    intro ⟨h1, h2⟩
    obtain ⟨us, h3, h4⟩ := ret_ok hin'.st.rel hin'.kn _ _ hr h1
    obtain ⟨v, h5, h6⟩ := results_ok h3 h4
    exact ⟨hin'.defers, v, h5, v, ι', H', nx', _, rfl, hin'.st, hin'.le, h6, h2⟩
  cases e with
  | normal => exact fin hq
  | ret => exact fin hq
  | exit id => exact hq.elim
  | _ => exact hq.elim

end

/-- A function of the program, as light code: what the kernel checks of it at once. -/
def compF (P : Program) (f : FuncId) (q : Nat → List Nat) : Option (ACode × List ARet × Nat) :=
  match P.funcs[f]? with
  | some fn => match fn.body with
    | some c => match comp P fn.ntmps q c, fn.results.toList.mapM (cret P) with
      | some a, some r => some (a, r, fn.ntmps)
      | _, _ => none
    | none => none
  | none => none

/-- A FUNCTION keeps its contract, if its light form does. -/
theorem fn_of {P : Program} {f : FuncId} {q : Nat → List Nat} {ac : ACode} {rs : List ARet} {nt : Nat} (hc : compF P f q = some (ac.strip, rs, nt)) {args : List AV} {H : AH} {nx : Nat} {Post : AV → AH → Nat → Prop} (hn : args.length ≤ nt)
    (h : awp P nx ac (retK rs Post) (argsK 0 args) H nx) : CallOk P f args H nx Post := by
  unfold compF at hc
  split at hc
  · rename_i fn hf
    split at hc
    · rename_i c hb
      split at hc
      · rename_i a r h1 h2
        cases hc
        exact fn_ok hf hb h1 h2 hn h
      · cases hc
    · cases hc
  · cases hc

end Go.Ab

namespace Go.Ab
open Go.RowKit

/-- Seen otherwise. σ: which row (and from which generation on) a new number stands for; D: the rows that are only read from now on. 't': may rows that are written still occur? -/
inductive Vw (H H2 : AH) (σ : Nat → Nat → Option (Nat × Nat × Nat)) (D : Nat → Nat → Prop) : Bool → AV → AV → Prop
  | undef (t a) : Vw H H2 σ D t a .undef
  | int (t k n) : Vw H H2 σ D t (.int k n) (.int k n)
  | bool (t b) : Vw H H2 σ D t (.bool b) (.bool b)
  | str (t s) : Vw H H2 σ D t (.str s) (.str s)
  | nilp (t) : Vw H H2 σ D t .nilp .nilp
  | nilfn (t) : Vw H H2 σ D t .nilfn .nilfn
  | cut (t) : Vw H H2 σ D t .cut .cut
  | nilsl (t) : Vw H H2 σ D t .nilsl .nilsl
  | iptr (t n c) : Vw H H2 σ D t (.iptr n c) (.iptr n c)
  | sl (t sz n f) : Vw H H2 σ D t (.sl sz n f) (.sl sz n f)
  | nil0 (t sz f) : Vw H H2 σ D t .nilsl (.sl sz 0 f)
  | slf (t sz n f f') (h : ∀ i j, i < n → j < sz → Vw H H2 σ D false (f i j) (f' i j)) : Vw H H2 σ D t (.sl sz n f) (.sl sz n f')
  | iptrf (t n c c') (h : ∀ j, j < n → Vw H H2 σ D false (c j) (c' j)) : Vw H H2 σ D t (.iptr n c) (.iptr n c')
  | mp (r r') (hs : σ r' 0 = some (r, 0, 0)) : Vw H H2 σ D true (.mp r) (.mp r')
  | nilmp (t) : Vw H H2 σ D t .nilmp .nilmp
  | it (r r') (hs : σ r' 0 = some (r, 0, 0)) : Vw H H2 σ D true (.it r) (.it r')
  | own (r q g d off n r' q' g') (hs : σ r' q' = some (r, q, d)) (hg : g = g' + d) : Vw H H2 σ D true (.own r q g off n) (.own r' q' g' off n)
  | ptr (r q g d i f r' q' g') (hs : σ r' q' = some (r, q, d)) (hg : g = g' + d) : Vw H H2 σ D true (.ptr r q g i f) (.ptr r' q' g' i f)
  | new (r' q' sz) (hs : σ r' q' = none) (hg : H2.get r' q' = some (.row sz [] 0)) : Vw H H2 σ D true .nilsl (.own r' q' 0 0 0)
  | frz (t r q g off n sz els f) (hD : D r q) (hg : H.get r q = some (.row sz els g)) (hb : n ≤ big) (hl : off + n ≤ els.length)
      (h : ∀ i j, i < n → j < sz → Vw H H2 σ D false ((els.getD (off + i) []).getD j .undef) (f i j)) : Vw H H2 σ D t (.own r q g off n) (.sl sz n f)
  | frzp (t r q g i o n sz els c) (hD : D r q) (hg : H.get r q = some (.row sz els g)) (hi : i < els.length) (hl : o + n ≤ sz)
      (h : ∀ j, j < n → Vw H H2 σ D false ((els.getD i []).getD (o + j) .undef) (c j)) : Vw H H2 σ D t (.ptr r q g i o) (.iptr n c)
  | fn (t f asv bs) (hl : asv.length = bs.length) (h : ∀ (i : Nat) (a b : AV), asv[i]? = some a → bs[i]? = some b → Vw H H2 σ D t a b) : Vw H H2 σ D t (.fn f asv) (.fn f bs)
  | agg (t asv bs) (hl : asv.length = bs.length) (h : ∀ (i : Nat) (a b : AV), asv[i]? = some a → bs[i]? = some b → Vw H H2 σ D t a b) : Vw H H2 σ D t (.agg asv) (.agg bs)
  | tup (t asv bs) (hl : asv.length = bs.length) (h : ∀ (i : Nat) (a b : AV), asv[i]? = some a → bs[i]? = some b → Vw H H2 σ D t a b) : Vw H H2 σ D t (.tup asv) (.tup bs)

/-- Where the rows lie, by their new numbers. -/
def viewI (H2 : AH) (σ : Nat → Nat → Option (Nat × Nat × Nat)) (ι : Inj) : Inj := fun r' q' g' =>
  match σ r' q' with
  | some (r, q, d) => ι r q (g' + d)
  | none => match H2.get r' q' with
    | some (.row sz [] 0) => bif Nat.beq g' 0 then some ⟨0, 0, 0, sz⟩ else none
    | _ => none

theorem add_add (a : Addr) (h : a.spot = none) (m n : Nat) : (a.add m).add n = ⟨a.block, a.off + m + n, none⟩ := by
  obtain ⟨b, o, s⟩ := a
  simp only at h
  subst h
  unfold Addr.add
  split <;> split <;> simp_all

theorem Vw.sound {H H2 : AH} {σ : Nat → Nat → Option (Nat × Nat × Nat)} {D : Nat → Nat → Prop} {w : World} {L M : Nat → Prop} {ι : Inj} {nx : Nat} (rel : RelH w L ι H nx)
    (hM : ∀ b, M b → Lt L ι H b) (hMD : ∀ r q sz els g l, D r q → H.get r q = some (.row sz els g) → ι r q g = some l → 0 < l.cap * l.sz → ¬ M l.block) {t : Bool} {a a' : AV} (h : Vw H H2 σ D t a a') :
    ∀ v, VR w (Lt L ι H) ι v a → VR w M (bif t then viewI H2 σ ι else noI) v a' := by
  induction h with
  | undef => intro v _; exact .undef _ _
  | int => intro v h; cases h; exact .int _ _ _ ‹_›
  | bool => intro v h; cases h; exact .bool _ _
  | str => intro v h; cases h; exact .str _ _ ‹_›
  | nilp => intro v h; cases h; exact .nilp _
  | nilfn => intro v h; cases h; exact .nilfn _
  | cut => intro v h; cases h; exact .cut _ _
  | mp r r' hs => intro v h; cases h with | mp _ _ l h hm => exact .mp _ _ l (by simp only [cond_true, viewI, hs]; exact h) hm
  | nilmp => intro v h; cases h; exact .nilmp _
  | it r r' hs => intro v h; cases h with | it _ _ l h hm => exact .it _ _ l (by simp only [cond_true, viewI, hs]; exact h) hm
  | nilsl => intro v h; cases h; exact .nilsl _
  | nil0 => intro v h; cases h; exact .sl0 _ _ _
  | iptr t n c =>
    intro v h
    cases h with
    | iptr _ a n c V hc hL hv => exact .iptr _ a n c V hc (fun hn hb => hL hn (hM _ hb)) (fun j hj => (hv j hj).anti hM)
  | sl t sz n f =>
    intro v h
    cases h with
    | sl _ a sz n cap f V hn hb hc hL hv => exact .sl _ a sz n cap f V hn hb hc (fun hn hb => hL hn (hM _ hb)) (fun i j hi hj => (hv i j hi hj).anti hM)
    | sl0 => exact .sl0 _ _ _
  | iptrf t n c c' h ih =>
    intro v h
    cases h with
    | iptr _ a n c V hc hL hv => exact .iptr _ a n c' V hc (fun hn hb => hL hn (hM _ hb)) (fun j hj => ih j hj _ ((hv j hj).mono (fun b _ hb => ⟨rfl, hb⟩) (fun _ _ _ _ h => by cases h)))
  | slf t sz n f f' h ih =>
    intro v h
    cases h with
    | sl _ a sz n cap f V hn hb hc hL hv => exact .sl _ a sz n cap f' V hn hb hc (fun hn hb => hL hn (hM _ hb)) (fun i j hi hj => ih i j hi hj _ ((hv i j hi hj).mono (fun b _ hb => ⟨rfl, hb⟩) (fun _ _ _ _ h => by cases h)))
    | sl0 => exact .sl0 _ _ _
  | own r q g d off n r' q' g' hs hg =>
    intro v h
    subst hg
    cases h with
    | own _ _ _ _ _ _ a c l h hm hn hc ha => exact .own _ _ _ _ _ _ _ _ l (by simp only [cond_true, viewI, hs]; exact h) hm hn hc ha
  | ptr r q g d i f r' q' g' hs hg =>
    intro v h
    subst hg
    cases h with
    | ptr _ _ _ _ _ _ l h hm => exact .ptr _ _ _ _ _ _ l (by simp only [cond_true, viewI, hs]; exact h) hm
  | new r' q' sz hs hg =>
    intro v h
    cases h
    refine .own _ _ _ _ _ _ _ _ ⟨0, 0, 0, sz⟩ (by simp [viewI, hs, hg]) (Nat.zero_le _) (Nat.le_refl _) (Nat.le_refl _) (fun h => by omega)
  | frz t r q g off n sz els f hD hg hb hl h ih =>
    intro v h
    cases h with
    | own _ _ _ _ _ _ a c l h hm hn hc ha =>
      obtain ⟨l', h1, ok⟩ := rel.row _ _ _ _ _ hg
      rw [h] at h1
      cases h1
      have hsz := ok.hsz
      cases a with
      | none =>
        have : c = 0 := by
          rcases Nat.eq_zero_or_pos c with h0 | h0
          · exact h0
          · have := ha h0; cases this
        subst this
        obtain rfl : n = 0 := by omega
        exact .sl0 _ _ _
      | some a =>
        have cell : ∀ i j, i < n → j < sz → ∃ v, w.cell? ((a.add (i * sz)).add j) = some v ∧ v.oneCell' = true ∧ VR w M noI v (f i j) := by
          intro i j hi hj
          have h0 : off + i < els.length := by omega
          have hw := ok.wide (off + i) _ (List.getElem?_eq_getElem h0)
          obtain ⟨v, h2, h3, h4⟩ := ok.holds hm (off + i) _ j _ (List.getElem?_eq_getElem h0) (List.getElem?_eq_getElem (by rw [hw]; exact hj))
          refine ⟨v, ?_, h3, ih i j hi hj v ?_⟩
          · have := ha (by omega)
            cases this
            rw [add_add _ rfl, ← h2, hsz]
            congr 2
            show l.off + off * sz + i * sz + j = _
            rw [Nat.add_mul]; omega
          · simpa [List.getD, List.getElem?_eq_getElem h0, List.getElem?_eq_getElem (show j < els[off + i].length by rw [hw]; exact hj)] using h4
        refine .sl _ a sz n c f (fun i j => (w.cell? ((a.add (i * sz)).add j)).getD Go.undef) hn hb (fun i j hi hj => ?_) (fun hp => ?_) (fun i j hi hj => ?_)
        · obtain ⟨v, h2, h3, _⟩ := cell i j hi hj
          rw [h2]
          exact ⟨rfl, h3⟩
        · have hn0 : 0 < n := by
            rcases Nat.eq_zero_or_pos n with h0 | h0
            · subst h0; simp at hp
            · exact h0
          have hs0 : 0 < sz := by
            rcases Nat.eq_zero_or_pos sz with h0 | h0
            · subst h0; simp at hp
            · exact h0
          have := ha (by omega)
          cases this
          exact hMD _ _ _ _ _ _ hD hg h (by rw [hsz]; exact Nat.mul_pos (by omega) hs0)
        · obtain ⟨v, h2, _, h4⟩ := cell i j hi hj
          simpa [h2] using h4
  | frzp t r q g i o n sz els c hD hg hi hl h ih =>
    intro v h
    cases h with
    | ptr _ _ _ _ _ _ l h hm =>
      obtain ⟨l', h1, ok⟩ := rel.row _ _ _ _ _ hg
      rw [h] at h1
      cases h1
      have hsz := ok.hsz
      have hw := ok.wide i _ (List.getElem?_eq_getElem hi)
      have cell : ∀ j, j < n → ∃ v, w.cell? ((⟨l.block, l.off + i * l.sz + o, none⟩ : Addr).add j) = some v ∧ v.oneCell' = true ∧ VR w M noI v (c j) := by
        intro j hj
        obtain ⟨v, h2, h3, h4⟩ := ok.holds hm i _ (o + j) _ (List.getElem?_eq_getElem hi) (List.getElem?_eq_getElem (by rw [hw]; omega))
        refine ⟨v, ?_, h3, ih j hj v ?_⟩
        · rw [← h2, hsz]
          have := add_add ⟨l.block, l.off + i * sz + o, none⟩ rfl j 0
          simp only [Addr.add, if_true] at this ⊢
          split
          · rename_i h0; subst h0; rfl
          · simp only [Nat.add_assoc]
        · simpa [List.getD, List.getElem?_eq_getElem hi, List.getElem?_eq_getElem (show o + j < els[i].length by rw [hw]; omega)] using h4
      refine .iptr _ _ n c (fun j => (w.cell? ((⟨l.block, l.off + i * l.sz + o, none⟩ : Addr).add j)).getD Go.undef) (fun j hj => ?_) (fun hp => ?_) (fun j hj => ?_)
      · obtain ⟨v, h2, h3, _⟩ := cell j hj
        rw [h2]
        exact ⟨rfl, h3⟩
      · exact hMD _ _ _ _ _ _ hD hg h (by rw [hsz]; exact Nat.mul_pos (Nat.lt_of_lt_of_le (by omega) (ok.plain hm).len) (by omega))
      · obtain ⟨v, h2, _, h4⟩ := cell j hj
        simpa [h2] using h4
  | fn t f asv bs hl h ih =>
    intro v h
    cases h with
    | fn _ _ cs _ hs hv =>
      refine .fn _ _ _ _ (hs.trans hl) (fun i v b h1 h2 => ?_)
      have hi : i < asv.length := by rw [hl]; exact (List.getElem?_eq_some_iff.1 h2).1
      exact ih i _ b (List.getElem?_eq_getElem hi) h2 v (hv i v _ h1 (List.getElem?_eq_getElem hi))
  | agg t asv bs hl h ih =>
    intro v h
    cases h with
    | agg _ cs _ hs h1 hv =>
      refine .agg _ _ _ (hs.trans hl) h1 (fun i v b h1 h2 => ?_)
      have hi : i < asv.length := by rw [hl]; exact (List.getElem?_eq_some_iff.1 h2).1
      exact ih i _ b (List.getElem?_eq_getElem hi) h2 v (hv i v _ h1 (List.getElem?_eq_getElem hi))
  | tup t asv bs hl h ih =>
    intro v h
    cases h with
    | tup _ cs _ hs hv =>
      refine .tup _ _ _ (hs.trans hl) (fun i v b h1 h2 => ?_)
      have hi : i < asv.length := by rw [hl]; exact (List.getElem?_eq_some_iff.1 h2).1
      exact ih i _ b (List.getElem?_eq_getElem hi) h2 v (hv i v _ h1 (List.getElem?_eq_getElem hi))

/-- Rows seen otherwise, cell by cell. -/
def RowV (H H2 : AH) (σ : Nat → Nat → Option (Nat × Nat × Nat)) (D : Nat → Nat → Prop) (els els2 : List (List AV)) : Prop :=
  els2.length = els.length ∧ ∀ (i : Nat) (c2 : List AV), els2[i]? = some c2 → ∃ c, els[i]? = some c ∧ c2.length = c.length ∧ ∀ (j : Nat) (a b : AV), c[j]? = some a → c2[j]? = some b → Vw H H2 σ D true a b

/-- What makes σ, D, H2 a right view of H. -/
structure View (B : Nat) (H : AH) (H2 : AH) (nx2 : Nat) (σ : Nat → Nat → Option (Nat × Nat × Nat)) (D : Nat → Nat → Prop) : Prop where
  le : B ≤ nx2
  base : ∀ r q, r < B → σ r q = some (r, q, 0)
  inj : ∀ r1 q1 r2 q2 r q d1 d2, σ r1 q1 = some (r, q, d1) → σ r2 q2 = some (r, q, d2) → r1 = r2 ∧ q1 = q2
  apart : ∀ r' q' r q d, σ r' q' = some (r, q, d) → ¬ D r q
  idx : ∀ r' q' x, σ r' q' = some x → r' < nx2
  dom : ∀ r o, H2.look r = some o → r < nx2
  row : ∀ r' q' sz els2 g2, H2.get r' q' = some (.row sz els2 g2) → (∃ r q d els, σ r' q' = some (r, q, d) ∧ H.get r q = some (.row sz els (g2 + d)) ∧ RowV H H2 σ D els els2) ∨ (σ r' q' = none ∧ els2 = [] ∧ g2 = 0)

section
variable {B : Nat} {H H2 : AH} {nx nx2 : Nat} {σ : Nat → Nat → Option (Nat × Nat × Nat)} {D : Nat → Nat → Prop} {w : World} {L : Nat → Prop} {ι : Inj}

theorem View.live (vw : View B H H2 nx2 σ D) {b : Nat} (h : live (viewI H2 σ ι) H2 b) : ∃ r' q' r q d sz els els2 g l, σ r' q' = some (r, q, d) ∧ H2.get r' q' = some (.row sz els2 g) ∧ H.get r q = some (.row sz els (g + d)) ∧ ι r q (g + d) = some l ∧ 0 < l.cap * l.sz ∧ l.block = b := by
  obtain ⟨r', q', sz, els2, g, l, h1, h2, h3, rfl⟩ := h
  rcases vw.row _ _ _ _ _ h1 with ⟨r, q, d, els, a1, a2, a3⟩ | ⟨a1, a2, a3⟩
  · simp only [viewI, a1] at h2
    exact ⟨r', q', r, q, d, sz, els, els2, g, l, a1, h1, a2, h2, h3, rfl⟩
  · subst a2 a3
    simp [viewI, a1, h1] at h2
    subst h2
    simp at h3

theorem View.lv (vw : View B H H2 nx2 σ D) {b : Nat} (h : Go.Ab.live (viewI H2 σ ι) H2 b) : Go.Ab.live ι H b := by
  obtain ⟨r', q', r, q, d, sz, els, els2, g, l, h1, h2, h3, h4, h5, h6⟩ := vw.live h
  exact ⟨r, q, sz, els, g + d, l, h3, h4, h5, h6⟩

theorem View.lt (vw : View B H H2 nx2 σ D) : ∀ b, Lt L (viewI H2 σ ι) H2 b → Lt L ι H b := by
  rintro b (h | h)
  · exact .inl h
  · exact .inr (vw.lv h)

theorem View.off (vw : View B H H2 nx2 σ D) (rel : RelH w L ι H nx) : ∀ r q sz els g l, D r q → H.get r q = some (.row sz els g) → ι r q g = some l → 0 < l.cap * l.sz → ¬ Lt L (viewI H2 σ ι) H2 l.block := by
  intro r q sz els g l hD h1 h2 h3 h4
  rcases h4 with h4 | h4
  · exact rel.out _ ⟨r, q, sz, els, g, l, h1, h2, h3, rfl⟩ h4
  · obtain ⟨r', q', r1, q1, d, sz1, els1, els2, g1, l1, a1, a2, a3, a4, a5, a6⟩ := vw.live h4
    obtain ⟨rfl, rfl⟩ := rel.apart _ _ _ _ _ _ _ _ _ _ _ _ h1 a3 h2 a4 h3 a5 a6.symm
    exact vw.apart _ _ _ _ _ a1 hD

theorem View.vr (vw : View B H H2 nx2 σ D) (rel : RelH w L ι H nx) {t : Bool} {a b : AV} (h : Vw H H2 σ D t a b) {v : Value} (hv : VR w (Lt L ι H) ι v a) : VR w (Lt L (viewI H2 σ ι) H2) (bif t then viewI H2 σ ι else noI) v b :=
  h.sound rel vw.lt (vw.off rel) v hv

theorem View.rel (vw : View B H H2 nx2 σ D) (rel : RelH w L ι H nx) : RelH w L (viewI H2 σ ι) H2 nx2 := by
  constructor
  · intro r' q' sz els2 g h
    rcases vw.row _ _ _ _ _ h with ⟨r, q, d, els, a1, a2, a3⟩ | ⟨a1, rfl, rfl⟩
    · obtain ⟨l, h1, ok⟩ := rel.row _ _ _ _ _ a2
      refine ⟨l, by simp only [viewI, a1]; exact h1, ok.view (fun _ => rfl) a3.1 (fun i c' hi => ?_)⟩
      obtain ⟨c1, hc, hl, hv⟩ := a3.2 i c' hi
      exact ⟨c1, hc, hl, fun j a a' hj hj' v h4 => vw.vr rel (hv j a a' hj hj') h4⟩
    · refine ⟨⟨0, 0, 0, sz⟩, by simp [viewI, a1, h], .mk' rfl (Nat.le_refl _) (Nat.zero_le _) (fun k hk => by simp at hk) (fun h => by simp at h) (fun i c hi => by simp at hi) (fun i c j a hi => by simp at hi)⟩
  · intro r1 q1 r2 q2 s1 e1 g1 l1 s2 e2 g2 l2 h1 h2 h3 h4 h5 h6 h7
    have key : ∀ r' q' s e g l, H2.get r' q' = some (.row s e g) → viewI H2 σ ι r' q' g = some l → 0 < l.cap * l.sz → ∃ r q d els, σ r' q' = some (r, q, d) ∧ H.get r q = some (.row s els (g + d)) ∧ ι r q (g + d) = some l := by
      intro r' q' s e g l a1 a2 a3
      rcases vw.row _ _ _ _ _ a1 with ⟨r, q, d, els, b1, b2, b3⟩ | ⟨b1, rfl, rfl⟩
      · simp only [viewI, b1] at a2
        exact ⟨r, q, d, els, b1, b2, a2⟩
      · simp [viewI, b1, a1] at a2
        subst a2
        simp at a3
    obtain ⟨x1, y1, d1, z1, a1, a2, a3⟩ := key _ _ _ _ _ _ h1 h3 h5
    obtain ⟨x2, y2, d2, z2, b1, b2, b3⟩ := key _ _ _ _ _ _ h2 h4 h6
    obtain ⟨rfl, rfl⟩ := rel.apart _ _ _ _ _ _ _ _ _ _ _ _ a2 b2 a3 b3 h5 h6 h7
    exact vw.inj _ _ _ _ _ _ _ _ a1 b1
  · intro b hb
    exact rel.out b (vw.lv hb)
  · intro r' q' g l h
    unfold viewI at h
    split at h
    · rename_i hs; exact vw.idx _ _ _ hs
    · split at h
      · rename_i hg
        unfold AH.get at hg
        cases hl : H2.look r' with
        | none => rw [hl] at hg; cases hg
        | some o => exact vw.dom _ _ hl
      · cases h
  · exact vw.dom
  · intro r' q' sz els g h g2 l h2
    rcases vw.row _ _ _ _ _ h with ⟨r, q, d, els1, a1, a2, a3⟩ | ⟨a1, rfl, rfl⟩
    · simp only [viewI, a1] at h2
      have := rel.gen _ _ _ _ _ a2 _ _ h2
      omega
    · simp only [viewI, a1, h] at h2
      cases hb : Nat.beq g2 0 with
      | true => rw [beq_true hb]; exact Nat.le_refl _
      | false => rw [hb] at h2; cases h2
  · exact rel.Lsz

/-- WHAT IS KNOWN, SEEN OTHERWISE. -/
theorem Ent.view {K K2 : Kn} (σ : Nat → Nat → Option (Nat × Nat × Nat)) (D : Nat → Nat → Prop) (vw : View B H H2 nx2 σ D) (hK : ∀ i, Vw H H2 σ D true (K.get i) (K2.get i)) : Ent B K H nx K2 H2 nx2 := by
  refine ⟨vw.le, fun w L ι tmps rel hk => ⟨viewI H2 σ ι, vw.rel rel, fun i => vw.vr rel (hK i) (hk i), fun b hb => vw.lv hb, fun r q g l hr h => ?_⟩⟩
  simp only [viewI, vw.base r q hr]
  exact h

end
end Go.Ab

namespace Go.Ab
open Go.RowKit

def nos : Nat → Nat → Option (Nat × Nat × Nat) := fun _ _ => none
def allR : Nat → Nat → Prop := fun _ _ => True
def noR : Nat → Nat → Prop := fun _ _ => False

/-- Behind a call a value of rows H is only read, as 'a'. -/
abbrev Frz (H : AH) (v a : AV) : Prop := Vw H [] nos allR false v a

/-- A function that is given what is only read, and answers with what is only read. -/
def PureFn (P : Program) (f : FuncId) (args : List AV) (Q : AV → Prop) : Prop :=
  CallOk P f args [] 0 (fun v H' _ => ∃ a, Frz H' v a ∧ Q a)

/-- What a caller hands over: as it is, or rows of D lent for reading. -/
inductive Lend (H : AH) (D : Nat → Nat → Prop) : List AV → List AV → Prop
  | nil : Lend H D [] []
  | cons {a b asv bs} (h : Vw H [] nos D false a b) (t : Lend H D asv bs) : Lend H D (a :: asv) (b :: bs)

section
variable {P : Program} {w w' : World} {L : Nat → Prop} {ι : Inj} {H : AH} {nx : Nat} {D : Nat → Nat → Prop}

theorem CallOk.mono {f : FuncId} {args : List AV} {Q Q' : AV → AH → Nat → Prop} (h : CallOk P f args H nx Q) (hq : ∀ v H nx, Q v H nx → Q' v H nx) : CallOk P f args H nx Q' := by
  intro w L ι vs h1 h2
  exact (h w L ι vs h1 h2).mono fun e w' ⟨v, ι', H', nx', a, h3, h4, h5, h6, h7⟩ => ⟨v, ι', H', nx', a, h3, h4, h5, h6, hq _ _ _ h7⟩

theorem CallFix.ok {f : FuncId} {args : List AV} {a : AV} {k : AV → AH → Nat → Prop} (h : CallFix P f args H nx a) (hk : k a H nx) : CallOk P f args H nx k := by
  intro w L ι vs h1 h2
  exact (h w L ι vs h1 h2).mono fun e w' ⟨v, h3, h4, h5⟩ => ⟨v, ι, H, nx, a, h3, h4, Nat.le_refl _, h5, hk⟩

theorem no_live (b : Nat) : ¬ live noI [] b := by
  rintro ⟨r, q, sz, els, g, l, h, _⟩
  cases h

theorem RelH.empty {M : Nat → Prop} (hM : ∀ b, M b → b < w.heap.size) : RelH w M noI [] 0 := by
  constructor
  · intro r q sz els g h; cases h
  · intro r1 q1 r2 q2 s1 e1 g1 l1 s2 e2 g2 l2 h; cases h
  · intro b hb; exact (no_live b hb).elim
  · intro r q g l h; cases h
  · intro r o h; cases h
  · intro r q sz els g h; cases h
  · exact hM

/-- Without the rows that are lent. -/
def lentOff (L : Nat → Prop) (ι : Inj) (H : AH) (D : Nat → Nat → Prop) : Nat → Prop := fun b => Lt L ι H b ∧ ¬ ∃ r q sz els g l, D r q ∧ H.get r q = some (.row sz els g) ∧ ι r q g = some l ∧ 0 < l.cap * l.sz ∧ l.block = b

theorem lentOff_lt (rel : RelH w L ι H nx) : ∀ b, lentOff L ι H D b → b < w.heap.size := by
  rintro b ⟨h | h, _⟩
  · exact rel.Lsz b h
  · exact rel.live_lt h

theorem Lend.vrs (rel : RelH w L ι H nx) {asv bs : List AV} (h : Lend H D asv bs) : ∀ {vs : List Value}, VRs w (Lt L ι H) ι vs asv → VRs w (Lt (lentOff L ι H D) noI []) noI vs bs := by
  induction h with
  | nil => intro vs h; cases h; exact .nil
  | cons h _ ih =>
    intro vs hv
    cases hv with
    | cons h1 h2 =>
      refine .cons ?_ (ih h2)
      exact (h.sound rel (M := Lt (lentOff L ι H D) noI []) (fun b hb => by rcases hb with hb | hb; exact hb.1; exact (no_live b hb).elim)
        (fun r q sz els g l a1 a2 a3 a4 a5 => by rcases a5 with hb | hb; exact hb.2 ⟨r, q, sz, els, g, l, a1, a2, a3, a4, rfl⟩; exact (no_live _ hb).elim) _ h1)

/-- Values without any memory. -/
def AV.scal0 : AV → Bool
  | .undef | .int .. | .bool _ | .str _ | .nilp | .nilfn | .nilsl | .cut => true
  | _ => false

def AV.scal : AV → Bool
  | .agg l => l.all AV.scal0
  | .tup l => l.all AV.scal0
  | a => a.scal0

theorem scal0_vr {M M' : Nat → Prop} {ι ι' : Inj} {v : Value} {a : AV} (ha : a.scal0 = true) (h : VR w M ι v a) : VR w M' ι' v a := by
  cases h <;> first | (cases ha; done) | (constructor <;> assumption)

theorem scal_vr {M M' : Nat → Prop} {ι ι' : Inj} {v : Value} {a : AV} (ha : a.scal = true) (h : VR w M ι v a) : VR w M' ι' v a := by
  cases h with
  | agg _ cs asv hs h1 hv => exact .agg _ _ _ hs h1 (fun i v a h2 h3 => scal0_vr (List.all_eq_true.1 ha a (List.mem_of_getElem? h3)) (hv i v a h2 h3))
  | tup _ cs asv hs hv => exact .tup _ _ _ hs (fun i v a h2 h3 => scal0_vr (List.all_eq_true.1 ha a (List.mem_of_getElem? h3)) (hv i v a h2 h3))
  | undef => exact .undef _ _
  | int _ _ _ h => exact .int _ _ _ h
  | bool => exact .bool _ _
  | str _ _ h => exact .str _ _ h
  | nilp => exact .nilp _
  | nilfn => exact .nilfn _
  | nilsl => exact .nilsl _
  | cut => exact .cut _ _
  | _ => cases ha

/-- A pure call, by whichever reading of its arguments; if rows were lent, the answer holds no memory. -/
theorem call_core {f : FuncId} {asv bs : List AV} {Q : AV → Prop} (h : PureFn P f bs Q) (ha : Lend H D asv bs) (hr : ∀ a, Q a → a.scal = true ∨ ∀ r q, ¬ D r q)
    {vs : Array Value} (rel : RelH w L ι H nx) (hv : VRs w (Lt L ι H) ι vs.toList asv) :
    Calls P f vs w (fun e w' => ∃ v a, e = .returned v ∧ Step w L ι H nx w' ι H nx ∧ VR w' (Lt L ι H) ι v a ∧ Q a) := by
  refine (h w (lentOff L ι H D) noI vs (.empty (lentOff_lt rel)) (ha.vrs rel hv)).mono fun e w' ⟨v, ι', H', nx', a0, h3, h4, _, h6, a, h7, h8⟩ => ?_
  have hsame : ∀ b, b < w.heap.size → w'.heap[b]? = w.heap[b]? := fun b hb => h4.ext.block b hb (no_live b)
  refine ⟨v, a, h3, ⟨⟨h4.ext.os, h4.ext.tape, h4.ext.output, h4.ext.size, fun b hb _ => hsame b hb⟩, fun _ _ _ _ h => h, rel.grow h4.ext.size hsame, fun b hb => .inl hb⟩, ?_, h8⟩
  have key : VR w' (lentOff L ι H D) noI v a := by
    refine h7.sound h4.rel (M := lentOff L ι H D) (fun b hb => .inl hb) (fun r q sz els g l _ a2 a3 a4 a5 => ?_) v h6
    exact h4.rel.out _ ⟨r, q, sz, els, g, l, a2, a3, a4, rfl⟩ a5
  rcases hr a h8 with hs | hd
  · exact scal_vr hs key
  · have : lentOff L ι H D = Lt L ι H := by
      funext b
      simp [lentOff, hd]
    rw [this] at key
    exact key.mono (fun b _ hb => ⟨rfl, hb⟩) (fun _ _ _ _ h => by cases h)

/-- A PURE CALL whose answer is known. -/
theorem call_fix {f : FuncId} {asv bs : List AV} {r : AV} (h : PureFn P f bs (· = r)) (ha : Lend H D asv bs) (hr : r.scal = true ∨ ∀ r q, ¬ D r q) : CallFix P f asv H nx r := by
  intro w L ι vs rel hv
  exact (call_core h ha (fun a e => by subst e; exact hr) rel hv).mono fun e w' ⟨v, a, h1, h2, h3, h4⟩ => ⟨v, h1, h2, by rw [← h4]; exact h3⟩

/-! ### Rows that the callee made -/

def AObj.ren (ρ : Nat → Nat) : AObj → AObj
  | .row sz els g => .row sz (els.map (·.map (AV.ren ρ))) g
  | .fam sz ins => .fam sz (ins.map fun p => (p.1.map (·.map (AV.ren ρ)), p.2))

theorem AObj.part_ren (ρ : Nat → Nat) (o : AObj) (q : Nat) : (o.ren ρ).part q = (o.part q).map (AObj.ren ρ) := by
  cases o with
  | row sz els g => cases q <;> rfl
  | fam sz ins =>
    cases q with
    | zero => rfl
    | succ i =>
      simp only [AObj.ren, AObj.part, List.getElem?_map, Option.map_map]
      cases ins[i]? <;> rfl

end
end Go.Ab

namespace Go.Ab
open Go.RowKit

def wpX (P : Program) (B : Nat) (c : ACode) (Q : QT) (K : Kn) (H : AH) (nx : Nat) : Prop := awp P B c Q K H nx
def seqQ (P : Program) (B : Nat) (b : ACode) (Q : QT) : QT := fun e K H nx => match e with
  | .normal => awp P B b Q K H nx
  | e => Q e K H nx
def blockQ (id : Nat) (Q : QT) : QT := fun e K H nx => match e with
  | .exit id' => bif Nat.beq id' id then Q .normal K H nx else Q (.exit id') K H nx
  | e => Q e K H nx
def condX (P : Program) (B : Nat) (t : Bool) (a b : ACode) (Q : QT) (K : Kn) (H : AH) (nx : Nat) : Prop := CondOk t (awp P B a Q K H nx) (awp P B b Q K H nx)
def condV (P : Program) (B : Nat) (v : AV) (a b : ACode) (Q : QT) (K : Kn) (H : AH) (nx : Nat) : Prop := match v with
  | .bool t => CondOk t (awp P B a Q K H nx) (awp P B b Q K H nx)
  | _ => False
def loopX (P : Program) (B : Nat) (c : ACode) (Q : QT) (K : Kn) (H : AH) (nx : Nat) : Prop := LoopOk B (awp P B c) Q K H nx
def markX (P : Program) (B : Nat) (c : ACode) (Q : QT) (K : Kn) (H : AH) (nx : Nat) : Prop := MarkOk B (awp P B c Q) K H nx
def joinX (P : Program) (B : Nat) (a b : ACode) (Q : QT) (K : Kn) (H : AH) (nx : Nat) : Prop := JoinOk B (awp P B a) (awp P B b Q) Q K H nx

def jumpX (P : Program) (B l : Nat) (a b : ACode) (Q : QT) (K : Kn) (H : AH) (nx : Nat) : Prop := JumpOk B l (awp P B a) (awp P B b) Q K H nx

/-- What follows an operation: the rest of a region, of a tree. -/
inductive Rest where
  | ops (os : List AOper)
  | tree (t : DTree)

def restX (P : Program) (r : Rest) (drop : List Nat) (Q : QT) (K : Kn) (H : AH) (nx : Nat) : Prop := match r with
  | .ops os => aops P os drop Q K H nx
  | .tree t => awpT P t drop Q K H nx

def Rest.fx : Rest → Bool
  | .ops _ => true
  | .tree _ => false

def contX (P : Program) (d : Option Nat) (r : Rest) (drop : List Nat) (Q : QT) (K : Kn) : AV → AH → Nat → Prop := fun v H nx => restX P r drop Q (setO K d v) H nx
def opX (P : Program) (op : AOp) (d : Option Nat) (r : Rest) (drop : List Nat) (Q : QT) (K : Kn) (H : AH) (nx : Nat) : Prop := bodyK P r.fx op K.get H nx (contX P d r drop Q K)
def resX (P : Program) (o : ORes) (d : Option Nat) (r : Rest) (drop : List Nat) (Q : QT) (K : Kn) : Prop := useRes r.fx o (contX P d r drop Q K)
def callK (P : Program) (d : Option Nat) (r : Rest) (drop : List Nat) (Q : QT) (K : Kn) : AV → AH → Nat → Prop := fun v H nx => (bif r.fx then v.wf else True) → restX P r drop Q (setO K d v) H nx
def callX (P : Program) (f : FuncId) (args : List AV) (H : AH) (nx : Nat) (k : AV → AH → Nat → Prop) : Prop := CallOk P f args H nx k
def callqX (P : Program) (f : FuncId) (args : List AV) (d : Option Nat) (r : Rest) (drop : List Nat) (Q : QT) (K : Kn) (H : AH) (nx : Nat) : Prop := CallQ P f args H nx (fun v => restX P r drop Q (setO K d v) H nx)
def callvX (P : Program) (x : AV) (args : List AV) (H : AH) (nx : Nat) (k : AV → AH → Nat → Prop) : Prop := match x with
  | .fn (.func f) caps => fnGood P f = true ∧ CallOk P f (args ++ caps) H nx k
  | _ => False
def nilX (P : Program) (b : Option (Option Bool)) (neg : Bool) (d : Option Nat) (r : Rest) (drop : List Nat) (Q : QT) (K : Kn) (H : AH) (nx : Nat) : Prop := match b with
  | some (some b) => restX P r drop Q (setO K d (.bool (b != neg))) H nx
  | some none => ∀ b, restX P r drop Q (setO K d (.bool b)) H nx
  | none => False
def nextX (P : Program) (x : AV) (d : Option Nat) (r : Rest) (drop : List Nat) (Q : QT) (K : Kn) (H : AH) (nx : Nat) : Prop := NextOk x H nx (contX P d r drop Q K)
def guardX (P : Program) (t : Bool) (op : AOp) (d : Option Nat) (r : Rest) (drop : List Nat) (Q : QT) (K : Kn) (H : AH) (nx : Nat) : Prop := CondOk t (opX P op d r drop Q K H nx) (restX P r drop Q (setO K d (.tup [])) H nx)
def guardV (P : Program) (v : AV) (want : Bool) (op : AOp) (d : Option Nat) (r : Rest) (drop : List Nat) (Q : QT) (K : Kn) (H : AH) (nx : Nat) : Prop := match grd want v with
  | some b => guardX P b op d r drop Q K H nx
  | none => False

section
variable {P : Program} {B : Nat} {Q : QT} {K : Kn} {H : AH} {nx : Nat} {drop : List Nat} {os : List AOper} {d : Option Nat} {r : Rest}

theorem wpX_skip : wpX P B .skip Q K H nx = Q .normal K H nx := rfl
theorem wpX_region : wpX P B (.region os drop) Q K H nx = restX P (.ops os) drop Q K H nx := rfl
theorem wpX_draw {t : DTree} : wpX P B (.draw t drop) Q K H nx = restX P (.tree t) drop Q K H nx := rfl
theorem wpX_seq {a b : ACode} : wpX P B (.seq a b) Q K H nx = wpX P B a (seqQ P B b Q) K H nx := rfl
theorem wpX_cond {c : AOpd} {a b : ACode} : wpX P B (.cond c a b) Q K H nx = condV P B (ev K.get c) a b Q K H nx := rfl
theorem wpX_block {id : Nat} {c : ACode} : wpX P B (.block id c) Q K H nx = wpX P B c (blockQ id Q) K H nx := rfl
theorem wpX_loop {c : ACode} : wpX P B (.loop c) Q K H nx = loopX P B c Q K H nx := rfl
theorem wpX_exit {id : Nat} : wpX P B (.exit id) Q K H nx = Q (.exit id) K H nx := rfl
theorem wpX_ret : wpX P B .ret Q K H nx = Q .ret K H nx := rfl
theorem wpX_mark {n : Nat} {c : ACode} : wpX P B (.mark n c) Q K H nx = markX P B c Q K H nx := rfl
theorem wpX_scope {c : ACode} : wpX P B (.scope c) Q K H nx = wpX P B c (noGQ Q) K H nx := rfl
theorem wpX_label {l : Nat} : wpX P B (.label l) Q K H nx = Q .normal K H nx := rfl
theorem wpX_goto {l : Nat} : wpX P B (.goto l) Q K H nx = Q (.goto l) K H nx := rfl
theorem wpX_jump {l : Nat} {a b : ACode} : wpX P B (.jump l a b) Q K H nx = jumpX P B l a b Q K H nx := rfl
theorem wpX_join {a b : ACode} : wpX P B (.join a b) Q K H nx = joinX P B a b Q K H nx := rfl
theorem seqQ_normal {b : ACode} : seqQ P B b Q .normal K H nx = wpX P B b Q K H nx := rfl
theorem seqQ_ret {b : ACode} : seqQ P B b Q .ret K H nx = Q .ret K H nx := rfl
theorem seqQ_goto {b : ACode} {l : Nat} : seqQ P B b Q (.goto l) K H nx = Q (.goto l) K H nx := rfl
theorem seqQ_exit {b : ACode} {id : Nat} : seqQ P B b Q (.exit id) K H nx = Q (.exit id) K H nx := rfl
theorem blockQ_normal {id : Nat} : blockQ id Q .normal K H nx = Q .normal K H nx := rfl
theorem blockQ_goto {id l : Nat} : blockQ id Q (.goto l) K H nx = Q (.goto l) K H nx := rfl
theorem noGQ_normal : noGQ Q .normal K H nx = Q .normal K H nx := rfl
theorem noGQ_ret : noGQ Q .ret K H nx = Q .ret K H nx := rfl
theorem noGQ_exit {id : Nat} : noGQ Q (.exit id) K H nx = Q (.exit id) K H nx := rfl
theorem blockQ_ret {id : Nat} : blockQ id Q .ret K H nx = Q .ret K H nx := rfl
theorem blockQ_exit {id id' : Nat} : blockQ id Q (.exit id') K H nx = bif Nat.beq id' id then Q .normal K H nx else Q (.exit id') K H nx := rfl
theorem condV_bool {t : Bool} {a b : ACode} : condV P B (.bool t) a b Q K H nx = condX P B t a b Q K H nx := rfl
theorem condX_true {a b : ACode} : condX P B true a b Q K H nx = wpX P B a Q K H nx := by unfold condX; rw [CondOk.true]; rfl
theorem condX_false {a b : ACode} : condX P B false a b Q K H nx = wpX P B b Q K H nx := by unfold condX; rw [CondOk.false]; rfl
theorem condX_intro {t : Bool} {a b : ACode} (h1 : t = true → wpX P B a Q K H nx) (h2 : t = false → wpX P B b Q K H nx) : condX P B t a b Q K H nx := ⟨h1, h2⟩
theorem retK_ret {rs : List ARet} {Post : AV → AH → Nat → Prop} : retK rs Post .ret K H nx = (retSide K H nx rs ∧ Post (retOf (retVals K H nx rs)) H nx) := rfl
theorem retK_normal {rs : List ARet} {Post : AV → AH → Nat → Prop} : retK rs Post .normal K H nx = (retSide K H nx rs ∧ Post (retOf (retVals K H nx rs)) H nx) := rfl

theorem restX_nil : restX P (.ops []) drop Q K H nx = Q .normal (K.drop drop) H nx := rfl
theorem restX_cons {op : AOp} : restX P (.ops (⟨d, op, none⟩ :: os)) drop Q K H nx = opX P op d (.ops os) drop Q K H nx := rfl
theorem restX_guard {op : AOp} {t : Nat} {want : Bool} : restX P (.ops (⟨d, op, some (t, want)⟩ :: os)) drop Q K H nx = guardV P (K.get t) want op d (.ops os) drop Q K H nx := rfl
theorem restX_done : restX P (.tree .done) drop Q K H nx = Q .normal (K.drop drop) H nx := rfl
theorem restX_stop : restX P (.tree .stop) drop Q K H nx = True := rfl
theorem restX_step {op : AOp} {t : DTree} : restX P (.tree (.step ⟨d, op, none⟩ t)) drop Q K H nx = opX P op d (.tree t) drop Q K H nx := rfl
theorem restX_stepg {op : AOp} {t : DTree} {g : Nat} {want : Bool} : restX P (.tree (.step ⟨d, op, some (g, want)⟩ t)) drop Q K H nx = guardV P (K.get g) want op d (.tree t) drop Q K H nx := rfl
theorem restX_alt {op : AOp} {t u : DTree} : restX P (.tree (.alt ⟨d, op, none⟩ t u)) drop Q K H nx = (opX P op d (.tree t) drop Q K H nx ∧ restX P (.tree u) drop Q K H nx) := rfl
theorem restX_altg {op : AOp} {t u : DTree} {g : Nat} {want : Bool} : restX P (.tree (.alt ⟨d, op, some (g, want)⟩ t u)) drop Q K H nx = (guardV P (K.get g) want op d (.tree t) drop Q K H nx ∧ restX P (.tree u) drop Q K H nx) := rfl
theorem guardV_yes {op : AOp} {b : Bool} : guardV P (.bool b) true op d r drop Q K H nx = guardX P b op d r drop Q K H nx := by unfold guardV; cases b <;> rfl
theorem guardV_no {op : AOp} {b : Bool} : guardV P (.bool b) false op d r drop Q K H nx = guardX P (!b) op d r drop Q K H nx := by unfold guardV; cases b <;> rfl
theorem guardV_skip {op : AOp} {want : Bool} : guardV P (.tup []) want op d r drop Q K H nx = restX P r drop Q (setO K d (.tup [])) H nx := by
  unfold guardV grd guardX
  simp only [CondOk.false]
theorem guardX_true {op : AOp} : guardX P true op d r drop Q K H nx = opX P op d r drop Q K H nx := by unfold guardX; rw [CondOk.true]
theorem guardX_false {op : AOp} : guardX P false op d r drop Q K H nx = restX P r drop Q (setO K d (.tup [])) H nx := by unfold guardX; rw [CondOk.false]
theorem resX_ops {s f : Prop} {v : AV} {H' : AH} {nx' : Nat} : resX P ⟨s, f, v, H', nx'⟩ d (.ops os) drop Q K = (s ∧ (f → restX P (.ops os) drop Q (setO K d v) H' nx')) := rfl
theorem resX_tree {s f : Prop} {v : AV} {H' : AH} {nx' : Nat} {t : DTree} : resX P ⟨s, f, v, H', nx'⟩ d (.tree t) drop Q K = (s ∧ restX P (.tree t) drop Q (setO K d v) H' nx') := by
  unfold resX useRes Rest.fx
  simp only [cond_false, true_implies]
  rfl

theorem opX_mov {x : AOpd} : opX P (.mov x) d r drop Q K H nx = restX P r drop Q (setO K d (ev K.get x)) H nx := by
  unfold opX bodyK useRes aop
  cases r <;> simp only [Rest.fx, cond_true, cond_false, true_implies, true_and] <;> rfl
theorem opX_mknil {s : Nat} : opX P (.mknil s) d r drop Q K H nx = restX P r drop Q (setO K d (.own nx 0 0 0 0)) (H.set nx 0 (.row s [] 0)) (nx + 1) := by
  unfold opX bodyK useRes aop mknilR
  cases r <;> simp only [Rest.fx, cond_true, cond_false, true_implies, true_and] <;> rfl
theorem opX_pick {c x y : AOpd} : opX P (.pick c x y) d r drop Q K H nx = resX P (pickR (ev K.get c) (ev K.get x) (ev K.get y) H nx) d r drop Q K := rfl
theorem opX_load {g : Bool} {n : Nat} {p : AOpd} : opX P (.load g n p) d r drop Q K H nx = resX P (loadR g n (ev K.get p) H nx) d r drop Q K := rfl
theorem opX_store {n : Nat} {p v : AOpd} : opX P (.store n p v) d r drop Q K H nx = resX P (storeR n (ev K.get p) (ev K.get v) H nx) d r drop Q K := rfl
theorem opX_idx {s : Nat} {x i : AOpd} : opX P (.idx s x i) d r drop Q K H nx = resX P (idxR s (ev K.get x) (ev K.get i) H nx) d r drop Q K := rfl
theorem opX_fldaddr {o n : Nat} {x : AOpd} : opX P (.fldaddr o n x) d r drop Q K H nx = resX P (fldaddrR o n (ev K.get x) H nx) d r drop Q K := rfl
theorem opX_fld {o n : Nat} {g : Bool} {x : AOpd} : opX P (.fld o n g x) d r drop Q K H nx = resX P (fldR o n g (ev K.get x) H nx) d r drop Q K := rfl
theorem opX_len {x : AOpd} : opX P (.len x) d r drop Q K H nx = resX P (lenR (ev K.get x) H nx) d r drop Q K := rfl
theorem opX_slen {x : AOpd} : opX P (.slen x) d r drop Q K H nx = resX P (slenR (ev K.get x) H nx) d r drop Q K := rfl
theorem opX_bin {o : BinOp} {x y : AOpd} : opX P (.bin o x y) d r drop Q K H nx = resX P (binI o (ev K.get x) (ev K.get y) H nx) d r drop Q K := rfl
theorem opX_eqb {n : Bool} {x y : AOpd} : opX P (.eqb n x y) d r drop Q K H nx = resX P (eqB n (ev K.get x) (ev K.get y) H nx) d r drop Q K := rfl
theorem opX_un {o : UnOp} {x : AOpd} : opX P (.un o x) d r drop Q K H nx = resX P (unR o (ev K.get x) H nx) d r drop Q K := rfl
theorem opX_conv {k : IntKind} {x : AOpd} : opX P (.conv k x) d r drop Q K H nx = resX P (convI k (ev K.get x) H nx) d r drop Q K := rfl
theorem opX_build {z : List AV} {ps : List (Nat × Nat × AOpd)} : opX P (.build z ps) d r drop Q K H nx = resX P (buildR z (evParts K.get ps) H nx) d r drop Q K := rfl
theorem opX_buildSl {s l : Nat} {z : List AV} {ps : List (Nat × AOpd)} : opX P (.buildSl s l z ps) d r drop Q K H nx = resX P (buildSlR s l z (evEls K.get ps) H nx) d r drop Q K := rfl
theorem opX_box {x : AOpd} : opX P (.box x) d r drop Q K H nx = resX P (boxR (ev K.get x) H nx) d r drop Q K := rfl
theorem opX_rbox {x : AOpd} : opX P (.rbox x) d r drop Q K H nx = resX P (rboxR (ev K.get x) H nx) d r drop Q K := rfl
theorem opX_rbuildSl {s l : Nat} {z : List AV} {ps : List (Nat × AOpd)} : opX P (.rbuildSl s l z ps) d r drop Q K H nx = resX P (rbuildSlR s l z (evEls K.get ps) H nx) d r drop Q K := rfl
theorem opX_mnext {x : AOpd} : opX P (.mnext x) d r drop Q K H nx = nextX P (ev K.get x) d r drop Q K H nx := rfl
theorem opX_alloc {z : List AV} : opX P (.alloc z) d r drop Q K H nx = resX P (allocR z H nx) d r drop Q K := rfl
theorem opX_mksl {s b : Nat} {z : List AV} {l c : AOpd} : opX P (.mksl s b z l c) d r drop Q K H nx = resX P (mkslR s b z (ev K.get l) (ev K.get c) H nx) d r drop Q K := rfl
theorem opX_slice {s : Nat} {x : AOpd} {l h : Option AOpd} : opX P (.slice s x l h) d r drop Q K H nx = resX P (sliceR s (ev K.get x) (evO K.get l) (evO K.get h) H nx) d r drop Q K := rfl
theorem opX_cut {x : AOpd} : opX P (.cut x) d r drop Q K H nx = resX P (cutR (ev K.get x) H nx) d r drop Q K := rfl
theorem opX_mkfn {f : Fn} {cs : List AOpd} : opX P (.mkfn f cs) d r drop Q K H nx = restX P r drop Q (setO K d (.fn f (evs K.get cs))) H nx := by
  unfold opX bodyK useRes aop
  cases r <;> simp only [Rest.fx, cond_true, cond_false, true_implies, true_and] <;> rfl
theorem opX_append {s b : Nat} {x y : AOpd} : opX P (.append s b x y) d r drop Q K H nx = resX P (appendR s b (ev K.get x) (ev K.get y) H nx) d r drop Q K := rfl
theorem opX_clear {s : Nat} {z : List AV} {x : AOpd} : opX P (.clear s z x) d r drop Q K H nx = resX P (clearR s z (ev K.get x) H nx) d r drop Q K := rfl
theorem opX_ext {i : Nat} {x : AOpd} : opX P (.ext i x) d r drop Q K H nx = resX P (extR i (ev K.get x) H nx) d r drop Q K := rfl
theorem opX_isnil {n p : Bool} {x : AOpd} : opX P (.isnil n p x) d r drop Q K H nx = nilX P (nilB p (ev K.get x)) n d r drop Q K H nx := rfl
theorem opX_call {f : FuncId} {xs : List AOpd} : opX P (.call f xs) d r drop Q K H nx = callX P f (evs K.get xs) H nx (callK P d r drop Q K) := rfl
theorem opX_callq {f : FuncId} {xs : List AOpd} : opX P (.callq f xs) d r drop Q K H nx = callqX P f (evs K.get xs) d r drop Q K H nx := rfl
theorem opX_xop {x : XOp} {xs : List AOpd} : opX P (.xop x xs) d r drop Q K H nx = resX P (xopR x (evs K.get xs) H nx) d r drop Q K := rfl
theorem opX_callv {x : AOpd} {xs : List AOpd} : opX P (.callv x xs) d r drop Q K H nx = callvX P (ev K.get x) (evs K.get xs) H nx (callK P d r drop Q K) := rfl
theorem callvX_fn {f : FuncId} {caps args : List AV} {k : AV → AH → Nat → Prop} : callvX P (.fn (.func f) caps) args H nx k = (fnGood P f = true ∧ callX P f (args ++ caps) H nx k) := rfl
theorem nilX_is {b n : Bool} : nilX P (some (some b)) n d r drop Q K H nx = restX P r drop Q (setO K d (.bool (b != n))) H nx := rfl
theorem nilX_any {n : Bool} : nilX P (some none) n d r drop Q K H nx = ∀ b, restX P r drop Q (setO K d (.bool b)) H nx := rfl
theorem callK_ops {v : AV} {H' : AH} {nx' : Nat} : callK P d (.ops os) drop Q K v H' nx' = (v.wf → restX P (.ops os) drop Q (setO K d v) H' nx') := rfl
theorem callK_tree {v : AV} {H' : AH} {nx' : Nat} {t : DTree} : callK P d (.tree t) drop Q K v H' nx' = restX P (.tree t) drop Q (setO K d v) H' nx' := by
  unfold callK Rest.fx
  simp only [cond_false, true_implies]

/-- A call whose answer is known. -/
theorem callX_fix {f : FuncId} {args : List AV} {a : AV} {k : AV → AH → Nat → Prop} (h : CallFix P f args H nx a) (hk : k a H nx) : callX P f args H nx k := h.ok hk
theorem callqX_fix {f : FuncId} {args : List AV} {a : AV} (h : CallFix P f args H nx a) (hk : restX P r drop Q (setO K d a) H nx) : callqX P f args d r drop Q K H nx := ⟨a, h, hk⟩

/-- Where a loop begins anew. -/
def loopQ (B : Nat) {α : Type} (S : α → Kn × AH) (N : Nat) (inv : α → Prop) (μ : α → Nat) (a : α) (Q : QT) : QT := fun e K H nx => match e with
  | .normal => ∃ a', inv a' ∧ μ a' < μ a ∧ Ent B K H nx (S a').1 (S a').2 N
  | e => Q e K H nx
theorem loopQ_normal {α : Type} {S : α → Kn × AH} {N : Nat} {inv : α → Prop} {μ : α → Nat} {a : α} : loopQ B S N inv μ a Q .normal K H nx = ∃ a', inv a' ∧ μ a' < μ a ∧ Ent B K H nx (S a').1 (S a').2 N := rfl
theorem loopQ_goto {α : Type} {S : α → Kn × AH} {N : Nat} {inv : α → Prop} {μ : α → Nat} {a : α} {l : Nat} : loopQ B S N inv μ a Q (.goto l) K H nx = Q (.goto l) K H nx := rfl
theorem loopQ_ret {α : Type} {S : α → Kn × AH} {N : Nat} {inv : α → Prop} {μ : α → Nat} {a : α} : loopQ B S N inv μ a Q .ret K H nx = Q .ret K H nx := rfl
theorem loopQ_exit {α : Type} {S : α → Kn × AH} {N : Nat} {inv : α → Prop} {μ : α → Nat} {a : α} {id : Nat} : loopQ B S N inv μ a Q (.exit id) K H nx = Q (.exit id) K H nx := rfl

theorem loopX_intro {c : ACode} {α : Type} (S : α → Kn × AH) (N : Nat) (inv : α → Prop) (μ : α → Nat) (a0 : α) (h0 : inv a0) (he : Ent B K H nx (S a0).1 (S a0).2 N)
    (hb : ∀ a, inv a → WfK (S a).1 → wpX P B c (loopQ B S N inv μ a Q) (S a).1 (S a).2 N) : loopX P B c Q K H nx := by
  refine ⟨α, S, N, inv, μ, ⟨a0, h0, he⟩, fun a ha hw => ?_⟩
  have := hb a ha hw
  unfold wpX at this
  refine Eq.mp (congrArg (fun q => awp P B c q (S a).1 (S a).2 N) (funext fun e => funext fun K => funext fun H => funext fun nx => ?_)) this
  cases e <;> rfl

theorem markX_intro {c : ACode} (K2 : Kn) (H2 : AH) (nx2 : Nat) (h : WfK K → Ent B K H nx K2 H2 nx2 ∧ wpX P B c Q K2 H2 nx2) : markX P B c Q K H nx := fun hw => ⟨K2, H2, nx2, h hw⟩

def joinQ (B : Nat) {α : Type} (S : α → Kn × AH) (N : Nat) (inv : α → Prop) (Q : QT) : QT := fun e K H nx => match e with
  | .normal => ∃ a', inv a' ∧ Ent B K H nx (S a').1 (S a').2 N
  | e => Q e K H nx
theorem joinQ_normal {α : Type} {S : α → Kn × AH} {N : Nat} {inv : α → Prop} : joinQ B S N inv Q .normal K H nx = ∃ a', inv a' ∧ Ent B K H nx (S a').1 (S a').2 N := rfl
theorem joinQ_goto {α : Type} {S : α → Kn × AH} {N : Nat} {inv : α → Prop} {l : Nat} : joinQ B S N inv Q (.goto l) K H nx = Q (.goto l) K H nx := rfl
theorem joinQ_ret {α : Type} {S : α → Kn × AH} {N : Nat} {inv : α → Prop} : joinQ B S N inv Q .ret K H nx = Q .ret K H nx := rfl
theorem joinQ_exit {α : Type} {S : α → Kn × AH} {N : Nat} {inv : α → Prop} {id : Nat} : joinQ B S N inv Q (.exit id) K H nx = Q (.exit id) K H nx := rfl

def jumpQ (B l : Nat) {α : Type} (S : α → Kn × AH) (N : Nat) (inv : α → Prop) (Q : QT) : QT := fun e K H nx => match e with
  | .goto l' => l' = l ∧ ∃ a', inv a' ∧ Ent B K H nx (S a').1 (S a').2 N
  | e => Q e K H nx
def jumpR (B l : Nat) {α : Type} (S : α → Kn × AH) (N : Nat) (inv : α → Prop) (μ : α → Nat) (a : α) (Q : QT) : QT := fun e K H nx => match e with
  | .goto l' => l' = l ∧ ∃ a', inv a' ∧ μ a' < μ a ∧ Ent B K H nx (S a').1 (S a').2 N
  | e => Q e K H nx
theorem jumpQ_goto {l l' : Nat} {α : Type} {S : α → Kn × AH} {N : Nat} {inv : α → Prop} : jumpQ B l S N inv Q (.goto l') K H nx = (l' = l ∧ ∃ a', inv a' ∧ Ent B K H nx (S a').1 (S a').2 N) := rfl
theorem jumpQ_normal {l : Nat} {α : Type} {S : α → Kn × AH} {N : Nat} {inv : α → Prop} : jumpQ B l S N inv Q .normal K H nx = Q .normal K H nx := rfl
theorem jumpQ_ret {l : Nat} {α : Type} {S : α → Kn × AH} {N : Nat} {inv : α → Prop} : jumpQ B l S N inv Q .ret K H nx = Q .ret K H nx := rfl
theorem jumpQ_exit {l id : Nat} {α : Type} {S : α → Kn × AH} {N : Nat} {inv : α → Prop} : jumpQ B l S N inv Q (.exit id) K H nx = Q (.exit id) K H nx := rfl
theorem jumpR_goto {l l' : Nat} {α : Type} {S : α → Kn × AH} {N : Nat} {inv : α → Prop} {μ : α → Nat} {a : α} : jumpR B l S N inv μ a Q (.goto l') K H nx = (l' = l ∧ ∃ a', inv a' ∧ μ a' < μ a ∧ Ent B K H nx (S a').1 (S a').2 N) := rfl
theorem jumpR_normal {l : Nat} {α : Type} {S : α → Kn × AH} {N : Nat} {inv : α → Prop} {μ : α → Nat} {a : α} : jumpR B l S N inv μ a Q .normal K H nx = Q .normal K H nx := rfl
theorem jumpR_ret {l : Nat} {α : Type} {S : α → Kn × AH} {N : Nat} {inv : α → Prop} {μ : α → Nat} {a : α} : jumpR B l S N inv μ a Q .ret K H nx = Q .ret K H nx := rfl
theorem jumpR_exit {l id : Nat} {α : Type} {S : α → Kn × AH} {N : Nat} {inv : α → Prop} {μ : α → Nat} {a : α} : jumpR B l S N inv μ a Q (.exit id) K H nx = Q (.exit id) K H nx := rfl

theorem jumpX_intro {l : Nat} {a b : ACode} {α : Type} (S : α → Kn × AH) (N : Nat) (inv : α → Prop) (μ : α → Nat) (ha : wpX P B a (jumpQ B l S N inv Q) K H nx)
    (hb : ∀ x, inv x → WfK (S x).1 → wpX P B b (jumpR B l S N inv μ x Q) (S x).1 (S x).2 N) : jumpX P B l a b Q K H nx := by
  refine ⟨α, S, N, inv, μ, ?_, fun x hx hw => ?_⟩
  · unfold wpX at ha
    refine Eq.mp (congrArg (fun q => awp P B a q K H nx) (funext fun e => funext fun K => funext fun H => funext fun nx => ?_)) ha
    cases e <;> rfl
  · have := hb x hx hw
    unfold wpX at this
    refine Eq.mp (congrArg (fun q => awp P B b q (S x).1 (S x).2 N) (funext fun e => funext fun K => funext fun H => funext fun nx => ?_)) this
    cases e <;> rfl

theorem fn_x {f : FuncId} {q : Nat → List Nat} {ac : ACode} {rs : List ARet} {nt : Nat} (hc : compF P f q = some (ac.strip, rs, nt)) {args : List AV} {Post : AV → AH → Nat → Prop} (hn : Nat.ble args.length nt = true)
    (h : wpX P nx ac (retK rs Post) (argsK 0 args) H nx) : CallOk P f args H nx Post := fn_of hc (Nat.le_of_ble_eq_true hn) h

theorem beq_eq (a b : Nat) : Nat.beq a b = (a == b) := by
  cases h : Nat.beq a b with
  | true => rw [beq_true h]; simp
  | false =>
    have : a ≠ b := fun e => by rw [e, beq_refl'] at h; cases h
    simp [this]

end
end Go.Ab

namespace Go.Ab
open Go.RowKit

/-- Every slot of the list is known so. -/
def subK : Kn → Kn → Prop
  | [], _ => True
  | (j, v) :: t, K => K.get j = v ∧ subK t K

theorem subK_get {K : Kn} : ∀ {K2 : Kn}, subK K2 K → ∀ i, K2.get i = .undef ∨ K2.get i = K.get i
  | [], _, i => .inl rfl
  | (j, v) :: t, h, i => by
    simp only [Kn.get]
    cases hb : Nat.beq j i with
    | true => rw [← beq_true hb]; exact .inr h.1.symm
    | false => exact subK_get h.2 i

/-- The same rows, the same slots. -/
theorem Ent.keep {B : Nat} {K K2 : Kn} {H : AH} {nx : Nat} (hB : Nat.ble B nx = true) (h : subK K2 K) : Ent B K H nx K2 H nx := by
  refine ⟨Nat.le_of_ble_eq_true hB, fun w L ι tmps rel hk => ⟨ι, rel, fun i => ?_, fun b hb => hb, fun r q g l _ hl => hl⟩⟩
  rcases subK_get h i with e | e
  · rw [e]; exact .undef _ _
  · rw [e]; exact hk i

/-- The same rows by look, the same slots. -/
theorem Ent.same {B : Nat} {K K2 : Kn} {H H2 : AH} {nx : Nat} (hB : B ≤ nx) (hH : ∀ r, H2.look r = H.look r) (h : subK K2 K) : Ent B K H nx K2 H2 nx := by
  have hget : ∀ r q, H2.get r q = H.get r q := fun r q => by unfold AH.get; rw [hH]
  refine ⟨hB, fun w L ι tmps rel hk => ⟨ι, ?_, fun i => ?_, fun b hb => ?_, fun r q g l _ hl => hl⟩⟩
  · have hl : ∀ b, live ι H2 b ↔ live ι H b := fun b => by simp only [live, hget]
    have hlt : Lt L ι H2 = Lt L ι H := by funext b; simp only [Lt, hl]
    exact ⟨fun r q sz els g h => by rw [hlt]; rw [hget] at h; exact rel.row r q sz els g h, fun r1 q1 r2 q2 s1 e1 g1 l1 s2 e2 g2 l2 h1 h2 => by rw [hget] at h1 h2; exact rel.apart r1 q1 r2 q2 s1 e1 g1 l1 s2 e2 g2 l2 h1 h2,
      fun b hb => rel.out b ((hl b).1 hb), rel.idx, fun r o h => by rw [hH] at h; exact rel.dom r o h, fun r q sz els g h => by rw [hget] at h; exact rel.gen r q sz els g h, rel.Lsz⟩
  · have hl : ∀ b, live ι H2 b ↔ live ι H b := fun b => by simp only [live, hget]
    have hlt : Lt L ι H2 = Lt L ι H := by funext b; simp only [Lt, hl]
    rw [hlt]
    rcases subK_get h i with e | e
    · rw [e]; exact .undef _ _
    · rw [e]; exact hk i
  · simp only [live, hget] at hb ⊢
    exact hb

/-! ### Rows by a table -/

/-- A table: new number, old number, generations struck. -/
abbrev Tab := List (Nat × Nat × Nat)

def Tab.at : Tab → Nat → Option (Nat × Nat)
  | [], _ => none
  | (r', r, d) :: t, x => bif Nat.beq r' x then some (r, d) else Tab.at t x

def Tab.sig (t : Tab) : Nat → Nat → Option (Nat × Nat × Nat) := fun r' q' => match t.at r' with
  | some (r, d) => some (r, q', d)
  | none => none

def inD (ds : List Nat) : Nat → Nat → Prop := fun r _ => memN ds r = true

/-- No number twice, none of 'ds', all new numbers below n. -/
def Tab.ok (n : Nat) (ds : List Nat) : Tab → Bool
  | [] => true
  | (r', r, _) :: t => Nat.blt r' n && !(memN ds r) && !(memN (t.map (·.2.1)) r) && Tab.ok n ds t

/-- The rows at the new place. -/
def rowsV (H HH : AH) (t : Tab) (ds : List Nat) (n : Nat) : AH → Prop
  | [] => True
  | (r', .row sz els2 g2) :: u => Nat.blt r' n = true ∧ (match t.at r' with
      | some (r, d) => ∃ els, H.get r 0 = some (.row sz els (g2 + d)) ∧ RowV H HH t.sig (inD ds) els els2
      | none => els2 = [] ∧ g2 = 0) ∧ rowsV H HH t ds n u
  | (r', .fam sz ins) :: u => Nat.blt r' n = true ∧ (match t.at r' with
      | some (r, d) => ∀ (i : Nat) (p : List (List AV) × Nat), ins[i]? = some p → ∃ els, H.get r (i + 1) = some (.row sz els (p.2 + d)) ∧ RowV H HH t.sig (inD ds) els p.1
      | none => ∀ (i : Nat) (p : List (List AV) × Nat), ins[i]? = some p → p = ([], 0)) ∧ rowsV H HH t ds n u

def slotsV (H HH : AH) (t : Tab) (ds : List Nat) : Kn → Kn → Prop
  | [], _ => True
  | (j, v) :: u, K => Vw H HH t.sig (inD ds) true (K.get j) v ∧ slotsV H HH t ds u K

theorem slotsV_get {H HH : AH} {t : Tab} {ds : List Nat} {K : Kn} : ∀ {K2 : Kn}, slotsV H HH t ds K2 K → ∀ i, Vw H HH t.sig (inD ds) true (K.get i) (K2.get i)
  | [], _, i => .undef _ _
  | (j, v) :: u, h, i => by
    simp only [Kn.get]
    cases hb : Nat.beq j i with
    | true => rw [← beq_true hb]; exact h.1
    | false => exact slotsV_get h.2 i

theorem Tab.ok_at {n : Nat} {ds : List Nat} : ∀ {t : Tab}, t.ok n ds = true → ∀ {x r d}, t.at x = some (r, d) → x < n ∧ memN ds r = false ∧ r ∈ t.map (·.2.1)
  | [], _, x, r, d, h => by cases h
  | (r', r0, d0) :: t, h, x, r, d, hx => by
    simp only [Tab.ok, Bool.and_eq_true, Bool.not_eq_true'] at h
    obtain ⟨⟨⟨h1, h2⟩, h3⟩, h4⟩ := h
    simp only [Tab.at] at hx
    cases hb : Nat.beq r' x with
    | true =>
      rw [hb] at hx
      cases hx
      have := beq_true hb
      subst this
      exact ⟨by simpa [Nat.blt_eq] using h1, h2, by simp⟩
    | false =>
      rw [hb] at hx
      obtain ⟨a1, a2, a3⟩ := Tab.ok_at h4 hx
      exact ⟨a1, a2, by simp only [List.map_cons, List.mem_cons]; exact .inr a3⟩

theorem Tab.ok_inj {n : Nat} {ds : List Nat} : ∀ {t : Tab}, t.ok n ds = true → ∀ {x y r d e}, t.at x = some (r, d) → t.at y = some (r, e) → x = y
  | [], _, x, y, r, d, e, h, _ => by cases h
  | (r', r0, d0) :: t, h, x, y, r, d, e, hx, hy => by
    have h' := h
    simp only [Tab.ok, Bool.and_eq_true, Bool.not_eq_true'] at h'
    obtain ⟨⟨⟨h1, h2⟩, h3⟩, h4⟩ := h'
    simp only [Tab.at] at hx hy
    cases hb : Nat.beq r' x with
    | true =>
      cases hc : Nat.beq r' y with
      | true => exact (beq_true hb).symm.trans (beq_true hc)
      | false =>
        rw [hb] at hx
        rw [hc] at hy
        cases hx
        have := (Tab.ok_at h4 hy).2.2
        exact absurd ((memN_iff _ _).2 this) (by rw [h3]; exact Bool.false_ne_true)
    | false =>
      cases hc : Nat.beq r' y with
      | true =>
        rw [hb] at hx
        rw [hc] at hy
        cases hy
        have := (Tab.ok_at h4 hx).2.2
        exact absurd ((memN_iff _ _).2 this) (by rw [h3]; exact Bool.false_ne_true)
      | false =>
        rw [hb] at hx
        rw [hc] at hy
        exact Tab.ok_inj h4 hx hy

theorem rowsV_dom {H HH : AH} {t : Tab} {ds : List Nat} {n : Nat} : ∀ {H2 : AH}, rowsV H HH t ds n H2 → ∀ r o, H2.look r = some o → r < n
  | [], _, r, o, h => by cases h
  | (r', ob) :: u, h, r, o, hl => by
    have hh : Nat.blt r' n = true ∧ rowsV H HH t ds n u := by cases ob <;> exact ⟨h.1, h.2.2⟩
    simp only [AH.look] at hl
    cases hb : Nat.beq r' r with
    | true => rw [← beq_true hb]; simpa [Nat.blt_eq] using hh.1
    | false => rw [hb] at hl; exact rowsV_dom hh.2 r o hl

theorem rowsV_row {H HH : AH} {t : Tab} {ds : List Nat} {n : Nat} : ∀ {H2 : AH}, rowsV H HH t ds n H2 → ∀ r' q' sz els2 g2, H2.get r' q' = some (.row sz els2 g2) →
    (∃ r q d els, t.sig r' q' = some (r, q, d) ∧ H.get r q = some (.row sz els (g2 + d)) ∧ RowV H HH t.sig (inD ds) els els2) ∨ (t.sig r' q' = none ∧ els2 = [] ∧ g2 = 0)
  | [], _, r', q', sz, els2, g2, h => by cases h
  | (r0, ob) :: u, h, r', q', sz, els2, g2, hg => by
    have hh : rowsV H HH t ds n u := by cases ob <;> exact h.2.2
    unfold AH.get at hg
    simp only [AH.look] at hg
    cases hb : Nat.beq r0 r' with
    | false => rw [hb] at hg; exact rowsV_row hh r' q' sz els2 g2 hg
    | true =>
      rw [hb] at hg
      have := beq_true hb
      subst this
      simp only [cond_true, Option.bind_some] at hg
      cases ob with
      | row sz0 els0 g0 =>
        cases q' with
        | succ q => cases hg
        | zero =>
          simp only [AObj.part, Option.some.injEq, AObj.row.injEq] at hg
          obtain ⟨rfl, rfl, rfl⟩ := hg
          have h2 := h.2.1
          unfold Tab.sig
          cases ht : t.at r0 with
          | none => rw [ht] at h2; exact .inr ⟨rfl, h2⟩
          | some p =>
            obtain ⟨r, d⟩ := p
            rw [ht] at h2
            obtain ⟨els, h3, h4⟩ := h2
            exact .inl ⟨r, 0, d, els, rfl, h3, h4⟩
      | fam sz0 ins =>
        cases q' with
        | zero => cases hg
        | succ i =>
          simp only [AObj.part] at hg
          obtain ⟨p, hp, he⟩ := Option.map_eq_some_iff.1 hg
          cases he
          have h2 := h.2.1
          unfold Tab.sig
          cases ht : t.at r0 with
          | none =>
            rw [ht] at h2
            have := h2 i p hp
            rw [this]
            exact .inr ⟨rfl, rfl, rfl⟩
          | some p' =>
            obtain ⟨r, d⟩ := p'
            rw [ht] at h2
            obtain ⟨els, h3, h4⟩ := h2 i p hp
            exact .inl ⟨r, i + 1, d, els, rfl, h3, h4⟩

/-- WHAT IS KNOWN, SEEN OTHERWISE, by a table (for a function that was given no rows). -/
theorem Ent.tab {K K2 : Kn} {H H2 : AH} {nx nx2 : Nat} (t : Tab) (ds : List Nat) (hok : t.ok nx2 ds = true) (hr : rowsV H H2 t ds nx2 H2) (hK : slotsV H H2 t ds K2 K) : Ent 0 K H nx K2 H2 nx2 := by
  refine Ent.view t.sig (inD ds) ⟨Nat.zero_le _, fun r q h => absurd h (Nat.not_lt_zero _), ?_, ?_, ?_, rowsV_dom hr, rowsV_row hr⟩ (slotsV_get hK)
  · intro r1 q1 r2 q2 r q d1 d2 h1 h2
    unfold Tab.sig at h1 h2
    cases e1 : t.at r1 with
    | none => rw [e1] at h1; cases h1
    | some p1 =>
      cases e2 : t.at r2 with
      | none => rw [e2] at h2; cases h2
      | some p2 =>
        rw [e1] at h1
        rw [e2] at h2
        simp only [Option.some.injEq, Prod.mk.injEq] at h1 h2
        obtain ⟨rfl, rfl, rfl⟩ := h1
        obtain ⟨h3, rfl, rfl⟩ := h2
        refine ⟨Tab.ok_inj hok (d := p1.2) (e := p2.2) e1 ?_, rfl⟩
        rw [e2, ← h3]
  · intro r' q' r q d h
    unfold Tab.sig at h
    cases e1 : t.at r' with
    | none => rw [e1] at h; cases h
    | some p1 =>
      rw [e1] at h
      simp only [Option.some.injEq, Prod.mk.injEq] at h
      obtain ⟨rfl, _, rfl⟩ := h
      have := (Tab.ok_at hok (d := p1.2) e1).2.1
      unfold inD
      rw [this]
      exact Bool.false_ne_true
  · intro r' q' x h
    unfold Tab.sig at h
    cases e1 : t.at r' with
    | none => rw [e1] at h; cases h
    | some p1 => exact (Tab.ok_at hok (d := p1.2) e1).1

end Go.Ab
