/-
  Part 6 of the proof: how the calls of this program run, over values instead of memory, and what each function computes.
-/
import Derived.Test.YtjcbhpmmngfmeaaGreatProg
import Derived.Shelf.SlIterI.Nil
import Derived.Shelf.SortM.Plain
import Derived.Shelf.SortM.SortNone
import Derived.Test.YtjcbhpmmngfmeaaGreatKe
set_option maxRecDepth 100000
set_option linter.unusedVariables false
set_option linter.unusedSimpArgs false
set_option linter.unnecessarySimpa false
set_option linter.unusedSectionVars false
open Option renaming bind_eq_some_iff→Wa,bind_eq_bind→Wl,map_eq_some_iff→Wp
open Nat renaming le_refl→Wc,beq→Wd,le_trans→Wf,lt_of_lt_of_le→Wh,zero_le→Wk,blt_eq→Wm,lt_or_ge→Wo
open List renaming mem_of_getElem?→We,getElem?_eq_getElem→Wi,mem_singleton→Wn,getElem?_eq_some_iff→Wq
open Option.some renaming injEq→Wg
open Array renaming getElem?_eq_some_iff→Wj
namespace Go.Ab
open Go.RowKit
structure Memo where
 f:FuncId
 args:List AV
 res:AV
section
variable {σ:Type} {P:Program}
variable {w0 w w':World} {L0 L L':Nat→Prop} {ι0 ι ι':Inj} {H0 H H':AH} {nx nx' B:Nat}
theorem StY.refl (h:RelH w L ι H nx):StY w L ι H w L ι H nx:=⟨rfl,rfl,rfl,Wc _,fun _ _ _ _=>rfl,fun _ _ _ _ h=>h,h,fun _ h=>.inl h,fun _ h=>.inl h,fun _ h=>h⟩
theorem StY.step (h:StY w0 L0 ι0 H0 w L ι H nx) (s:Step w L ι H nx w' ι' H' nx'):StY w0 L0 ι0 H0 w' L ι' H' nx':=by
 refine⟨s.ext.os.trans h.os,s.ext.tape.trans h.tape,s.ext.output.trans h.output,Wf h.size s.ext.size,fun b hb h1 h2=>?_,fun r q g l hl=>s.inj _ _ _ _ (h.inj _ _ _ _ hl),s.rel,fun b hb=>?_,h.lg,h.ll⟩
 · rw[s.ext.block b (Wh hb h.size) (fun hl=>by rcases h.lv b hl with h3|h3;exact h1 h3;omega)];exact h.block b hb h1 h2
 ·
  rcases s.lv b hb with h1|h1
  · exact h.lv b h1
  · exact .inr (Wf h.size h1)
theorem StY.yield (h:StY w0 L0 ι0 H0 w L ι H nx) (e:Ext L w w'):StY w0 L0 ι0 H0 w' (zin L w w') ι H nx:=by
 refine⟨e.os.trans h.os,e.tape.trans h.tape,e.output.trans h.output,Wf h.size e.size,fun b hb h1 h2=>?_,h.inj,h.rel.yield e,h.lv,fun b hb=>?_,fun b hb=>.inl (h.ll b hb)⟩
 · rw[e.block b (Wh hb h.size) (fun hl=>by rcases h.lg b hl with h3|h3;exact h2 h3;omega)];exact h.block b hb h1 h2
 ·
  rcases hb with hb|hb
  · exact h.lg b hb
  · exact .inr (Wf h.size hb.1)
variable {nt n0:Nat} {J:σ→(Nat→Prop)→(Nat→Prop)→World→Prop} {Jx:(Nat→Prop)→(Nat→Prop)→World→Prop}
def jst (J:σ→(Nat→Prop)→(Nat→Prop)→World→Prop) (Jx:(Nat→Prop)→(Nat→Prop)→World→Prop):Option σ→(Nat→Prop)→(Nat→Prop)→World→Prop
 | some s=>J s
 | none=>Jx
def Oset (w0:World) (L:Nat→Prop) (w:World) (ι:Inj) (H:AH):Nat→Prop:=fun b=>live ι H b∨(w0.heap.size≤b∧¬L b∧∃d,w.heap[b]? = some (.deferred d))
theorem Oset.lt (rel:RelH w L ι H nx) {b:Nat} (h:Oset w0 L w ι H b):b < w.heap.size:=by
 rcases h with h | ⟨_,_,d,h⟩
 · exact rel.live_lt h
 · exact(Wj.1 h).1
structure InY (nt n0:Nat) (w0:World) (L0:Nat→Prop) (ι0:Inj) (H0:AH) (B:Nat) (J:σ→(Nat→Prop)→(Nat→Prop)→World→Prop) (Jx:(Nat→Prop)→(Nat→Prop)→World→Prop) (w:World) (L:Nat→Prop) (ι:Inj) (ρ:Nat→AV) (H:AH) (nx:Nat) (a:Act) (s:Option σ):Prop where
 size:a.tmps.size=nt
 hn0:n0≤w0.heap.size
 defers:zjN n0 w (Lt L ι H) a.defers
 st:StY w0 L0 ι0 H0 w L ι H nx
 le:B≤nx
 kn:KOk w (Lt L ι H) ι a.tmps ρ
 js:jst J Jx s L (Oset w0 L w ι H) w
abbrev QTY (σ:Type):=AExit→Kn→AH→Nat→Option σ→Prop
def QQY (nt n0:Nat) (w0:World) (L0:Nat→Prop) (ι0:Inj) (H0:AH) (B:Nat) (J:σ→(Nat→Prop)→(Nat→Prop)→World→Prop) (Jx:(Nat→Prop)→(Nat→Prop)→World→Prop) (Q:QTY σ):Exit→Act→World→Prop:=fun e a w =>
 ∃L ι K H nx s,InY nt n0 w0 L0 ι0 H0 B J Jx w L ι (Kn.get K) H nx a s∧match e with
  | .normal=>Q .normal K H nx s
  | .exit id=>Q (.exit id) K H nx s
  | .ret=>Q .ret K H nx s
  | .goto l=>Q (.goto l) K H nx s
  | _=>False
theorem InY.seg (hJ:∀s,Stab (J s)) (hJx:Stab Jx) {ρ ρ':Nat→AV} {a a':Act} {s:Option σ} (h:InY nt n0 w0 L0 ι0 H0 B J Jx w L ι ρ H nx a s) (i:In nt n0 w L ι H nx w' ι' ρ' H' nx' a'):InY nt n0 w0 L0 ι0 H0 B J Jx w' L ι' ρ' H' nx' a' s:=by
 refine⟨i.size,h.hn0,i.defers,h.st.step i.st,Wf h.le i.le,i.kn,?_⟩
 have h1:∀b,b < w.heap.size→¬Oset w0 L w ι H b→w'.heap[b]? = w.heap[b]? := fun b hb hn=>i.st.ext.block b hb (fun hl=>hn (.inl hl))
 have h2:∀b,Oset w0 L w' ι' H' b→Oset w0 L w ι H b∨w.heap.size≤b:=fun b hb=>by
  rcases hb with hb | ⟨hb1,hb2,d,hb3⟩
  · exact(i.st.lv b hb).imp .inl id
  ·
   rcases Wo b w.heap.size with hlt|hge
   ·
    by_cases hl:live ι H b
    · exact .inl (.inl hl)
    · exact .inl (.inr ⟨hb1,hb2,d,by rw[←i.st.ext.block b hlt hl];exact hb3⟩)
   · exact .inr hge
 cases s with
 | some s=>exact hJ s L _ _ w w' h.js h1 h2 (fun b hb=>hb.lt i.st.rel) i.st.ext.size i.st.ext.os i.st.ext.tape i.st.ext.output
 | none=>exact hJx L _ _ w w' h.js h1 h2 (fun b hb=>hb.lt i.st.rel) i.st.ext.size i.st.ext.os i.st.ext.tape i.st.ext.output
theorem InY.here {ρ:Nat→AV} {a:Act} {s:Option σ} (h:InY nt n0 w0 L0 ι0 H0 B J Jx w L ι ρ H nx a s):In nt n0 w L ι H nx w ι ρ H nx a:=⟨h.size,h.defers,.refl h.st.rel,Wc _,h.kn⟩
theorem InY.ent (hJ:∀s,Stab (J s)) (hJx:Stab Jx) (base:∀r q g l,ι0 r q g=some l→r < B) {K K2:Kn} {H2:AH} {nx2:Nat} {a:Act} {s:Option σ} (h:InY nt n0 w0 L0 ι0 H0 B J Jx w L ι K.get H nx a s) (he:Ent B K H nx K2 H2 nx2) :
  ∃ι2,InY nt n0 w0 L0 ι0 H0 B J Jx w L ι2 K2.get H2 nx2 a s:=by
 obtain⟨h1,h2⟩:=he;obtain⟨ι2,h3,h4,h5,h6⟩:=h2 w L ι a.tmps h.st.rel h.kn;refine⟨ι2,h.size,h.hn0,h.defers.less (fun b hb=>hb.imp id (h5 b)),⟨h.st.os,h.st.tape,h.st.output,h.st.size,h.st.block,fun r q g l hl=>h6 r q g l (base _ _ _ _ hl) (h.st.inj _ _ _ _ hl),h3,fun b hb=>h.st.lv b (h5 b hb),h.st.lg,h.st.ll⟩,h1,h4,?_⟩
 cases s with
 | some s=>exact hJ s L _ _ w w h.js (fun _ _ _=>rfl) (fun b hb=>.inl (hb.imp (h5 b) id)) (fun b hb=>hb.lt h3) (Wc _) rfl rfl rfl
 | none=>exact hJx L _ _ w w h.js (fun _ _ _=>rfl) (fun b hb=>.inl (hb.imp (h5 b) id)) (fun b hb=>hb.lt h3) (Wc _) rfl rfl rfl
theorem InY.wfK {K:Kn} {a:Act} {s:Option σ} (h:InY nt n0 w0 L0 ι0 H0 B J Jx w L ι K.get H nx a s):WfK K:=fun i=>(h.kn i).wf
theorem InY.drop {K:Kn} {a:Act} {s:Option σ} (h:InY nt n0 w0 L0 ι0 H0 B J Jx w L ι K.get H nx a s) (l:List Nat):InY nt n0 w0 L0 ι0 H0 B J Jx w L ι (K.drop l).get H nx a s:=by
 refine⟨h.size,h.hn0,h.defers,h.st,h.le,fun i=>?_,h.js⟩
 rcases Kn.get_drop K l i with h1|h1
 · rw[h1];exact .undef _ _
 · rw[h1];exact h.kn i
def WpY (P:Program) (nt n0:Nat) (w0:World) (L0:Nat→Prop) (ι0:Inj) (H0:AH) (B:Nat) (J:σ→(Nat→Prop)→(Nat→Prop)→World→Prop) (Jx:(Nat→Prop)→(Nat→Prop)→World→Prop) (c:Code) (Q:QTY σ) (K:Kn) (H:AH) (nx:Nat) (s:Option σ):Prop :=
 ∀(w:World) (L:Nat→Prop) (ι:Inj) (a:Act),InY nt n0 w0 L0 ι0 H0 B J Jx w L ι K.get H nx a s→c.wp P (QQY nt n0 w0 L0 ι0 H0 B J Jx Q) a w
variable {K:Kn} {s:Option σ} {Q:QTY σ}
theorem WpY.pure (hJ:∀s,Stab (J s)) (hJx:Stab Jx) {q:Nat→List Nat} {c:Code} (ac:ACode) (hc:comp P nt q c=some ac.strip) (h:awp P nx ac (fun e K H nx=>Q e K H nx s) K H nx):WpY P nt n0 w0 L0 ι0 H0 B J Jx c Q K H nx s:=by
 intro w L ι a hin
 refine wp_mono (zsv zpx hin.st.rel (Wf hin.hn0 hin.st.size) ac c hc _ w ι K H nx a hin.here h) fun e a' w' ⟨ι',K',H',nx',hin',hq⟩=>?_
 refine⟨L,ι',K',H',nx',s,hin.seg hJ hJx hin',?_⟩
 cases e<;>exact hq
theorem WpY.seq {c1 c2:Code} (h:WpY P nt n0 w0 L0 ι0 H0 B J Jx c1 (fun e K H nx s=>match e with | .normal=>WpY P nt n0 w0 L0 ι0 H0 B J Jx c2 Q K H nx s|e=>Q e K H nx s) K H nx s):WpY P nt n0 w0 L0 ι0 H0 B J Jx (.seq c1 c2) Q K H nx s:=by
 intro w L ι a hin;refine wp_seq (wp_mono (h w L ι a hin) fun e a' w' ⟨L',ι',K',H',nx',s',hin',hq⟩=>?_)
 cases e with
 | normal=>exact hq w' L' ι' a' hin'
 | exit id=>exact⟨L',ι',K',H',nx',s',hin',hq⟩
 | ret=>exact⟨L',ι',K',H',nx',s',hin',hq⟩
 | goto l=>exact⟨L',ι',K',H',nx',s',hin',hq⟩
 | _=>exact hq.elim
theorem WpY.cond {x:Operand} {y:AOpd} {t:Bool} {c1 c2:Code} (hx:copd x=some y) (hev:ev K.get y=.bool t) (h1:t=true→WpY P nt n0 w0 L0 ι0 H0 B J Jx c1 Q K H nx s) (h2:t=false→WpY P nt n0 w0 L0 ι0 H0 B J Jx c2 Q K H nx s) :
  WpY P nt n0 w0 L0 ι0 H0 B J Jx (.cond x c1 c2) Q K H nx s:=by
 intro w L ι a hin;have hv:=zl hin.kn hx;rw[hev] at hv;generalize hu:a.eval x=u at hv;cases hv
 cases t with
 | true=>exact wp_cond_true hu (h1 rfl w L ι a hin)
 | false=>exact wp_cond_false hu (h2 rfl w L ι a hin)
theorem WpY.block {id:Nat} {c:Code} (h:WpY P nt n0 w0 L0 ι0 H0 B J Jx c (fun e K H nx s=>match e with
   | .exit id'=>bif Wd id' id then Q .normal K H nx s else Q (.exit id') K H nx s
   | e=>Q e K H nx s) K H nx s):WpY P nt n0 w0 L0 ι0 H0 B J Jx (.block id c) Q K H nx s:=by
 intro w L ι a hin;refine wp_block (wp_mono (h w L ι a hin) fun e a' w' ⟨L',ι',K',H',nx',s',hin',hq⟩=>?_)
 cases e with
 | normal=>exact⟨L',ι',K',H',nx',s',hin',hq⟩
 |
  exit j =>
  simp only[Exit.inBlock];simp only at hq
  by_cases hj:j=id
  · subst hj;rw[if_pos rfl];rw[zB] at hq;exact⟨L',ι',K',H',nx',s',hin',hq⟩
  · rw[if_neg hj];rw[zH hj] at hq;exact⟨L',ι',K',H',nx',s',hin',hq⟩
 | ret=>exact⟨L',ι',K',H',nx',s',hin',hq⟩
 | goto l=>exact⟨L',ι',K',H',nx',s',hin',hq⟩
 | _=>exact hq.elim
theorem WpY.loop (hJ:∀s,Stab (J s)) (hJx:Stab Jx) (base:∀r q g l,ι0 r q g=some l→r < B) {c:Code} {α:Type} (S:α→Kn × AH × Option σ) (N:Nat) (inv:α→Prop) (μ:α→Nat) (x0:α) (h0:inv x0) (he:Ent B K H nx (S x0).1 (S x0).2.1 N) (hs:s=(S x0).2.2)
  (hr:∀x,inv x→WfK (S x).1→WpY P nt n0 w0 L0 ι0 H0 B J Jx c (fun e K H nx s=>match e with
   | .normal=>∃x',inv x'∧μ x' < μ x∧Ent B K H nx (S x').1 (S x').2.1 N∧s=(S x').2.2
   | e=>Q e K H nx s) (S x).1 (S x).2.1 N (S x).2.2):WpY P nt n0 w0 L0 ι0 H0 B J Jx (.loop c) Q K H nx s:=by
 intro w L ι a hin;obtain⟨ι1,hin1⟩:=hin.ent hJ hJx base he;subst hs;refine wp_loop_ghost (fun n a w=>∃x L ι,inv x∧μ x=n∧InY nt n0 w0 L0 ι0 H0 B J Jx w L ι (Kn.get (S x).1) (S x).2.1 N a (S x).2.2) (μ x0) ⟨x0,L,ι1,h0,rfl,hin1⟩ ?_;rintro n a' w' ⟨x,L',ι',hx,rfl,hin'⟩
 refine wp_mono (hr x hx hin'.wfK w' L' ι' a' hin') fun e a2 w2 ⟨L2,ι2,K2,H2,nx2,s2,hin2,hq⟩=>?_
 cases e with
 |
  normal =>
  obtain⟨x',hx',hlt,he,rfl⟩:=hq;obtain⟨ι3,hin3⟩:=hin2.ent hJ hJx base he;exact⟨_,hlt,x',L2,ι3,hx',rfl,hin3⟩
 | exit id=>exact⟨L2,ι2,K2,H2,nx2,s2,hin2,hq⟩
 | ret=>exact⟨L2,ι2,K2,H2,nx2,s2,hin2,hq⟩
 | goto l=>exact⟨L2,ι2,K2,H2,nx2,s2,hin2,hq⟩
 | _=>exact hq.elim
end
section
variable {σ:Type} {P:Program} {w0 w w':World} {L0 L:Nat→Prop} {ι0 ι:Inj} {H0 H:AH} {nx B nt n0:Nat} {J:σ→(Nat→Prop)→(Nat→Prop)→World→Prop} {Jx:(Nat→Prop)→(Nat→Prop)→World→Prop} {K:Kn} {s:Option σ} {Q:QTY σ}
theorem zpa {a:Act} {o:Oper} {c:Call} {x:Operand} {l:Nat} (ho:o.op=.call c) (hc:c.callee=.value x) (hx:a.eval x=.func (.yield l) #[] #[]) :
  (execOp a.eval o).run P w=(Instr.yield l (c.args.map a.eval)).run P w:=by
 simp[execOp,ho,resolve,hc,hx,Deferred.ofValue,Sem.run_bind,invoke]
def WpYL (P:Program) (nt n0:Nat) (w0:World) (L0:Nat→Prop) (ι0:Inj) (H0:AH) (B:Nat) (J:σ→(Nat→Prop)→(Nat→Prop)→World→Prop) (Jx:(Nat→Prop)→(Nat→Prop)→World→Prop) (ops:Array Oper) (l:List Oper) (Q:QTY σ) (K:Kn) (H:AH) (nx:Nat) (s:Option σ):Prop :=
 ∀(w:World) (L:Nat→Prop) (ι:Inj) (a:Act),InY nt n0 w0 L0 ι0 H0 B J Jx w L ι K.get H nx a s→wpListIn Fence.wide 1 P ops (QQY nt n0 w0 L0 ι0 H0 B J Jx Q) l a w
theorem WpY.region {id:Nat} {ops:Array Oper} (h:WpYL P nt n0 w0 L0 ι0 H0 B J Jx ops ops.toList Q K H nx s):WpY P nt n0 w0 L0 ι0 H0 B J Jx (.region id ops false) Q K H nx s :=
 fun w L ι a hin=>wpIn_wide.1 (wpIn_region_list (h w L ι a hin))
theorem WpYL.nil {ops:Array Oper} (drop:List Nat) (h:Q .normal (K.drop drop) H nx s):WpYL P nt n0 w0 L0 ι0 H0 B J Jx ops [] Q K H nx s :=
 fun w L ι a hin=>⟨L,ι,K.drop drop,H,nx,s,hin.drop drop,h⟩
theorem WpYL.op (hJ:∀s,Stab (J s)) (hJx:Stab Jx) {ops:Array Oper} {o:Oper} {l:List Oper} (ao:AOper) (hr:OpRel P nt ops o ao)
  (h:ExK P true ao K H nx (fun K' H' nx'=>WpYL P nt n0 w0 L0 ι0 H0 B J Jx ops l Q K' H' nx' s)):WpYL P nt n0 w0 L0 ι0 H0 B J Jx ops (o::l) Q K H nx s:=by
 intro w L ι a hin;have hex:=zqO (k':=fun ρ H nx=>∃K',Kn.get K'=ρ∧WpYL P nt n0 w0 L0 ι0 H0 B J Jx ops l Q K' H nx s) (fun K H nx hh=>⟨K,rfl,hh⟩) h
 have:=zoc hr hin.here hex (Kc:=wpListIn Fence.wide 1 P ops (QQY nt n0 w0 L0 ι0 H0 B J Jx Q) l) (Qc:=QQY nt n0 w0 L0 ι0 H0 B J Jx Q) (fun w' ι' ρ' H' nx' a' hin' ⟨K',hK',hh⟩=>by
  subst hK'
  exact hh w' L ι' a' (hin.seg hJ hJx hin'))
 unfold wpListIn;split
 · rename_i hw;rw[if_pos hw] at this;exact zuc (.inl rfl) (.inl rfl) this
 · rename_i hw;rw[if_neg hw] at this;exact⟨fun _ _=>trivial,this⟩
theorem InY.put {ρ:Nat→AV} {a:Act} {s s':Option σ} {d:Option Nat} (hd:zrG nt d=true) (h:InY nt n0 w0 L0 ι0 H0 B J Jx w L ι ρ H nx a s) (e:Ext L w w') (hJ:∀s,Stab (J s)) (hJx:Stab Jx) (hj:jst J Jx s' (zin L w w') (Oset w0 L w ι H) w') (b:Bool) :
  InY nt n0 w0 L0 ι0 H0 B J Jx w' (zin L w w') ι (upd ρ d (.bool b)) H nx (a.put d (.bool b)) s':=by
 have h2:∀b,Oset w0 (zin L w w') w' ι H b→Oset w0 L w ι H b:=fun b hb=>by
  rcases hb with hb | ⟨hb1,hb2,d,hb3⟩
  · exact .inl hb
  ·
   have hlt':=(Wj.1 hb3).1
   have hlt:b < w.heap.size:=by
    rcases Wo b w.heap.size with h1|h1
    · exact h1
    · exact absurd (.inr ⟨h1,hlt'⟩) hb2
   have hnl:¬L b:=fun hl=>hb2 (.inl hl)
   exact .inr ⟨hb1,hnl,d,by rw[←e.block b hlt hnl];exact hb3⟩
 replace hj:jst J Jx s' (zin L w w') (Oset w0 (zin L w w') w' ι H) w':=by
  have rel':=h.st.rel.yield e
  cases s' with
  | some s'=>exact hJ s' _ _ _ w' w' hj (fun _ _ _=>rfl) (fun b hb=>.inl (h2 b hb)) (fun b hb=>hb.lt rel') (Wc _) rfl rfl rfl
  | none=>exact hJx _ _ _ w' w' hj (fun _ _ _=>rfl) (fun b hb=>.inl (h2 b hb)) (fun b hb=>hb.lt rel') (Wc _) rfl rfl rfl
 cases d with
 | none=>exact⟨h.size,h.hn0,h.defers.yield h.st.rel e,h.st.yield e,h.le,fun i=>zla h.st.rel e (h.kn i),hj⟩
 |
  some d =>
  have hd':d < a.tmps.size:=by rw[h.size];simpa [zrG] using hd
  refine⟨by simp[Act.put,h.size],h.hn0,h.defers.yield h.st.rel e,h.st.yield e,h.le,fun i=>?_,hj⟩;show VR w' (Lt (zin L w w') ι H) ι ((a.tmps.setIfInBounds d (.bool b)).getD i undef) (if i=d then .bool b else ρ i);rw[zqC hd'];split
  · exact .bool _ _
  · exact zla h.st.rel e (h.kn i)
theorem VRs.plain {L':Nat→Prop} (hL:∀b,L' b→L b∨zjd w b):∀ {vs:List Value} {xs:List AV},VRs w L ι vs xs→(∀x∈xs,AV.Below 0 x)→VRs w L' noI vs xs
 | [],[],_,_=>.nil
 | v::vs,x::xs,.cons h1 h2,hb=>.cons (by
   have h3:=(h1.more hL).upto (hb x (by simp))
   have e:ι.upto 0=noI:=by funext r q g;simp[Inj.upto,Ab.noI]
   rw[e] at h3
   exact h3) (VRs.plain hL h2 (fun y hy=>hb y (List.mem_cons_of_mem _ hy)))
theorem WpYL.yield (hJ:∀s,Stab (J s)) (hJx:Stab Jx) {lp:Nat} {next:σ→Option (List AV × σ)} (hY:YOk P lp next J Jx) {ok:σ→Prop} (hok:∀s L O w,J s L O w→ok s) {ops:Array Oper} {o:Oper} {l:List Oper} {c:Call} {t:Nat} {xs:List AOpd} {s s':σ} (ho:o.op=.call c) (hc:c.callee=.value (.tmp t)) (hg:o.guard=none) (hd:zrG nt o.dst=true)
  (hx:c.args.toList.mapM copd=some xs) (hf:K.get t=.fn (.yield lp) []) (hn:next s=some (evs K.get xs,s')) (hb:∀x∈evs K.get xs,AV.Below 0 x)
  (h1:ok s'→WpYL P nt n0 w0 L0 ι0 H0 B J Jx ops l Q (setO K o.dst (.bool true)) H nx (some s')) (h2:WpYL P nt n0 w0 L0 ι0 H0 B J Jx ops l Q (setO K o.dst (.bool false)) H nx none) :
  WpYL P nt n0 w0 L0 ι0 H0 B J Jx ops (o::l) Q K H nx (some s):=by
 intro w L ι a hin;have hv:VR w (Lt L ι H) ι (a.eval (.tmp t)) (K.get t):=hin.kn t;rw[hf] at hv
 have hval:a.eval (.tmp t)=.func (.yield lp) #[] #[]:=by
  generalize a.eval (.tmp t)=v at hv
  cases hv with
  |
   fn _ _ cs _ hs _ =>
   have:cs=#[]:=by simpa using hs
   rw[this]
 have hvs:=(zjB hin.kn hx)
 have hy:=hY s (evs K.get xs) s' L (Oset w0 L w ι H) w (c.args.map a.eval) hn hin.js hin.st.rel.Lsz (fun b hb=>⟨hb.lt hin.st.rel,by rcases hb with hb|hb;exact hin.st.rel.out b hb;exact hb.2.1⟩) (by
  rw[Array.toList_map]
  exact VRs.plain (fun b hb=>by
   rcases hb with hb|hb | ⟨_,_,d,hb⟩
   · exact .inl (.inl hb)
   · exact .inl (.inr hb)
   · exact .inr (fun c e f hc=>by rw[hb] at hc;cases hc)) hvs hb)
 obtain⟨fn,tmps,assign,body,hrun,hround⟩:=hy;unfold wpListIn
 have hw:Region.wanted o (yielded ops a.tmps)=true:=by simp[Region.wanted,hg]
 rw[if_pos hw];refine⟨fun _ _=>trivial,?_⟩;have he:o.semAt Fence.wide.round a.eval=execOp a.eval o:=rfl;rw[he,zpa ho hc hval,hrun];refine⟨fun _=>Wc _,hround.mono fun e w' ⟨hext,hres⟩=>?_⟩
 rcases hres with ⟨rfl,hj⟩ | ⟨rfl,hj⟩
 ·
  have:=h1 (hok _ _ _ _ hj) w' (zin L w w') ι (a.put o.dst (.bool true)) (by
   rw[znd]
   exact hin.put hd hext (s':=some s') hJ hJx hj true)
  exact this
 ·
  have:=h2 w' (zin L w w') ι (a.put o.dst (.bool false)) (by
   rw[znd]
   exact hin.put hd hext (s':=none) hJ hJx hj false)
  exact this
theorem it_ok {f:FuncId} {fn:Func} {c:Code} {caps:List AV} {next:σ→Option (List AV × σ)} {ok:σ→Prop} {s0:σ} {Qf:Option σ→AH→Nat→Prop}
  (hf:P.funcs[f]? = some fn) (hb:fn.body=some c) (hr:fn.results.toList.mapM (cret P)=some []) (hn:caps.length+1≤fn.ntmps)
  (h:∀(l:Nat) (w0:World) (L0:Nat→Prop) (ι0:Inj) (J:σ→(Nat→Prop)→(Nat→Prop)→World→Prop) (Jx:(Nat→Prop)→(Nat→Prop)→World→Prop),(∀r q g l,ι0 r q g=some l→r < nx)→(∀s,Stab (J s))→Stab Jx→YOk P l next J Jx→(∀s L O w,J s L O w→ok s) →
   WpY P fn.ntmps w0.heap.size w0 L0 ι0 H nx J Jx c (fun e _ H' nx' s=>match e with
    | .exit _=>False
    | .goto _=>False
    | _=>Qf s H' nx') (ziT 0 (.fn (.yield l) []::caps)) H nx (some s0)):ItOk P f caps H nx next ok s0 Qf:=by
 intro w L ι vc l J Jx hJ hJx hY hok rel hv hj
 have hlen:vc.size=caps.length:=by simpa using hv.length
 refine zmK hf hb ?_
 have hvs:VRs w (Lt L ι H) ι (#[Value.func (.yield l) #[] #[]]++vc).toList (.fn (.yield l) []::caps):=by rw[Array.toList_append];exact .cons (.fn _ _ _ _ rfl (fun i v a h=>by simp at h)) hv
 have hsz:(#[Value.func (.yield l) #[] #[]]++vc).size=caps.length+1:=by simp[hlen,Nat.add_comm]
 generalize #[Value.func (.yield l) #[] #[]]++vc=vs at hvs hsz
 have hin:InY fn.ntmps w.heap.size w L ι H nx J Jx w L ι (ziT 0 (.fn (.yield l) []::caps)).get H nx { tmps:=vs++Array.replicate (fn.ntmps - vs.size) undef,defers:=[] } (some s0):=by
  refine⟨by simp;omega,Wc _,.nil,.refl rel,Wc _,fun i=>?_,hJ s0 L _ _ w w hj (fun _ _ _=>rfl) (fun b hb=>.inl (by
   rcases hb with hb | ⟨hb,_,d,h⟩
   · exact hb
   · have:=(Wj.1 h).1;omega)) (fun b hb=>hb.lt rel) (Wc _) rfl rfl rfl⟩
  rw[zoF,if_pos (Wk _),Nat.sub_zero]
  rcases Wo i (caps.length+1) with hi|hi
  ·
   have h1:i < vs.size:=by omega
   refine hvs.get i _ _ ?_ (by simp[List.getD,Wi (show i < (AV.fn (.yield l) []::caps).length by simpa using hi)]);simp[Array.getD_eq_getD_getElem?,Array.getElem?_append,h1]
  · rw[show (AV.fn (.yield l) []::caps).getD i .undef=.undef by simp[List.getD,List.getElem?_eq_none (show (AV.fn (.yield l) []::caps).length≤i by simpa using hi)]];exact .undef _ _
 refine wp_mono (h l w L ι J Jx rel.idx hJ hJx hY hok w L ι _ hin) fun e a' w' ⟨L',ι',K,H',nx',s,hin',hq⟩=>?_
 have fin:Qf s H' nx'→∃ms,a'.defers=ms.map znC∧ms.Nodup∧(∀m∈ms,w'.heap[m]? = some (.deferred (some [])))∧∃v,(results fn a'.tmps).run P (shut ms w')=.ok v (shut ms w') ∧
   ∃v_1 L' ι' H' nx',Ending.returned v=.returned v_1∧StY w L ι H (shut ms w') L' ι' H' nx'∧nx≤nx'∧((∃s,J s L' (live ι' H') (shut ms w')∧Qf (some s) H' nx')∨(Jx L' (live ι' H') (shut ms w')∧Qf none H' nx')):=by
  intro h2;obtain⟨ms,m1,m2,m3⟩:=hin'.defers;refine⟨ms,m1,m2,fun m hm=>(m3 m hm).2.1,?_⟩
  have hD:∀b,b∈ms→zjd w' b∧b < w'.heap.size∧¬live ι' H' b:=fun b hb=>by obtain⟨h4,h5,h6⟩:=m3 b hb;exact⟨fun c e f hc=>(by rw[h5] at hc;cases hc),(Wj.1 h5).1,fun hl=>h6 (.inr hl)⟩
  have he:=zq1 ms w';obtain⟨hrel,hvr⟩:=hin'.st.rel.turn hD he;have st:=hin'.st
  have st2:StY w L ι H (shut ms w') L' ι' H' nx':=by refine⟨he.os.trans st.os,he.tape.trans st.tape,he.output.trans st.output,Wf st.size he.size,fun b hb h1 h2=>?_,st.inj,hrel,st.lv,st.lg,st.ll⟩;rw[he.block b (Wh hb st.size) (fun hm=>by have:=(m3 b hm).1;omega)];exact st.block b hb h1 h2
  have k1:∀b,b < w'.heap.size→¬Oset w L' w' ι' H' b→(shut ms w').heap[b]? = w'.heap[b]? := fun b hb hn=>he.block b hb (fun hm=>hn (.inr ⟨(m3 b hm).1,fun hl=>(m3 b hm).2.2 (.inl hl),_,(m3 b hm).2.1⟩))
  obtain⟨us,h3,h4⟩:=zuY hrel (fun i=>hvr _ _ (hin'.kn i)) _ _ hr trivial;obtain⟨v,h5,_⟩:=zpD h3 h4;refine⟨v,h5,v,L',ι',H',nx',rfl,st2,hin'.le,?_⟩;have hjs:=hin'.js
  cases s with
  | some s=>exact .inl ⟨s,hJ s L' _ _ w' _ hjs k1 (fun b hb=>.inl (.inl hb)) (fun b hb=>hrel.live_lt hb) he.size he.os he.tape he.output,h2⟩
  | none=>exact .inr ⟨hJx L' _ _ w' _ hjs k1 (fun b hb=>.inl (.inl hb)) (fun b hb=>hrel.live_lt hb) he.size he.os he.tape he.output,h2⟩
 cases e with
 | normal=>exact⟨.inl rfl,fin hq⟩
 | ret=>exact⟨.inr rfl,fin hq⟩
 | exit id=>exact hq.elim
 | _=>exact hq.elim
end
structure YE (P:Program) (nt:Nat) (q:Nat→List Nat) {σ:Type} (next:σ→Option (List AV × σ)) (ok:σ→Prop) where
 n0:Nat
 w0:World
 L0:Nat→Prop
 ι0:Inj
 H0:AH
 B:Nat
 J:σ→(Nat→Prop)→(Nat→Prop)→World→Prop
 Jx:(Nat→Prop)→(Nat→Prop)→World→Prop
 lp:Nat
 hJ:∀s,Stab (J s)
 hJx:Stab Jx
 base:∀r q g l,ι0 r q g=some l→r < B
 hY:YOk P lp next J Jx
 hok:∀s L O w,J s L O w→ok s
section
variable {σ:Type} {P:Program} {nt:Nat} {q:Nat→List Nat} {next:σ→Option (List AV × σ)} {ok:σ→Prop} (E:YE P nt q next ok)
def WpA (ac:ACode) (Q:QTY σ) (K:Kn) (H:AH) (nx:Nat) (s:Option σ):Prop:=∀c,comp P nt q c=some ac.strip→WpY P nt E.n0 E.w0 E.L0 E.ι0 E.H0 E.B E.J E.Jx c Q K H nx s
def WpAL (asv:List AOper) (drop:List Nat) (Q:QTY σ) (K:Kn) (H:AH) (nx:Nat) (s:Option σ):Prop :=
 ∀(ops:Array Oper) (l:List Oper),asv.length=l.length→(∀(i:Nat) (o:Oper) (ao:AOper),l[i]? = some o→asv[i]? = some ao→OpRel P nt ops o ao)→WpYL P nt E.n0 E.w0 E.L0 E.ι0 E.H0 E.B E.J E.Jx ops l Q K H nx s
variable {E} {K:Kn} {H:AH} {nx:Nat} {s:Option σ} {Q:QTY σ}
theorem WpA.pure {ac:ACode} (h:wpX P nx ac (fun e K H nx=>Q e K H nx s) K H nx):WpA E ac Q K H nx s:=fun _ hc=>WpY.pure E.hJ E.hJx ac hc h
def seqY (E:YE P nt q next ok) (b:ACode) (Q:QTY σ):QTY σ:=fun e K H nx s=>match e with
 | .normal=>WpA E b Q K H nx s
 | e=>Q e K H nx s
def zyO (id:Nat) (Q:QTY σ):QTY σ:=fun e K H nx s=>match e with
 | .exit id'=>bif Wd id' id then Q .normal K H nx s else Q (.exit id') K H nx s
 | e=>Q e K H nx s
def loopY {α:Type} (B:Nat) (S:α→Kn × AH × Option σ) (N:Nat) (inv:α→Prop) (μ:α→Nat) (x:α) (Q:QTY σ):QTY σ:=fun e K H nx s=>match e with
 | .normal=>∃x',inv x'∧μ x' < μ x∧Ent B K H nx (S x').1 (S x').2.1 N∧s=(S x').2.2
 | e=>Q e K H nx s
theorem WpA.seq {a b:ACode} (h:WpA E a (seqY E b Q) K H nx s):WpA E (.seq a b) Q K H nx s:=by
 intro c hc
 cases c with
 |
  seq c1 c2 =>
  simp only[comp,ACode.strip,Wl,Wa,Wg] at hc;obtain⟨x',hx,y',hy,he⟩:=hc;cases he
  refine WpY.seq fun w L ι a' hin=>wp_mono (h c1 hx w L ι a' hin) fun e a2 w2 ⟨L',ι',K',H',nx',s',hin',hq⟩=>⟨L',ι',K',H',nx',s',hin',?_⟩
  cases e with
  | normal=>exact hq c2 hy
  | exit id=>exact hq
  | ret=>exact hq
  | goto l=>exact hq
  | _=>exact hq
 |
  scope c1 =>
  exfalso;simp only[comp,ACode.strip,Wa] at hc;obtain⟨x',hx,he⟩:=hc;exact(zaj he).elim
 | region id ops draw=>simp only[comp,ACode.strip] at hc;(repeat' split at hc)<;>simp at hc
 | rangeFunc g0 ps0 cA cB=>simp only[comp,ACode.strip] at hc;split at hc<;>simp[Wa] at hc
 | _=>simp[comp,ACode.strip,Wa] at hc
theorem WpA.cond {x:AOpd} {t:Bool} {a b:ACode} (hev:ev K.get x=.bool t) (h1:t=true→WpA E a Q K H nx s) (h2:t=false→WpA E b Q K H nx s):WpA E (.cond x a b) Q K H nx s:=by
 intro c hc
 cases c with
 |
  cond x1 c1 c2 =>
  simp only[comp,ACode.strip,Wl,Wa,Wg] at hc;obtain⟨x',hx,y',hy,z',hz,he⟩:=hc;cases he;exact WpY.cond hx hev (fun e=>h1 e c1 hy) (fun e=>h2 e c2 hz)
 |
  scope c1 =>
  exfalso;simp only[comp,ACode.strip,Wa] at hc;obtain⟨x',hx,he⟩:=hc;exact(zaj he).elim
 | region id ops draw=>simp only[comp,ACode.strip] at hc;(repeat' split at hc)<;>simp at hc
 | rangeFunc g0 ps0 cA cB=>simp only[comp,ACode.strip] at hc;split at hc<;>simp[Wa] at hc
 | _=>simp[comp,ACode.strip,Wa] at hc
theorem WpA.block {id:Nat} {a:ACode} (h:WpA E a (zyO id Q) K H nx s):WpA E (.block id a) Q K H nx s:=by
 intro c hc
 cases c with
 |
  block id1 c1 =>
  simp only[comp,ACode.strip,Wl,Wa,Wg] at hc;obtain⟨x',hx,he⟩:=hc;cases he
  refine WpY.block fun w L ι a' hin=>wp_mono (h c1 hx w L ι a' hin) fun e a2 w2 ⟨L',ι',K',H',nx',s',hin',hq⟩=>⟨L',ι',K',H',nx',s',hin',?_⟩
  cases e<;>exact hq
 |
  scope c1 =>
  exfalso;simp only[comp,ACode.strip,Wa] at hc;obtain⟨x',hx,he⟩:=hc;exact(zaj he).elim
 | region id ops draw=>simp only[comp,ACode.strip] at hc;(repeat' split at hc)<;>simp at hc
 | rangeFunc g0 ps0 cA cB=>simp only[comp,ACode.strip] at hc;split at hc<;>simp[Wa] at hc
 | _=>simp[comp,ACode.strip,Wa] at hc
theorem WpA.loop {a:ACode} {α:Type} (S:α→Kn × AH × Option σ) (N:Nat) (inv:α→Prop) (μ:α→Nat) (x0:α) (h0:inv x0) (he:Ent E.B K H nx (S x0).1 (S x0).2.1 N) (hs:s=(S x0).2.2)
  (hr:∀x,inv x→WfK (S x).1→WpA E a (loopY E.B S N inv μ x Q) (S x).1 (S x).2.1 N (S x).2.2):WpA E (.loop a) Q K H nx s:=by
 intro c hc
 cases c with
 |
  loop c1 =>
  simp only[comp,ACode.strip,Wl,Wa,Wg] at hc;obtain⟨x',hx,hee⟩:=hc;cases hee
  refine WpY.loop E.hJ E.hJx E.base S N inv μ x0 h0 he hs fun x hi hw w L ι a' hin=>wp_mono (hr x hi hw c1 hx w L ι a' hin) fun e a2 w2 ⟨L',ι',K',H',nx',s',hin',hq⟩=>⟨L',ι',K',H',nx',s',hin',?_⟩
  cases e<;>exact hq
 |
  scope c1 =>
  exfalso;simp only[comp,ACode.strip,Wa] at hc;obtain⟨x',hx,he⟩:=hc;exact(zaj he).elim
 | region id ops draw=>simp only[comp,ACode.strip] at hc;(repeat' split at hc)<;>simp at hc
 | rangeFunc g0 ps0 cA cB=>simp only[comp,ACode.strip] at hc;split at hc<;>simp[Wa] at hc
 | _=>simp[comp,ACode.strip,Wa] at hc
theorem WpA.region {os:List AOper} {drop:List Nat} (h:WpAL E os drop Q K H nx s):WpA E (.region os drop) Q K H nx s:=by
 intro c hc
 cases c with
 |
  region id ops draw =>
  simp only[comp,ACode.strip] at hc;split at hc
  ·
   rename_i as' hm
   cases draw with
   |
    false =>
    simp only[Bool.false_eq_true,if_false,Wg,ACode.region.injEq,and_true] at hc;subst hc;obtain⟨h1,h2⟩:=zq5 hm;refine WpY.region (h ops ops.toList (by rw[List.length_map,h1]) fun i o ao h3 h4=>?_);rw[List.getElem?_map] at h4;obtain⟨b0,h40,rfl⟩:=Wp.1 h4;exact(h2 i o _ h3 h40).ro
   |
    true =>
    simp only[if_true] at hc
    split at hc<;>cases hc
  · cases hc
 |
  scope c1 =>
  exfalso;simp only[comp,ACode.strip,Wa] at hc;obtain⟨x',hx,he⟩:=hc;exact(zaj he).elim
 | rangeFunc g0 ps0 cA cB=>simp only[comp,ACode.strip] at hc;split at hc<;>simp[Wa] at hc
 | _=>simp[comp,ACode.strip,Wa] at hc
theorem WpAL.nil {drop:List Nat} (h:Q .normal (K.drop drop) H nx s):WpAL E [] drop Q K H nx s:=by intro ops l hl _;have:l=[]:=List.eq_nil_of_length_eq_zero hl.symm;subst this;exact WpYL.nil drop h
theorem WpAL.op {ao:AOper} {asv:List AOper} {drop:List Nat} (h:ExK P true ao K H nx (fun K' H' nx'=>WpAL E asv drop Q K' H' nx' s)):WpAL E (ao::asv) drop Q K H nx s:=by
 intro ops l hl hr
 cases l with
 | nil=>cases hl
 |
  cons o l =>
  refine WpYL.op E.hJ E.hJx ao (hr 0 o ao rfl rfl) ?_;refine zuM ?_ h
  exact fun K' H' nx' hh=>hh ops l (by simpa using hl) fun i o ao h1 h2=>hr (i+1) o ao (by simpa using h1) (by simpa using h2)
theorem OpRel.callv {ops:Array Oper} {o:Oper} {d:Option Nat} {x:AOpd} {xs:List AOpd} (h:OpRel P nt ops o ⟨d,.callv x xs,none⟩) :
  ∃c t,o.op=.call c∧c.callee=.value (.tmp t)∧c.args.toList.mapM copd=some xs∧x=.t t∧o.guard=none∧o.dst=d∧zrG nt d=true:=by
 obtain⟨op0,h1,h2⟩:=h.op
 have h3:op0=.callv x xs:=by
  rcases h2 with h2 | ⟨_,_,_,h2⟩ | ⟨_,_,h2⟩ | ⟨_,_,_,_,_,h2⟩ | ⟨_,_,_,_,_,h2⟩
  · exact h2.symm
  · cases h2
  · cases h2
  · cases h2
  · cases h2
 subst h3;obtain⟨c,t,h4,h5,h6,h7⟩:=zr4 h1;refine⟨c,t,h4,h5,h6,h7,?_,h.dst.symm,by have e1:=h.dst;have e2:=h.ok;rw[←e1] at e2;exact e2⟩;have:=h.guard;split at this
 · assumption
 · obtain⟨_,_,h8⟩:=this;cases h8
theorem WpAL.yield {asv:List AOper} {drop:List Nat} {d:Option Nat} {t:Nat} {xs:List AOpd} {s s':σ} (hf:K.get t=.fn (.yield E.lp) []) (hn:next s=some (evs K.get xs,s')) (hb:∀x∈evs K.get xs,AV.Below 0 x)
  (h1:ok s'→WpAL E asv drop Q (setO K d (.bool true)) H nx (some s')) (h2:WpAL E asv drop Q (setO K d (.bool false)) H nx none):WpAL E (⟨d,.callv (.t t) xs,none⟩::asv) drop Q K H nx (some s):=by
 intro ops l hl hr
 cases l with
 | nil=>cases hl
 |
  cons o l =>
  obtain⟨c,t',h3,h4,h5,h6,h7,h8,h9⟩:=(hr 0 o _ rfl rfl).callv;cases h6;subst h8
  have hl':asv.length=l.length:=by simpa using hl
  have hr':∀(i:Nat) (o:Oper) (ao:AOper),l[i]? = some o→asv[i]? = some ao→OpRel P nt ops o ao:=fun i o ao h1 h2=>hr (i+1) o ao (by simpa using h1) (by simpa using h2)
  exact WpYL.yield E.hJ E.hJx E.hY E.hok h3 h4 h7 h9 h5 hf hn hb (fun hk=>h1 hk ops l hl' hr') (h2 ops l hl' hr')
def retY (Qf:Option σ→AH→Nat→Prop):QTY σ:=fun e _ H nx s=>match e with
 | .exit _=>False
 | .goto _=>False
 | _=>Qf s H nx
theorem zaf {b:ACode}:seqY E b Q .normal K H nx s=WpA E b Q K H nx s:=rfl
theorem zbb {id:Nat}:zyO id Q .normal K H nx s=Q .normal K H nx s:=rfl
theorem zn5 {id id':Nat}:zyO id Q (.exit id') K H nx s=bif Wd id' id then Q .normal K H nx s else Q (.exit id') K H nx s:=rfl
theorem zb2 {α:Type} {B:Nat} {S:α→Kn × AH × Option σ} {N:Nat} {inv:α→Prop} {μ:α→Nat} {x:α}:loopY B S N inv μ x Q .normal K H nx s=∃x',inv x'∧μ x' < μ x∧Ent B K H nx (S x').1 (S x').2.1 N∧s=(S x').2.2:=rfl
theorem zuq {f:FuncId} {ac:ACode} {rs:List ARet} (hc:zT P f q=some (ac.strip,rs,nt)) (hrs:rs=[]) {caps:List AV} {s0:σ} {Qf:Option σ→AH→Nat→Prop} (hn:Nat.ble (caps.length+1) nt=true)
  (h:∀E:YE P nt q next ok,E.B=nx→WpA E ac (retY Qf) (ziT 0 (.fn (.yield E.lp) []::caps)) H nx (some s0)):ItOk P f caps H nx next ok s0 Qf:=by
 subst hrs;unfold zT at hc;split at hc
 ·
  rename_i fn hf;split at hc
  ·
   rename_i c hb;split at hc
   ·
    rename_i a r h1 h2;cases hc
    refine it_ok hf hb h2 (Nat.le_of_ble_eq_true hn) fun l w0 L0 ι0 J Jx base hJ hJx hY hok w L ι a' hin=>?_
    let E:YE P fn.ntmps q next ok:=⟨w0.heap.size,w0,L0,ι0,H,nx,J,Jx,l,hJ,hJx,base,hY,hok⟩
    refine wp_mono (h E rfl c h1 w L ι a' hin) fun e a2 w2 ⟨L',ι',K',H',nx',s',hin',hq⟩=>⟨L',ι',K',H',nx',s',hin',?_⟩
    cases e<;>exact hq
   · cases hc
  · cases hc
 · cases hc
end
section
variable {σ:Type} {P:Program} {nt:Nat} {q:Nat→List Nat} {next:σ→Option (List AV × σ)} {ok:σ→Prop} {E:YE P nt q next ok} {K:Kn} {H:AH} {nx:Nat} {s:Option σ} {Q:QTY σ}
def preQ (E:YE P nt q next ok) (post:List AOper) (drop:List Nat) (Q:QTY σ) (s:Option σ):QT:=fun e K H nx=>match e with
 | .normal=>WpAL E post drop Q K H nx s
 | _=>False
theorem zk5 {post:List AOper} {drop:List Nat}:preQ E post drop Q s .normal K H nx=WpAL E post drop Q K H nx s:=rfl
theorem zsn:∀K:Kn,Kn.drop K []=K
 | []=>rfl
 |
  (j,v)::t=>by
  simp only[Kn.drop,memN,cond_false];rw[zsn t]
theorem WpAL.pre0 {post:List AOper} {drop:List Nat}:∀(pre:List AOper) {K:Kn} {H:AH} {nx:Nat},aops P pre [] (preQ E post drop Q s) K H nx→WpAL E (pre++post) drop Q K H nx s
 |
  [],K,H,nx,h=>by
  have h:WpAL E post drop Q (K.drop []) H nx s:=h;rw[zsn] at h;exact h
 |
  o::os,K,H,nx,h=>by
  rw[List.cons_append];refine WpAL.op (zuM ?_ h)
  exact fun K' H' nx' hh=>WpAL.pre0 os hh
theorem WpAL.pre {post:List AOper} {drop:List Nat} {pre:List AOper} {asv:List AOper} (he:asv=pre++post) (h:wpX P 0 (.region pre []) (preQ E post drop Q s) K H nx):WpAL E asv drop Q K H nx s:=by subst he;exact WpAL.pre0 pre h
end
def oN (d:Nat) (a:AOp):AOper:=⟨some d,a,none⟩
def oG (d t:Nat) (b:Bool) (a:AOp):AOper:=⟨some d,a,some (t,b)⟩
def oM (d s:Nat):AOper:=⟨some d,.mov (.t s),none⟩
def oK (d:Nat) (k:Int):AOper:=⟨some d,.mov (.c (.int .i64 k)),none⟩
def oL (d s:Nat):AOper:=⟨some d,.load false 1 (.t s),none⟩
def oA (d n s:Nat):AOper:=⟨some d,.load true n (.t s),none⟩
def oF (d f n s:Nat):AOper:=⟨some d,.fldaddr f n (.t s),none⟩
def oI (d n a b:Nat):AOper:=⟨some d,.idx n (.t a) (.t b),none⟩
def oE (d s:Nat):AOper:=⟨some d,.len (.t s),none⟩
def oX (d s:Nat):AOper:=⟨some d,.xop .nilck [.t s],none⟩
def oB (d:Nat) (o:BinOp) (a b:Nat):AOper:=⟨some d,.bin o (.t a) (.t b),none⟩
def oC (d:Nat) (o:BinOp) (a:Nat) (k:Int):AOper:=⟨some d,.bin o (.t a) (.c (.int .i64 k)),none⟩
def oS (n a b:Nat):AOper:=⟨none,.store n (.t a) (.t b),none⟩
def oT (d k s:Nat):AOper:=⟨some d,.ext k (.t s),none⟩
def Yaa:AOper:=oN 4 (.mov (.c (.bool false)))
def Yab:AOper:=oN 1 (.rbox (.t 0))
def Yac:AOper:=oN 2 (.mov (.c (.bool false)))
def Yad:AOper:=oN 35 (.append 1 8 (.t 31) (.t 34))
def Yae:AOper:=oI 36 3 22 23
def Yaf:AOper:=oF 37 2 1 36
def Yag:AOper:=oS 1 37 35
def Yah:AOper:=oN 34 (.buildSl 1 1 [.int .i64 0] [(0,(.t 33))])
def Yai:AOper:=oN 2 (.rbox (.t 0))
def Yaj:AOper:=oN 2 (.mknil 1)
def Yak:AOper:=oI 29 3 27 28
def Yal:AOper:=oF 30 2 1 29
def Yam:AOper:=oN 4 (.mknil 1)
def Yan:AOper:=oN 4 (.mov (.c (.bool true)))
def Yao:AOper:=oN 6 (.mov (.c (.bool false)))
def Yap:AOper:=oN 3 (.mov (.c (.bool false)))
def Yaq:AOper:=oN 61 (.buildSl 1 1 [.int .i64 0] [(0,(.t 60))])
theorem evD:type_of% @evA∧type_of% @boxR.eq_1∧type_of% @zpe.eq_1∧type_of% @zlo.eq_1∧type_of% @fldR.eq_1∧type_of% @binI.eq_1∧type_of% @binI.eq_2∧type_of% @binI.eq_3∧type_of% @binI.eq_4∧type_of% @binI.eq_5∧type_of% @binI.eq_6∧type_of% @binI.eq_7∧type_of% @binI.eq_8∧type_of% @binI.eq_9∧type_of% @binI.eq_10∧type_of% @binI.eq_11∧type_of% @binI.eq_12∧type_of% @binI.eq_13∧type_of% @binI.eq_14∧type_of% @binI.eq_15∧type_of% @binI.eq_16∧type_of% @binI.eq_17∧type_of% @unR.eq_1∧type_of% @unR.eq_2∧type_of% @zm7.eq_1∧type_of% @zoQ.eq_1∧type_of% @zlT.eq_1∧type_of% @zdQ.eq_1∧type_of% @ziw.eq_1∧type_of% @extR.eq_1∧type_of% @zoz.eq_1∧type_of% @eqB.eq_1∧type_of% @evU∧type_of% @zsd∧type_of% @oN.eq_1∧type_of% @oG.eq_1∧type_of% @oM.eq_1∧type_of% @oK.eq_1∧type_of% @oL.eq_1∧type_of% @oA.eq_1∧type_of% @oF.eq_1∧type_of% @oI.eq_1∧type_of% @oE.eq_1∧type_of% @oX.eq_1∧type_of% @oB.eq_1∧type_of% @oC.eq_1∧type_of% @oS.eq_1∧type_of% @oT.eq_1∧type_of% @Yaa.eq_1∧type_of% @Yab.eq_1∧type_of% @Yac.eq_1∧type_of% @Yad.eq_1∧type_of% @Yae.eq_1∧type_of% @Yaf.eq_1∧type_of% @Yag.eq_1∧type_of% @Yah.eq_1∧type_of% @Yai.eq_1∧type_of% @Yaj.eq_1∧type_of% @Yak.eq_1∧type_of% @Yal.eq_1∧type_of% @Yam.eq_1∧type_of% @Yan.eq_1∧type_of% @Yao.eq_1∧type_of% @Yap.eq_1∧type_of% @Yaq.eq_1 :=
 ⟨@evA,@boxR.eq_1,@zpe.eq_1,@zlo.eq_1,@fldR.eq_1,@binI.eq_1,@binI.eq_2,@binI.eq_3,@binI.eq_4,@binI.eq_5,@binI.eq_6,@binI.eq_7,@binI.eq_8,@binI.eq_9,@binI.eq_10,@binI.eq_11,@binI.eq_12,@binI.eq_13,@binI.eq_14,@binI.eq_15,@binI.eq_16,@binI.eq_17,@unR.eq_1,@unR.eq_2,@zm7.eq_1,@zoQ.eq_1,@zlT.eq_1,@zdQ.eq_1,@ziw.eq_1,@extR.eq_1,@zoz.eq_1,@eqB.eq_1,@evU,@zsd,@oN.eq_1,@oG.eq_1,@oM.eq_1,@oK.eq_1,@oL.eq_1,@oA.eq_1,@oF.eq_1,@oI.eq_1,@oE.eq_1,@oX.eq_1,@oB.eq_1,@oC.eq_1,@oS.eq_1,@oT.eq_1,@Yaa.eq_1,@Yab.eq_1,@Yac.eq_1,@Yad.eq_1,@Yae.eq_1,@Yaf.eq_1,@Yag.eq_1,@Yah.eq_1,@Yai.eq_1,@Yaj.eq_1,@Yak.eq_1,@Yal.eq_1,@Yam.eq_1,@Yan.eq_1,@Yao.eq_1,@Yap.eq_1,@Yaq.eq_1⟩
theorem evWB:type_of% @evWA∧type_of% @and_self∧type_of% @Int.natCast_zero∧type_of% @Int.natCast_one∧type_of% @Int.cast_ofNat_Int∧type_of% @evV∧type_of% @za.eq_1∧type_of% @zbD.eq_1∧type_of% @zaa.eq_1∧type_of% @encP.eq_1 :=
 ⟨@evWA,@and_self,@Int.natCast_zero,@Int.natCast_one,@Int.cast_ofNat_Int,@evV,@za.eq_1,@zbD.eq_1,@zaa.eq_1,@encP.eq_1⟩
theorem dcd:type_of% @decide_eq_true_eq∧type_of% @decide_eq_false_iff_not∧type_of% @Bool.not_eq_true'∧type_of% @Bool.not_eq_false'∧type_of% @Bool.and_eq_true∧type_of% @Bool.or_eq_true∧type_of% @not_true_eq_false∧type_of% @not_false_eq_true :=
 ⟨@decide_eq_true_eq,@decide_eq_false_iff_not,@Bool.not_eq_true',@Bool.not_eq_false',@Bool.and_eq_true,@Bool.or_eq_true,@not_true_eq_false,@not_false_eq_true⟩
theorem fin4 {p:Prop} (h:p:=by(repeat' with_reducible apply And.intro)<;>first|omega|exact znJ rfl rfl (by omega)|exact zaV rfl rfl (by omega)|exact znc rfl rfl (by omega) | (refine zhZ ?_;(repeat' first|exact bytes_flat|exact flat1|refine flat_app ?_ ?_);done)|exact ztv (fun _=>rfl)|exact zlP (c:=cN) (fun _=>rfl) rfl|exact zhD (fun _=>rfl) (by decide) ⟨rfl,rfl⟩ trivial|exact zhD (fun _=>rfl) (by decide) (fun _ _=>⟨rfl,rfl⟩) trivial | (simp;done)):p:=h
theorem lb {p:Prop} (h:p:=by first|rfl|exact(dT (by omega)).symm|exact(dF (by omega)).symm|exact decide_eq_decide.2 (by omega)):p:=h
theorem hBig:big=9223372036854775807:=rfl
theorem fin5 {p:Prop} (h:p:=by(try simp[subK,Kn.get,zlr])<;>(repeat' with_reducible apply And.intro)<;>first|rfl|omega | (simp;done)):p:=h
inductive MC where
 | hd (c:Int)
 | en (k b:Int)
def zyW (r q:Nat) (o:Option AObj) (H:AH) (nx:Nat):ORes:=match o with
 |
  some (.row sz (hd::_) g)=>match hd with
  | [.int .i64 c,_,_]=>⟨sz=3∧g=0,True,.it nx,H.set nx 0 (.row 1 [[.mp r q],[.int .i64 c],[.int .i64 c]] 0),nx+1⟩
  | _=>bad H nx
 | _=>bad H nx
def mdTo (str:Option IntKind) (r q:Nat) (k:AV) (sz g:Nat) (hd:List AV) (es:List (List AV)) (o:Option (Option (Nat × AV))) (H:AH) (nx:Nat):ORes:=match o with
 | some (some (i,_))=>⟨sz=3∧g=0∧zff str k,True,.tup [],H.set r q (.row 3 (hd::es.eraseIdx i) 0),nx⟩
 | some none=>⟨sz=3∧g=0∧zff str k,True,.tup [],H,nx⟩
 | none=>bad H nx
def mdRow (str:Option IntKind) (r q:Nat) (k:AV) (o:Option AObj) (H:AH) (nx:Nat):ORes:=match o with
 | some (.row sz (hd::es) g)=>mdTo str r q k sz g hd es (zf3 k es 0) H nx
 | _=>bad H nx
theorem zrk {str:Option IntKind} {k:AV} {r q:Nat} {H:AH} {nx:Nat}:xopR (.mdel str) [.mp r q,k] H nx=mdRow str r q k (H.get r q) H nx:=by
 show zmn str (.mp r q) k H nx=_;simp only[zmn,mdRow]
 cases H.get r q with
 | none=>rfl
 |
  some o =>
  cases o with
  | fam _ _=>rfl
  |
   row sz els g =>
   cases els with
   | nil=>rfl
   | cons hd es=>rfl
theorem znj {r q:Nat} {H:AH} {nx:Nat}:xopR .mrange [.mp r q] H nx=zyW r q (H.get r q) H nx:=by
 show zez (.mp r q) H nx=_;simp only[zez,zyW]
 cases H.get r q with
 | none=>rfl
 |
  some o =>
  cases o with
  | fam _ _=>rfl
  |
   row sz els g =>
   cases els with
   | nil=>rfl
   | cons hd es=>rfl
theorem evM:type_of% @zrk∧type_of% @znj:=⟨@zrk,@znj⟩
variable {P:Program} {H:AH} {nx:Nat} {D:Nat→Nat→Prop}
section
variable {P:Program}
structure DrawOk2 (rk:Nat→Nat) (ops:List AOper) (deps:List (List Nat)) (Ls:List Nat) (A:List (List Nat)) (St:List (List Nat)) (plan:Plan) (ks:List Nat):Prop where
 low:∀(i:Nat),i < ops.length→∀j∈deps.getD i [],j < ops.length∧rk j < rk i
 clo:∀(i:Nat),i < ops.length→∀j∈A.getD i [],j∈deps.getD i []∨∃d∈deps.getD i [],j∈A.getD d []
 one:∀(i j d:Nat),i < ops.length→j < ops.length→(ops.getD i default).dst=some d→(ops.getD j default).dst=some d→i=j
 keys:∀k∈ks,∃o∈ops,o.dst=some k
 look:∀(i:Nat),i < ops.length→∀t∈(ops.getD i default).looks,(∃j∈A.getD i [],(ops.getD j default).dst=some t)∨∀o∈ops,o.dst≠some t
 lin:∀i∈Ls,i < ops.length
 st0:[]∈St
 stc:∀S∈St,∀i∈Ls,zlv Ls A i S=true→zvH Ls i S∈St
 plan:∀(i:Nat),i < ops.length→((ops.getD i default).fixed=true∧(ops.getD i default).sees=false∧i∉Ls∧anyP plan i=true) ∨
  (i∉Ls∧∀S∈St,zlv Ls A i S=true→memP plan i S S=true)∨(i∈Ls∧∀S∈St,zlv Ls A i S=true→memP plan i S (zvH Ls i S)=true)
end
def zkT (N:Nat):Nat→Nat→Option (Nat × Nat × Nat):=fun r q=>if r < N then some (r,q,0) else none
section
variable {H H2:AH} {σ:Nat→Nat→Option (Nat × Nat × Nat)} {D:Nat→Nat→Prop}
theorem zA4 {N:Nat} (hs:∀r q,r < N→σ r q=some (r,q,0)) {a:AV} (h:a.lt0 N=true):Vw H H2 σ D true a a:=by
 cases a
 case own r q g o n=>exact .own _ _ _ 0 _ _ _ _ _ (hs _ _ (by simpa [AV.lt0,Wm] using h)) rfl
 case ptr r q g i f=>exact .ptr _ _ _ 0 _ _ _ _ _ (hs _ _ (by simpa [AV.lt0,Wm] using h)) rfl
 case mp r q=>exact .mp _ _ _ _ (hs _ _ (by simpa [AV.lt0,Wm] using h))
 case it r=>exact .it _ _ (hs _ _ (by simpa [AV.lt0,Wm] using h))
 case fn _ _=>cases h
 case agg _=>cases h
 case tup _=>cases h
 case nilmp=>exact .nilmp _
 all_goals exact zco rfl
theorem zuQ {N:Nat} (hs:∀r q,r < N→σ r q=some (r,q,0)) {l:List AV} (h:l.all (AV.lt0 N)=true):∀(i:Nat) (a b:AV),l[i]? = some a→l[i]? = some b→Vw H H2 σ D true a b:=by intro i a b h1 h2;rw[h1] at h2;cases h2;exact zA4 hs (List.all_eq_true.1 h a (We h1))
theorem vw_lt1 {N:Nat} (hs:∀r q,r < N→σ r q=some (r,q,0)) {a:AV} (h:a.lt1 N=true):Vw H H2 σ D true a a:=by
 cases a
 case fn f l=>exact .fn _ _ _ _ rfl (zuQ hs h)
 case agg l=>exact .agg _ _ _ rfl (zuQ hs h)
 case tup l=>exact .tup _ _ _ rfl (zuQ hs h)
 all_goals exact zA4 hs h
theorem zB3 {N:Nat} (hs:∀r q,r < N→σ r q=some (r,q,0)) {els:List (List AV)} (h:zlZ N els):RowV H H2 σ D els els:=by refine⟨rfl,fun i c2 hi=>⟨c2,hi,rfl,fun j a b h1 h2=>?_⟩⟩;exact zuQ hs (h c2 (We hi)) j a b h1 h2
end
def zyo (N:Nat):Kn→Kn→Prop
 | [],_=>True
 | (j,v)::t,K=>(K.get j=v∧v.lt1 N=true)∧zyo N t K
theorem zpO {N:Nat} {K:Kn}:∀ {K2:Kn},zyo N K2 K→∀i,K2.get i=.undef∨(K2.get i=K.get i∧(K2.get i).lt1 N=true)
 | [],_,i=>.inl rfl
 |
  (j,v)::t,h,i=>by
  simp only[Kn.get]
  cases hb:Wd j i with
  | true=>rw[←zL hb];exact .inr ⟨h.1.1.symm,h.1.2⟩
  | false=>exact zpO h.2 i
def zyD (H H2:AH) (σ:Nat→Nat→Option (Nat × Nat × Nat)) (D:Nat→Nat→Prop):Kn→Kn→Prop
 | [],_=>True
 | (j,v)::t,K=>Vw H H2 σ D true (K.get j) v∧zyD H H2 σ D t K
theorem zpu {H H2:AH} {σ:Nat→Nat→Option (Nat × Nat × Nat)} {D:Nat→Nat→Prop} {K:Kn}:∀ {K2:Kn},zyD H H2 σ D K2 K→∀i,Vw H H2 σ D true (K.get i) (K2.get i)
 | [],_,i=>.undef _ _
 |
  (j,v)::t,h,i=>by
  simp only[Kn.get]
  cases hb:Wd j i with
  | true=>rw[←zL hb];exact h.1
  | false=>exact zpu h.2 i
theorem Ent.low {B N nx:Nat} {K K2:Kn} {H H2:AH} (hB:B≤N) (hH:∀r o,H2.look r=some o→H.look r=some o) (hlt:zji N H2) (hK:zyo N K2 K):Ent B K H nx K2 H2 N:=by
 have hs:∀r q,r < N→zkT N r q=some (r,q,0):=fun r q h=>if_pos h
 refine Ent.view (zkT N) (fun _ _=>False) ⟨hB,fun r q h=>hs r q (by omega),?_,fun _ _ _ _ _ _ h=>h,?_,fun r o h=>(zh6 hlt h).1,?_⟩ ?_
 ·
  intro r1 q1 r2 q2 r q d1 d2 h1 h2;unfold zkT at h1 h2;split at h1
  ·
   split at h2
   · cases h1;cases h2;exact⟨rfl,rfl⟩
   · cases h2
  · cases h1
 ·
  intro r' q' x h;unfold zkT at h;split at h
  · assumption
  · cases h
 · intro r q sz els g h;have hl:=zwh hlt h;refine .inl ⟨r,q,0,els,hs r q hl.1,?_,zB3 hs hl.2⟩;unfold AH.get at h ⊢;obtain⟨o,h1,h2⟩:=Wa.1 h;rw[hH r o h1];exact h2
 ·
  intro i
  rcases zpO hK i with h | ⟨h1,h2⟩
  · rw[h];exact .undef _ _
  · rw[←h1];exact vw_lt1 hs h2
inductive Ad (M:Option Nat) (r q g:Nat):AV→AV→Prop
 | same (a):Ad M r q g a a
 | own (m off n) (h:M=some m):Ad M r q g (.own m 0 0 off n) (.own r q g off n)
 | ptr (m i f) (h:M=some m):Ad M r q g (.ptr m 0 0 i f) (.ptr r q g i f)
 | nil (h:M=none):Ad M r q g .nilsl (.own r q g 0 0)
 | agg (asv bs) (hl:asv.length=bs.length) (h:∀(i:Nat) (a b:AV),asv[i]? = some a→bs[i]? = some b→Ad M r q g a b):Ad M r q g (.agg asv) (.agg bs)
 | fn (f asv bs) (hl:asv.length=bs.length) (h:∀(i:Nat) (a b:AV),asv[i]? = some a→bs[i]? = some b→Ad M r q g a b):Ad M r q g (.fn f asv) (.fn f bs)
def adL:Option Nat→Nat→Inj→Option Loc
 | some m,_,ι=>ι m 0 0
 | none,sz,_=>some ⟨0,0,0,sz⟩
def adI (M:Option Nat) (r q g sz:Nat) (ι:Inj):Inj:=fun x y z=>if x=r∧y=q∧z=g then adL M sz ι else ι x y z
theorem Ad.sound {M:Option Nat} {r q g sz:Nat} {w:World} {L L':Nat→Prop} {ι:Inj} (hL:∀b,L' b→L b) (hn:∀l,ι r q g≠some l) {a b:AV} (h:Ad M r q g a b):∀v,VR w L ι v a→VR w L' (adI M r q g sz ι) v b:=by
 have ext:∀x y z l,ι x y z=some l→adI M r q g sz ι x y z=some l:=fun x y z l hl=>by
  unfold adI;rw[if_neg]
  · exact hl
  · rintro⟨rfl,rfl,rfl⟩;exact hn l hl
 have at':adI M r q g sz ι r q g=adL M sz ι:=by unfold adI;rw[if_pos ⟨rfl,rfl,rfl⟩]
 induction h with
 | same a=>intro v h;exact h.mono (fun b _ hb=>⟨rfl,fun hx=>hb (hL b hx)⟩) ext
 |
  own m off n hM =>
  intro v h;subst hM
  cases h with
  | own _ _ _ _ _ _ a c l h hm hn hc ha=>exact .own _ _ _ _ _ _ _ _ l (by rw[at'];exact h) hm hn hc ha
 |
  ptr m i f hM =>
  intro v h;subst hM
  cases h with
  | ptr _ _ _ _ _ _ l h hm=>exact .ptr _ _ _ _ _ _ l (by rw[at'];exact h) hm
 |
  nil hM =>
  intro v h;subst hM;cases h;exact .own _ _ _ _ _ _ _ _ ⟨0,0,0,sz⟩ at' (Wk _) (Wc _) (Wc _) (fun h=>by omega)
 |
  agg asv bs hl h ih =>
  intro v h
  cases h with
  |
   agg _ cs _ hs h1 hv =>
   refine .agg _ _ _ (hs.trans hl) h1 (fun i v b h1 h2=>?_)
   have hi:i < asv.length:=by rw[hl];exact(Wq.1 h2).1
   exact ih i _ b (Wi hi) h2 v (hv i v _ h1 (Wi hi))
 |
  fn f asv bs hl h ih =>
  intro v h
  cases h with
  |
   fn _ _ cs _ hs hv =>
   refine .fn _ _ _ _ (hs.trans hl) (fun i v b h1 h2=>?_)
   have hi:i < asv.length:=by rw[hl];exact(Wq.1 h2).1
   exact ih i _ b (Wi hi) h2 v (hv i v _ h1 (Wi hi))
def RowA (M:Option Nat) (r q g:Nat) (els els2:List (List AV)):Prop :=
 els2.length=els.length∧∀(i:Nat) (c2:List AV),els2[i]? = some c2→∃c,els[i]? = some c∧c2.length=c.length∧∀(j:Nat) (a b:AV),c[j]? = some a→c2[j]? = some b→Ad M r q g a b
theorem RowA.refl {M:Option Nat} {r q g:Nat} (els:List (List AV)):RowA M r q g els els :=
 ⟨rfl,fun _ c2 h=>⟨c2,h,rfl,fun _ a b h1 h2=>by rw[h1] at h2;cases h2;exact .same _⟩⟩
def zsI (M:Option Nat) (r q g:Nat):List AV→List AV→Prop
 | [],[]=>True
 | a::l,b::m=>Ad M r q g a b∧zsI M r q g l m
 | _,_=>False
theorem zsI.get {M:Option Nat} {r q g:Nat}:∀ {l m:List AV},zsI M r q g l m→m.length=l.length∧∀(j:Nat) (a b:AV),l[j]? = some a→m[j]? = some b→Ad M r q g a b
 | [],[],_=>⟨rfl,fun j a b h=>by simp at h⟩
 | [],_::_,h=>h.elim
 | _::_,[],h=>h.elim
 |
  x::l,y::m,h=>by
  obtain⟨h1,h2⟩:=zsI.get h.2;refine⟨by simp[h1],fun j a b ha hb=>?_⟩
  cases j with
  | zero=>cases ha;cases hb;exact h.1
  | succ j=>exact h2 j a b ha hb
theorem RowA.cons {M:Option Nat} {r q g:Nat} {c c2:List AV} {l m:List (List AV)} (h:zsI M r q g c c2) (h2:RowA M r q g l m):RowA M r q g (c::l) (c2::m):=by
 obtain⟨h1,h3⟩:=h.get;refine⟨by simp[h2.1],fun i d hd=>?_⟩
 cases i with
 | zero=>cases hd;exact⟨c,rfl,h1,h3⟩
 | succ i=>exact h2.2 i d hd
theorem RowA.app {M:Option Nat} {r q g:Nat} {l m:List (List AV)} (h:RowA M r q g l m):∀k:List (List AV),RowA M r q g (k++l) (k++m)
 | []=>h
 | c::k=>RowA.cons (by
   induction c with
   | nil=>trivial
   | cons a c ih=>exact⟨.same _,ih⟩) (RowA.app h k)
def zp3 (M:Option Nat) (r q g:Nat):Kn→Kn→Prop
 | [],_=>True
 | (j,v)::t,K=>Ad M r q g (K.get j) v∧zp3 M r q g t K
theorem zpM {M:Option Nat} {r q g:Nat} {K:Kn}:∀ {K2:Kn},zp3 M r q g K2 K→∀i,K2.get i=.undef∨Ad M r q g (K.get i) (K2.get i)
 | [],_,i=>.inl rfl
 |
  (j,v)::t,h,i=>by
  simp only[Kn.get]
  cases hb:Wd j i with
  | true=>rw[←zL hb];exact .inr h.1
  | false=>exact zpM h.2 i
theorem Ent.adopt {B nx r q sz g:Nat} {els0 elsN:List (List AV)} {K K2:Kn} {H H2:AH} (M:Option Nat) (hB:B≤nx) (hM:∀m,M=some m→∃els,H.get m 0=some (.row sz els 0)∧RowA M r q (g+1) els elsN) (hN:M=none→elsN=[])
  (hr:H.get r q=some (.row sz els0 g)) (hdom:∀x o,H2.look x=some o→∃o',H.look x=some o')
  (hrow:∀x y sz2 els2 g2,H2.get x y=some (.row sz2 els2 g2)→(∀m,M=some m→x≠m)∧((x=r∧y=q∧sz2=sz∧els2=elsN∧g2=g+1)∨(¬(x=r∧y=q)∧∃els,H.get x y=some (.row sz2 els g2)∧RowA M r q (g+1) els els2)))
  (hK:∀i,K2.get i=.undef∨Ad M r q (g+1) (K.get i) (K2.get i)):Ent B K H nx K2 H2 nx:=by
 refine⟨hB,fun w L ι tmps rel hk=>⟨adI M r q (g+1) sz ι,?_⟩⟩
 have hn:∀l,ι r q (g+1)≠some l:=fun l hl=>by have:=rel.gen r q sz els0 g hr _ _ hl;omega
 have ext:∀x y z l,ι x y z=some l→adI M r q (g+1) sz ι x y z=some l:=fun x y z l hl=>by
  unfold adI;rw[if_neg]
  · exact hl
  · rintro⟨rfl,rfl,rfl⟩;exact hn l hl
 have at':adI M r q (g+1) sz ι r q (g+1)=adL M sz ι:=by unfold adI;rw[if_pos ⟨rfl,rfl,rfl⟩]
 have back:∀x y z l,¬(x=r∧y=q)→adI M r q (g+1) sz ι x y z=some l→ι x y z=some l:=fun x y z l hne hl=>by unfold adI at hl;rw[if_neg (fun e=>hne ⟨e.1,e.2.1⟩)] at hl;exact hl
 have hlive:∀b,live (adI M r q (g+1) sz ι) H2 b→live ι H b:=by
  rintro b ⟨x,y,sz2,els2,g2,l,h1,h2,h3,h4⟩;obtain⟨_,h5 | ⟨h5,els,h6,_⟩⟩:=hrow x y sz2 els2 g2 h1
  ·
   obtain⟨rfl,rfl,rfl,rfl,rfl⟩:=h5;rw[at'] at h2
   cases M with
   | none=>cases h2;simp at h3
   |
    some m =>
    obtain⟨els,h6,_⟩:=hM m rfl;exact⟨m,0,_,els,0,l,h6,h2,h3,h4⟩
  · exact⟨x,y,sz2,els,g2,l,h6,back _ _ _ _ h5 h2,h3,h4⟩
 have hlt:∀b,Lt L (adI M r q (g+1) sz ι) H2 b→Lt L ι H b:=fun b hb=>hb.imp id (hlive b)
 have cv:∀ {a b:AV},Ad M r q (g+1) a b→∀v,VR w (Lt L ι H) ι v a→VR w (Lt L (adI M r q (g+1) sz ι) H2) (adI M r q (g+1) sz ι) v b:=fun h v hv=>h.sound hlt hn v hv
 have rowcv:∀ {sz els els2 l},RowOk w (Lt L ι H) ι sz els l→RowA M r q (g+1) els els2→RowOk w (Lt L (adI M r q (g+1) sz ι) H2) (adI M r q (g+1) sz ι) sz els2 l→True:=fun _ _ _=>trivial
 clear rowcv
 have hrr:r < nx:=by unfold AH.get at hr;obtain⟨u,h1,_⟩:=Wa.1 hr;exact rel.dom r u h1
 have src:∀x y sz2 els2 g2 l,H2.get x y=some (.row sz2 els2 g2)→adI M r q (g+1) sz ι x y g2=some l→0 < l.cap * l.sz→∃x' y' els' g',H.get x' y'=some (.row sz2 els' g')∧ι x' y' g'=some l∧((x=r∧y=q∧∃m,M=some m∧x'=m∧y'=0)∨(¬(x=r∧y=q)∧x'=x∧y'=y∧∀m,M=some m→x≠m)):=by
  intro x y sz2 els2 g2 l h1 h2 h3;obtain⟨h0,h5 | ⟨h5,els,h6,_⟩⟩:=hrow x y sz2 els2 g2 h1
  ·
   obtain⟨rfl,rfl,rfl,rfl,rfl⟩:=h5;rw[at'] at h2
   cases M with
   | none=>cases h2;simp at h3
   |
    some m =>
    obtain⟨els,h6,_⟩:=hM m rfl;exact⟨m,0,els,0,h6,h2,.inl ⟨rfl,rfl,m,rfl,rfl,rfl⟩⟩
  · exact⟨x,y,els,g2,h6,back _ _ _ _ h5 h2,.inr ⟨h5,rfl,rfl,h0⟩⟩
 refine⟨⟨fun x y sz2 els2 g2 h1=>?_,?_,fun b hb=>rel.out b (hlive b hb),fun x y z l hl=>?_,fun x o ho=>?_,fun x y sz2 els2 g2 h1 z l hl=>?_,rel.Lsz⟩,fun i=>?_,hlive,fun x y z l _ hl=>ext x y z l hl⟩
 ·
  obtain⟨_,h5 | ⟨h5,els,h6,h7⟩⟩:=hrow x y sz2 els2 g2 h1
  ·
   obtain⟨rfl,rfl,rfl,rfl,rfl⟩:=h5;rw[at']
   cases M with
   |
    none =>
    have e:=hN rfl;subst e;exact⟨_,rfl,.mk' rfl (Wk _) (Wk _) (fun k hk=>by simp at hk) (fun h=>by simp at h) (fun i c h=>by simp at h) (fun i c j a h=>by simp at h)⟩
   |
    some m =>
    obtain⟨els,h6,h7⟩:=hM m rfl;obtain⟨l,h8,ok⟩:=rel.row _ _ _ _ _ h6;refine⟨l,h8,ok.view (fun _=>rfl) h7.1 (fun i c' hi=>?_)⟩;obtain⟨c,e1,e2,e3⟩:=h7.2 i c' hi;exact⟨c,e1,e2,fun j a a' k1 k2 v hv=>cv (e3 j a a' k1 k2) v hv⟩
  · obtain⟨l,h8,ok⟩:=rel.row _ _ _ _ _ h6;refine⟨l,ext _ _ _ _ h8,ok.view (fun _=>rfl) h7.1 (fun i c' hi=>?_)⟩;obtain⟨c,e1,e2,e3⟩:=h7.2 i c' hi;exact⟨c,e1,e2,fun j a a' k1 k2 v hv=>cv (e3 j a a' k1 k2) v hv⟩
 ·
  intro r1 q1 r2 q2 s1 e1 g1 l1 s2 e2 g2 l2 h1 h2 h3 h4 h5 h6 h7;obtain⟨x1,y1,e1',g1',a1,a2,a3⟩:=src _ _ _ _ _ _ h1 h3 h5;obtain⟨x2,y2,e2',g2',b1,b2,b3⟩:=src _ _ _ _ _ _ h2 h4 h6;obtain⟨c1,c2⟩:=rel.apart _ _ _ _ _ _ _ _ _ _ _ _ a1 b1 a2 b2 h5 h6 h7
  rcases a3 with ⟨a3,a4,m,a5,a6,a7⟩ | ⟨a3,a4,a5,a6⟩
  ·
   rcases b3 with ⟨b3,b4,m',b5,b6,b7⟩ | ⟨b3,b4,b5,b6⟩
   · exact⟨a3.trans b3.symm,a4.trans b4.symm⟩
   · exact absurd (by rw[←b4,←c1,a6]) (b6 m a5)
  ·
   rcases b3 with ⟨b3,b4,m',b5,b6,b7⟩ | ⟨b3,b4,b5,b6⟩
   · exact absurd (by rw[←a4,c1,b6]) (a6 m' b5)
   · exact⟨by rw[←a4,c1,b4],by rw[←a5,c2,b5]⟩
 ·
  unfold adI at hl;split at hl
  · rename_i e;rw[e.1];exact hrr
  · exact rel.idx x y z l hl
 · obtain⟨o',h⟩:=hdom x o ho;exact rel.dom x o' h
 ·
  obtain⟨_,h5 | ⟨h5,els,h6,h7⟩⟩:=hrow x y sz2 els2 g2 h1
  ·
   obtain⟨rfl,rfl,rfl,rfl,rfl⟩:=h5;unfold adI at hl;split at hl
   · rename_i e;omega
   · have:=rel.gen _ _ _ _ _ hr _ _ hl;omega
  · exact rel.gen _ _ _ _ _ h6 _ _ (back _ _ _ _ h5 hl)
 ·
  rcases hK i with h|h
  · rw[h];exact .undef _ _
  · exact cv h _ (hk i)
inductive ObjA (M:Option Nat) (r q g:Nat):AObj→AObj→Prop
 | same (o):ObjA M r q g o o
 | row (sz els els2 g1) (h:RowA M r q g els els2):ObjA M r q g (.row sz els g1) (.row sz els2 g1)
 | fam (sz ins ins2) (h:∀(i:Nat) (p2:List (List AV) × Nat),ins2[i]? = some p2→∃p,ins[i]? = some p∧p2.2=p.2∧RowA M r q g p.1 p2.1):ObjA M r q g (.fam sz ins) (.fam sz ins2)
section
variable {α:Type} {c:α→List AV}
theorem Ent.adoptF {B nx F k m sz:Nat} {ll:Nat→List α} {gs:Nat→Nat} {l:List α} {K K2:Kn} {H H2:AH} (M:Option Nat) (hB:B≤nx) (hk:k < m) (hF:H.look F=some (.fam sz (fi c m ll gs)))
  (hM:∀x,M=some x→x≠F∧H.look x=some (.row sz (l.map c) 0)) (hN:M=none→l=[])
  (hrow:∀x o2,H2.look x=some o2→(∀m,M=some m→x≠m)∧((x=F∧o2=.fam sz (fi c m (updF ll k l) (updF gs k (gs k+1))))∨(x≠F∧∃o,H.look x=some o∧ObjA M F (k+1) (gs k+1) o o2)))
  (hK:zp3 M F (k+1) (gs k+1) K2 K):Ent B K H nx K2 H2 nx:=by
 have hg:H.get F (k+1)=some (.row sz ((ll k).map c) (gs k)):=znl hF hk;refine Ent.adopt (elsN:=l.map c) M hB (fun x hx=>⟨_,by unfold AH.get;rw[(hM x hx).2];rfl,RowA.refl _⟩) (fun h=>by rw[hN h];rfl) hg (fun x o ho=>?_) (fun x y sz2 els2 g2 h=>?_) (zpM hK)
 ·
  rcases(hrow x o ho).2 with ⟨rfl,_⟩ | ⟨_,o',h,_⟩
  · exact⟨_,hF⟩
  · exact⟨o',h⟩
 ·
  unfold AH.get at h;obtain⟨o2,h1,h2⟩:=Wa.1 h;obtain⟨h3,h4 | ⟨h4,o,h5,h6⟩⟩:=hrow x o2 h1
  ·
   refine⟨h3,?_⟩;obtain⟨rfl,rfl⟩:=h4
   cases y with
   | zero=>simp[AObj.part] at h2
   |
    succ i =>
    simp only[AObj.part] at h2;obtain⟨p,hp,he⟩:=Wp.1 h2;rw[zkX] at hp;split at hp
    ·
     rename_i him;cases hp;cases he
     by_cases hik:i=k
     · subst hik;exact .inl ⟨rfl,rfl,rfl,by rw[zbh],zbh⟩
     · refine .inr ⟨fun e=>hik (by omega),_,?_,RowA.refl _⟩;rw[zdu hik,zdu hik];exact znl hF him
    · cases hp
  ·
   refine⟨h3,.inr ⟨fun e=>h4 e.1,?_⟩⟩
   cases h6 with
   |
    same =>
    refine⟨els2,?_,RowA.refl _⟩;unfold AH.get;rw[h5];exact h2
   |
    row sz1 els els2' g1 hra =>
    cases y with
    |
     zero =>
     simp only[AObj.part,Wg,AObj.row.injEq] at h2;obtain⟨rfl,rfl,rfl⟩:=h2;refine⟨els,?_,hra⟩;unfold AH.get;rw[h5];rfl
    | succ y=>simp[AObj.part] at h2
   |
    fam sz1 ins ins2 hp =>
    cases y with
    | zero=>simp[AObj.part] at h2
    |
     succ i =>
     simp only[AObj.part] at h2;obtain⟨p2,hp2,he⟩:=Wp.1 h2;obtain⟨p,e1,e2,e3⟩:=hp i p2 hp2;simp only[AObj.row.injEq] at he;obtain⟨rfl,rfl,rfl⟩:=he;refine⟨p.1,?_,e3⟩;unfold AH.get;rw[h5];simp only[Option.bind_some,AObj.part,e1,Option.map_some,e2]
theorem ObjA.updF {M:Option Nat} {r q g sz m k:Nat} {ll:Nat→List α} {gs:Nat→Nat} {l:List α} (h:RowA M r q g ((ll k).map c) (l.map c)):ObjA M r q g (.fam sz (fi c m ll gs)) (.fam sz (fi c m (Go.Ab.updF ll k l) gs)):=by
 refine .fam _ _ _ fun i p2 hp=>?_
 rw[zkX] at hp;split at hp
 ·
  rename_i hi;cases hp;refine⟨_,zkr hi,rfl,?_⟩
  by_cases hk:i=k
  · subst hk;rw[zbh];exact h
  · rw[zdu hk];exact RowA.refl _
 · cases hp
end
theorem Ent.trans {B nx nx2 nx3:Nat} {K K2 K3:Kn} {H H2 H3:AH} (h:Ent B K H nx K2 H2 nx2) (k:Ent B K2 H2 nx2 K3 H3 nx3):Ent B K H nx K3 H3 nx3:=by refine⟨k.1,fun w L ι tmps rel hk=>?_⟩;obtain⟨ι2,a1,a2,a3,a4⟩:=h.2 w L ι tmps rel hk;obtain⟨ι3,b1,b2,b3,b4⟩:=k.2 w L ι2 tmps a1 a2;exact⟨ι3,b1,b2,fun b hb=>a3 b (b3 b hb),fun r q g l hr hl=>b4 r q g l hr (a4 r q g l hr hl)⟩
theorem Ent.forget {B nx nx2:Nat} {K K2:Kn} {H H2:AH} (hB:B≤nx2) (hnx:nx≤nx2) (hrow:∀x o,H2.look x=some o→H.look x=some o) (hK:∀i,K2.get i=.undef∨K2.get i=K.get i):Ent B K H nx K2 H2 nx2:=by
 refine⟨hB,fun w L ι tmps rel hk=>⟨ι,?_⟩⟩
 have hg:∀ {r q o},H2.get r q=some o→H.get r q=some o:=fun {r q o} h=>by unfold AH.get at h ⊢;obtain⟨u,h1,h2⟩:=Wa.1 h;rw[hrow _ _ h1];exact h2
 have hl:∀b,live ι H2 b→live ι H b:=fun b ⟨r,q,sz,els,g,l,h1,h2,h3,h4⟩=>⟨r,q,sz,els,g,l,hg h1,h2,h3,h4⟩
 refine⟨⟨fun r q sz els g h=>?_,fun r1 q1 r2 q2 s1 e1 g1 l1 s2 e2 g2 l2 h1 h2=>rel.apart _ _ _ _ _ _ _ _ _ _ _ _ (hg h1) (hg h2),fun b hb=>rel.out b (hl b hb),fun r q g l h=>Wh (rel.idx r q g l h) hnx,fun r o h=>Wh (rel.dom r o (hrow r o h)) hnx,fun r q sz els g h=>rel.gen r q sz els g (hg h),rel.Lsz⟩,fun i=>?_,hl,fun r q g l _ h=>h⟩
 · obtain⟨l,h1,ok⟩:=rel.row r q sz els g (hg h);exact⟨l,h1,ok.trans (fun _=>rfl) (fun v a hv=>hv.anti (fun b hb=>hb.imp id (hl b)))⟩
 ·
  rcases hK i with h|h
  · rw[h];exact .undef _ _
  · rw[h];exact(hk i).anti (fun b hb=>hb.imp id (hl b))
section
variable {H H2:AH} {σ:Nat→Nat→Option (Nat × Nat × Nat)} {D:Nat→Nat→Prop}
theorem zqL {N:Nat} (hs:∀r q,r < N→σ r q=some (r,q,0)) {a:AV} (h:AV.Below N a):Vw H H2 σ D true a a:=by
 induction h with
 | undef=>exact .undef _ _
 | int k n=>exact .int _ _ _
 | bool b=>exact .bool _ _
 | str s=>exact .str _ _
 | nilp=>exact .nilp _
 | ptr r q g i f h=>exact .ptr _ _ _ 0 _ _ _ _ _ (hs _ _ h) rfl
 | iptr n c=>exact .iptr _ _ _
 | sl sz n f=>exact .sl _ _ _ _
 | nilsl=>exact .nilsl _
 | cut=>exact .cut _
 | own r q g off n h=>exact .own _ _ _ 0 _ _ _ _ _ (hs _ _ h) rfl
 | fn f caps h ih=>exact .fn _ _ _ _ rfl fun i a b h1 h2=>by rw[h1] at h2;cases h2;exact ih a (We h1)
 | nilfn=>exact .nilfn _
 | agg asv h ih=>exact .agg _ _ _ rfl fun i a b h1 h2=>by rw[h1] at h2;cases h2;exact ih a (We h1)
 | tup asv h ih=>exact .tup _ _ _ rfl fun i a b h1 h2=>by rw[h1] at h2;cases h2;exact ih a (We h1)
 | mp r q h=>exact .mp _ _ _ _ (hs _ _ h)
 | nilmp=>exact .nilmp _
 | it r h=>exact .it _ _ (hs _ _ h)
end
def zCC (N:Nat):Kn→Kn→Prop
 | [],_=>True
 | (j,v)::t,K=>(K.get j=v∧AV.Below N v)∧zCC N t K
theorem zr7 {N:Nat} {K:Kn}:∀ {K2:Kn},zCC N K2 K→∀i,K2.get i=.undef∨(K2.get i=K.get i∧AV.Below N (K2.get i))
 | [],_,i=>.inl rfl
 |
  (j,v)::t,h,i=>by
  simp only[Kn.get]
  cases hb:Wd j i with
  | true=>rw[←zL hb];exact .inr ⟨h.1.1.symm,h.1.2⟩
  | false=>exact zr7 h.2 i
theorem Ent.lowB {B N nx:Nat} {K K2:Kn} {H H2:AH} (hB:B≤N) (hH:∀r o,H2.look r=some o→H.look r=some o) (hlt:LowH N H2) (hK:zCC N K2 K):Ent B K H nx K2 H2 N:=by
 have hs:∀r q,r < N→zkT N r q=some (r,q,0):=fun r q h=>if_pos h
 refine Ent.view (zkT N) (fun _ _=>False) ⟨hB,fun r q h=>hs r q (by omega),?_,fun _ _ _ _ _ _ h=>h,?_,fun r o h=>hlt.num r o h,?_⟩ ?_
 ·
  intro r1 q1 r2 q2 r q d1 d2 h1 h2;unfold zkT at h1 h2;split at h1
  ·
   split at h2
   · cases h1;cases h2;exact⟨rfl,rfl⟩
   · cases h2
  · cases h1
 ·
  intro r' q' x h;unfold zkT at h;split at h
  · assumption
  · cases h
 ·
  intro r q sz els g h;have hl:=hlt.val _ _ _ _ _ h
  have hr:r < N:=by unfold AH.get at h;obtain⟨o,h1,_⟩:=Wa.1 h;exact hlt.num _ _ h1
  refine .inl ⟨r,q,0,els,hs r q hr,?_,rfl,fun i c2 hi=>⟨c2,hi,rfl,fun j a b h1 h2=>?_⟩⟩
  · unfold AH.get at h ⊢;obtain⟨o,h1,h2⟩:=Wa.1 h;rw[hH r o h1];exact h2
  · rw[h1] at h2;cases h2;exact zqL hs (hl c2 (We hi) a (We h1))
 ·
  intro i
  rcases zr7 hK i with h | ⟨h1,h2⟩
  · rw[h];exact .undef _ _
  · rw[←h1];exact zqL hs h2
theorem Ent.lowFB {B N nx:Nat} {K K2:Kn} {H H2:AH} (hB:B≤N) (hH:∀r o,H2.look r=some o→H.look r=some o) (hlt:LowH N H2) (hK:zyD H H2 (zkT N) (fun r _=>N≤r) K2 K):Ent B K H nx K2 H2 N:=by
 have hs:∀r q,r < N→zkT N r q=some (r,q,0):=fun r q h=>if_pos h
 refine Ent.view (zkT N) (fun r _=>N≤r) ⟨hB,fun r q h=>hs r q (by omega),?_,?_,?_,fun r o h=>hlt.num r o h,?_⟩ (zpu hK)
 ·
  intro r1 q1 r2 q2 r q d1 d2 h1 h2;unfold zkT at h1 h2;split at h1
  ·
   split at h2
   · cases h1;cases h2;exact⟨rfl,rfl⟩
   · cases h2
  · cases h1
 ·
  intro r' q' r q d h;unfold zkT at h;split at h
  · cases h;omega
  · cases h
 ·
  intro r' q' x h;unfold zkT at h;split at h
  · assumption
  · cases h
 ·
  intro r q sz els g h;have hl:=hlt.val _ _ _ _ _ h
  have hr:r < N:=by unfold AH.get at h;obtain⟨o,h1,_⟩:=Wa.1 h;exact hlt.num _ _ h1
  refine .inl ⟨r,q,0,els,hs r q hr,?_,rfl,fun i c2 hi=>⟨c2,hi,rfl,fun j a b h1 h2=>?_⟩⟩
  · unfold AH.get at h ⊢;obtain⟨o,h1,h2⟩:=Wa.1 h;rw[hH r o h1];exact h2
  · rw[h1] at h2;cases h2;exact zqL hs (hl c2 (We hi) a (We h1))
theorem LowH.cons {n r sz g:Nat} {els:List (List AV)} {H:AH} (hr:r < n) (he:∀c∈els,∀v∈c,AV.Below n v) (h:LowH n H):LowH n ((r,.row sz els g)::H):=by
 refine⟨fun x o hx=>?_,fun x q sz2 els2 g2 hx=>?_⟩
 ·
  simp only[AH.look] at hx
  cases hb:Wd r x with
  | true=>rw[←zL hb];exact hr
  | false=>rw[hb] at hx;exact h.num x o hx
 ·
  unfold AH.get at hx;obtain⟨o,h1,h2⟩:=Wa.1 hx;simp only[AH.look] at h1
  cases hb:Wd r x with
  |
   true =>
   rw[hb] at h1;cases h1
   cases q with
   | zero=>cases h2;exact he
   | succ q=>cases h2
  |
   false =>
   rw[hb] at h1;exact h.val x q sz2 els2 g2 (by unfold AH.get;rw[show AH.look H x=some o from h1];exact h2)
theorem HighH.nil (n:Nat):HighH n []:=⟨fun r o h=>(by cases h),fun r q sz els g h=>(by cases h)⟩
theorem HighH.cons {n r sz g:Nat} {els:List (List AV)} {H:AH} (hr:n≤r) (he:∀c∈els,∀v∈c,AV.From n v) (h:HighH n H):HighH n ((r,.row sz els g)::H):=by
 refine⟨fun x o hx=>?_,fun x q sz2 els2 g2 hx=>?_⟩
 ·
  simp only[AH.look] at hx
  cases hb:Wd r x with
  | true=>rw[←zL hb];exact hr
  | false=>rw[hb] at hx;exact h.num x o hx
 ·
  unfold AH.get at hx;obtain⟨o,h1,h2⟩:=Wa.1 hx;simp only[AH.look] at h1
  cases hb:Wd r x with
  |
   true =>
   rw[hb] at h1;cases h1
   cases q with
   | zero=>cases h2;exact he
   | succ q=>cases h2
  |
   false =>
   rw[hb] at h1;exact h.val x q sz2 els2 g2 (by unfold AH.get;rw[show AH.look H x=some o from h1];exact h2)
theorem zqE {n:Nat} {v:AV} (h:AV.Below n v):∀c∈[[v]],∀x∈c,AV.Below n x:=fun c hc x hx=>by rw[Wn.1 hc] at hx;rw[Wn.1 hx];exact h
theorem cellF {n:Nat} {v:AV} (h:AV.From n v):∀c∈[[v]],∀x∈c,AV.From n x:=fun c hc x hx=>by rw[Wn.1 hc] at hx;rw[Wn.1 hx];exact h
end Go.Ab
namespace Go.Proofs
open Go.RowKit Go.Maps Go.Sort Go.Shelf
def ztf:Go.Shelf.Ren:=⟨fun|5=>44|8=>92|7=>91|19=>149|20=>150|10=>140|11=>141|12=>142|13=>143|14=>144|15=>145|16=>146|17=>147|18=>148|30=>185|31=>186|32=>187|33=>188|34=>189|35=>190|40=>202|n=>n,fun|23=>29|25=>3|3=>3|32=>130|22=>29|0=>0|44=>22|46=>173|4=>4|36=>177|35=>176|41=>124|5=>5|9=>9|53=>205|57=>209|63=>221|64=>222|n=>n,fun|n=>n⟩
theorem zxw:Go.Proofs.SlLaysM.n5 Tryz.prog ztf:={
 mixed:=by kernel_rfl,
 f5:=⟨Tryz.f44.name,by decide,Tryz.func44.trans (congrArg some (by kernel_rfl))⟩,
 f7:=⟨Tryz.f91.name,by decide,Tryz.func91.trans (congrArg some (by kernel_rfl))⟩,
 f8:=Tryz.func92.trans (congrArg some (by kernel_rfl)),
 f10:=⟨Tryz.f140.name,by decide,Tryz.func140.trans (congrArg some (by kernel_rfl))⟩,
 f11:=⟨Tryz.f141.name,by decide,Tryz.func141.trans (congrArg some (by kernel_rfl))⟩,
 f12:=⟨Tryz.f142.name,by decide,Tryz.func142.trans (congrArg some (by kernel_rfl))⟩,
 f13:=⟨Tryz.f143.name,by decide,Tryz.func143.trans (congrArg some (by kernel_rfl))⟩,
 f14:=⟨Tryz.f144.name,by decide,Tryz.func144.trans (congrArg some (by kernel_rfl))⟩,
 f15:=⟨Tryz.f145.name,by decide,Tryz.func145.trans (congrArg some (by kernel_rfl))⟩,
 f16:=⟨Tryz.f146.name,by decide,Tryz.func146.trans (congrArg some (by kernel_rfl))⟩,
 f17:=⟨Tryz.f147.name,by decide,Tryz.func147.trans (congrArg some (by kernel_rfl))⟩,
 f18:=⟨Tryz.f148.name,by decide,Tryz.func148.trans (congrArg some (by kernel_rfl))⟩,
 f19:=Tryz.func149.trans (congrArg some (by kernel_rfl)),
 f20:=Tryz.func150.trans (congrArg some (by kernel_rfl)),
 f30:=⟨Tryz.f185.name,by decide,Tryz.func185.trans (congrArg some (by kernel_rfl))⟩,
 f31:=Tryz.func186.trans (congrArg some (by kernel_rfl)),
 f32:=Tryz.func187.trans (congrArg some (by kernel_rfl)),
 f33:=⟨Tryz.f188.name,by decide,Tryz.func188.trans (congrArg some (by kernel_rfl))⟩,
 f34:=⟨Tryz.f189.name,by decide,Tryz.func189.trans (congrArg some (by kernel_rfl))⟩,
 f35:=⟨Tryz.f190.name,by decide,Tryz.func190.trans (congrArg some (by kernel_rfl))⟩,
 f40:=⟨Tryz.f202.name,by decide,Tryz.func202.trans (congrArg some (by kernel_rfl))⟩,
 t0:=Tryz.underlying0,
 a0:=Tryz.isAgg0,
 z0:=Tryz.sizeOf0,
 v0:=Tryz.zeroValue0,
 t3:=Tryz.underlying3,
 a3:=Tryz.isAgg3,
 z3:=Tryz.sizeOf3,
 v3:=Tryz.zeroValue3,
 t4:=Tryz.underlying4,
 a4:=Tryz.isAgg4,
 z4:=Tryz.sizeOf4,
 v4:=Tryz.zeroValue4,
 t5:=Tryz.underlying5,
 a5:=Tryz.isAgg5,
 z5:=Tryz.sizeOf5,
 v5:=Tryz.zeroValue5,
 t9:=Tryz.underlying9,
 a9:=Tryz.isAgg9,
 z9:=Tryz.sizeOf9,
 v9:=Tryz.zeroValue9,
 t22:=Tryz.underlying29,
 a22:=Tryz.isAgg29,
 z22:=Tryz.sizeOf29,
 v22:=Tryz.zeroValue29,
 t23:=Tryz.underlying29,
 a23:=Tryz.isAgg29,
 z23:=Tryz.sizeOf29,
 v23:=Tryz.zeroValue29,
 t25:=Tryz.underlying3,
 a25:=Tryz.isAgg3,
 z25:=Tryz.sizeOf3,
 v25:=Tryz.zeroValue3,
 t32:=Tryz.underlying130,
 a32:=Tryz.isAgg130,
 z32:=Tryz.sizeOf130,
 v32:=Tryz.zeroValue130,
 t35:=Tryz.underlying176,
 a35:=Tryz.isAgg176,
 z35:=Tryz.sizeOf176,
 v35:=Tryz.zeroValue176,
 t36:=Tryz.underlying177,
 a36:=Tryz.isAgg177,
 z36:=Tryz.sizeOf177,
 v36:=Tryz.zeroValue177,
 t41:=Tryz.underlying124,
 a41:=Tryz.isAgg124,
 z41:=Tryz.sizeOf124,
 v41:=Tryz.zeroValue124,
 t44:=Tryz.underlying22,
 a44:=Tryz.isAgg22,
 z44:=Tryz.sizeOf22,
 v44:=Tryz.zeroValue22,
 t46:=Tryz.underlying173,
 a46:=Tryz.isAgg173,
 z46:=Tryz.sizeOf173,
 v46:=Tryz.zeroValue173,
 t53:=Tryz.underlying205,
 a53:=Tryz.isAgg205,
 z53:=Tryz.sizeOf205,
 v53:=Tryz.zeroValue205,
 t57:=Tryz.underlying209,
 a57:=Tryz.isAgg209,
 z57:=Tryz.sizeOf209,
 v57:=Tryz.zeroValue209,
 t63:=Tryz.underlying221,
 a63:=Tryz.isAgg221,
 z63:=Tryz.sizeOf221,
 v63:=Tryz.zeroValue221,
 t64:=Tryz.underlying222,
 a64:=Tryz.isAgg222,
 z64:=Tryz.sizeOf222,
 v64:=Tryz.zeroValue222 }
end Go.Proofs
namespace Go.Ab.Dm
abbrev Adj:=List (List Nat)
def suc (E:Adj) (k:Nat):List Nat:=E.getD k []
def Adj.ok (E:Adj):Prop:=∀k,∀n∈suc E k,n < E.length
def zeE (x:Int) (out:List Nat) (c:Nat):List Nat:=if (c:Int)≠x∧c∉out then out++[c] else out
def zu9 (E:Adj) (x:Int):Nat→Nat→List Nat→List Nat
 | 0,_,out=>out
 |
  f+1,i,out=>match out[i]? with
  | some b=>zu9 E x f (i+1) ((suc E b).foldl (zeE x) out)
  | none=>out
def zxk (E:Adj) (a x:Int):List Nat:=if a=x∨a < 0∨(E.length:Int)≤a then [] else zu9 E x E.length 0 [a.toNat]
def reachL (E:Adj):List Bool:=(List.range E.length).map fun b=>decide (b∈zxk E 0 (-1))
def dfs (E:Adj):Nat→Nat→List Nat × List Nat→List Nat × List Nat
 | 0,_,s=>s
 |
  f+1,k,s =>
  let s1:=(suc E k).foldl (fun s n=>if n∈s.1 then s else dfs E f n s) (s.1++[k],s.2)
  (s1.1,s1.2++[k])
def orderL (E:Adj):List Nat:=if E.length=0 then [] else (dfs E E.length 0 ([],[])).2.reverse
inductive RA (E:Adj) (X:Nat→Prop) (a:Nat):Nat→Prop
 | refl:¬X a→RA E X a a
 | step {b c:Nat}:RA E X a b→c∈suc E b→¬X c→RA E X a c
end Go.Ab.Dm
