/-
  Part 3 of the proof: how the calls of this program run, over values instead of memory, and what each function computes.
-/
import Derived.Sort.LoopGhostIn
import Derived.OrdersIn
import Derived.TacticsIn
import Derived.RangeFuncCalls
import Derived.RangeFuncBound
import Derived.RangeFuncRecord
import Derived.RangeFuncLeaves
import Derived.Deep.LoopGhost
import Derived.Scope
import Derived.ScopeJumps
import Derived.Test.YtihlaappclhhaaaGreatKb
set_option maxRecDepth 100000
set_option linter.unusedVariables false
set_option linter.unusedSimpArgs false
set_option linter.unnecessarySimpa false
set_option linter.unusedSectionVars false
open Option renaming bind_eq_some_iff→Wa,bind_eq_bind→Wc,map_eq_some_iff→Wi,bind_some→WK
open List renaming getElem?_eq_getElem→Wd,mem_of_getElem?→Wk,getD→Wm,mem_filter→Wp,getD_cons_succ→Wq,getD_cons_zero→Wr,mem_append→Wt,mem_cons_of_mem→Wv,all_eq_true→Ww,replicate→Wy,mem_range→Wz,getElem_mem→WA,getElem_of_mem→WB,getElem?_cons_succ→WC,mem_cons→WD,range→WE,getElem?_map→WF,flatMap_cons→WG,mapM_cons→WH,getElem?_eq_some_iff→WJ,eq_nil_iff_forall_not_mem→WO,getElem?_append_left→WQ,getElem?_append_right→WR
open Option.some renaming injEq→We
open Nat renaming le_refl→Wf,le_trans→Wh,lt_of_lt_of_le→Wj,eq_zero_or_pos→Ws,not_lt→Wx,zero_le→WI
open Bool renaming and_eq_true→Wg,not_eq_true'→Wl
open Array renaming getD_eq_getD_getElem?→Wn,getElem?_eq_getElem→Wo,getElem?_eq_some_iff→Wu,toArray_toList→WL,getElem_mem→WM,getElem_of_mem→WN,mem_filter→WP
namespace Go.Ab
open Go.RowKit
section
variable {P:Program} {w:World} {L:Nat→Prop} {ι:Inj} {H:AH} {nx:Nat} {M:Nat→Prop}
theorem zFb(x:XOp)(l:List AV):nx≤(xopR x l H nx).nx:=by
 unfold xopR
 split<;>(try unfold zwT)<;>simp only[zq4,zm2,seqR,ztv,b2sR,s2bR,zpQ,minR,eqsR,sl3R,zjV,znz,zpA,zoH,zgQ,ztk,zrq,zlN,zvV,apzR,bad]<;>(repeat' split)<;>simp
theorem zwi{o:Oper}{a:AOp}(h:zyX P o=some a):(∃x xs,a=.xop x xs)∨(∃x,a=.mnext x)∨∃z ps,a=.build z ps:=by
 unfold zyX at h
 cases hop:o.op<;>rw[hop] at h<;>(try (cases h;done))<;>simp only at h<;>(repeat' split at h) <;>
  first
  | (cases h;done)
  | (obtain⟨_,_,rfl⟩:=Wi.1 h;first|exact .inl ⟨_,_,rfl⟩|exact .inr (.inl ⟨_,rfl⟩))
  | (simp only[Wc,Wa,We] at h;obtain⟨_,_,rfl⟩:=h;exact .inr (.inr ⟨_,_,rfl⟩))
  | (simp only[Wc,Wa,We] at h;obtain⟨_,_,_,_,rfl⟩:=h;exact .inl ⟨_,_,rfl⟩)
  | (simp only[Wc,Wa,We] at h;obtain⟨_,_,_,_,_,_,rfl⟩:=h;exact .inl ⟨_,_,rfl⟩)
theorem zy0{o:Oper}{a:AOp}(h:cyop P o=some a):(∃x xs,a=.xop x xs)∨(∃x,a=.mnext x)∨∃z ps,a=.build z ps:=by
 unfold cyop at h;split at h
 · rename_i a0 h0;cases h;exact zwi h0
 · cases h;exact .inl ⟨_,_,rfl⟩
theorem zlF{o:Oper}{a:AOp}(h:cop P o=some a)(hx:(∃x xs,a=.xop x xs)∨(∃x,a=.mnext x)∨(∃z ps,a=.build z ps)→False):cop0 P o=some a:=by
 unfold cop at h;split at h
 · rename_i a0 h0;rw[h0];exact h
 ·
  split at h
  · cases h;exact(hx (.inl ⟨_,_,rfl⟩)).elim
  · exact(hx (zy0 h)).elim
theorem zAg(o:AOp)(ρ:Nat→AV):nx≤(aop o ρ H nx).nx:=by
 cases o<;>simp only[aop,zqk,zpR,zfo,zhu,idxR,zeg,fldR,lenR,zrD,binI,eqB,unR,zqa,zli,zgf,boxR,zrt,zel,zn5,zo4,zhR,cutR,zhn,zj0,extR,bad]<;>(try exact zFb _ _) <;>
  (repeat' split)<;>simp
def zrm(m:Nat):Deferred:={ target:=.collected m,args:=#[] }
def zmx(n0:Nat)(w:World)(X:Nat→Prop)(ds:List Deferred):Prop :=
 ∃ms:List Nat,ds=ms.map zrm∧ms.Nodup∧∀m∈ms,n0≤m∧w.heap[m]? = some (.deferred (some []))∧¬X m
theorem zmx.nil{n0:Nat}{w:World}{X:Nat→Prop}:zmx n0 w X []:=⟨[],rfl,.nil,fun _ h=>by cases h⟩
theorem zmx.less{n0:Nat}{w:World}{X X':Nat→Prop}{ds:List Deferred}(h:zmx n0 w X ds)(hl:∀b,X' b→X b):zmx n0 w X' ds :=
 let ⟨ms,h1,h2,h3⟩:=h;⟨ms,h1,h2,fun m hm=>⟨(h3 m hm).1,(h3 m hm).2.1,fun hh=>(h3 m hm).2.2 (hl m hh)⟩⟩
theorem zmx.go{n0:Nat}{w w':World}{X X':Nat→Prop}{ds:List Deferred}(h:zmx n0 w X ds)(hw:∀b,b < w.heap.size→¬X b→w'.heap[b]? = w.heap[b]? ∧ ¬X' b):zmx n0 w' X' ds:=by obtain⟨ms,h1,h2,h3⟩:=h;refine⟨ms,h1,h2,fun m hm=>?_⟩;obtain⟨h4,h5,h6⟩:=h3 m hm;obtain⟨h7,h8⟩:=hw m (Wu.1 h5).1 h6;exact⟨h4,h7.trans h5,h8⟩
theorem zmx.step{n0:Nat}{w w':World}{L:Nat→Prop}{ι ι':Inj}{H H':AH}{nx nx':Nat}{ds:List Deferred}(h:zmx n0 w (Lt L ι H) ds)(s:Step w L ι H nx w' ι' H' nx'):zmx n0 w' (Lt L ι' H') ds :=
 h.go fun b hb hn=>⟨s.ext.block b hb (fun hl=>hn (.inr hl)),fun hx=>by
  rcases hx with hx|hx
  · exact hn (.inl hx)
  ·
   rcases s.lv b hx with h|h
   · exact hn (.inr h)
   · omega⟩
structure In(nt n0:Nat)(w0:World)(L:Nat→Prop)(ι0:Inj)(H0:AH)(B:Nat)(w:World)(ι:Inj)(ρ:Nat→AV)(H:AH)(nx:Nat)(a:Act):Prop where
 size:a.tmps.size=nt
 defers:zmx n0 w (Lt L ι H) a.defers
 st:Step w0 L ι0 H0 B w ι H nx
 le:B≤nx
 kn:KOk w (Lt L ι H) ι a.tmps ρ
def upd(ρ:Nat→AV):Option Nat→AV→Nat→AV
 | none,_=>ρ
 | some d,v=>fun i=>if i=d then v else ρ i
theorem znT(K:Kn)(d:Option Nat)(v:AV):(setO K d v).get=upd K.get d v:=by
 funext i
 cases d with
 | none=>rfl
 | some d=>exact Kn.get_set K d v i
variable {nt n0:Nat} {w0:World} {ι0:Inj} {H0:AH} {B:Nat} {ρ:Nat→AV} {a:Act}
theorem zsN{tmps:Array Value}{d i:Nat}{v:Value}(hd:d < tmps.size):(tmps.setIfInBounds d v).getD i undef=if i=d then v else tmps.getD i undef:=by
 simp only[Wn]
 by_cases h:i=d
 · subst h;simp[hd]
 · rw[if_neg h,Array.getElem?_setIfInBounds_ne (Ne.symm h)]
theorem In.put {d:Option Nat} (hd:ztO nt d=true) (hin:In nt n0 w0 L ι0 H0 B w ι ρ H nx a) {w':World} {ι':Inj} {H':AH} {nx':Nat} (st:Step w L ι H nx w' ι' H' nx') (hle:nx≤nx') {v:Value} {av:AV}
  (hv:VR w' (Lt L ι' H') ι' v av):In nt n0 w0 L ι0 H0 B w' ι' (upd ρ d av) H' nx' (a.put d v):=by
 cases d with
 | none=>exact⟨hin.size,hin.defers.step st,hin.st.trans st,Wh hin.le hle,fun i=>st.vr (hin.kn i)⟩
 |
  some d =>
  have hd':d < a.tmps.size:=by rw[hin.size];simpa [ztO] using hd
  refine⟨by simp[Act.put,hin.size],hin.defers.step st,hin.st.trans st,Wh hin.le hle,fun i=>?_⟩;show VR w' (Lt L ι' H') ι' ((a.tmps.setIfInBounds d v).getD i undef) (if i=d then av else ρ i);rw[zsN hd'];split
  · exact hv
  · exact st.vr (hin.kn i)
structure OpRel(P:Program)(nt:Nat)(ops:Array Oper)(o:Oper)(ao:AOper):Prop where
 dst:ao.dst=o.dst
 ok:ztO nt o.dst=true
 guard:match o.guard with
  | none=>ao.guard=none
  | some (j,want)=>∃t,(ops[j]?).bind (·.dst)=some t∧ao.guard=some (t,want)
 op:∃op0,cop P o=some op0∧(ao.op=op0∨(∃f xs,op0=.call f xs∧ao.op=.callq f xs)∨(∃x,op0=.box x∧ao.op=.rbox x)∨(∃s l z ps,op0=.buildSl s l z ps∧ao.op=.rbuildSl s l z ps)∨∃s b x y,op0=.append s b x y∧ao.op=.append2 s b x y)
theorem zAV{ops:Array Oper}{o:Oper}{ao:AOper}(h:zCX P nt ops o=some ao):OpRel P nt ops o ao:=by
 unfold zCX at h;split at h
 ·
  rename_i hd;split at h
  ·
   rename_i op0 hop;split at h
   · rename_i hg;cases h;exact⟨rfl,hd,by rw[hg],op0,hop,.inl rfl⟩
   ·
    rename_i j want hg;split at h
    · rename_i t ht;cases h;exact⟨rfl,hd,by rw[hg];exact⟨t,ht,rfl⟩,op0,hop,.inl rfl⟩
    · cases h
  · cases h
 · cases h
theorem OpRel.quiet{ops:Array Oper}{o:Oper}{ao:AOper}(h:OpRel P nt ops o ao):OpRel P nt ops o ao.quiet:=by
 unfold AOper.quiet;split
 ·
  rename_i f xs hop;obtain⟨op0,h1,h2⟩:=h.op;refine⟨h.dst,h.ok,h.guard,op0,h1,.inr (.inl ⟨f,xs,?_,rfl⟩)⟩
  rcases h2 with h2 | ⟨f',xs',h3,h4⟩ | ⟨x,h3,h4⟩ | ⟨_,_,_,_,h3,h4⟩ | ⟨_,_,_,_,h3,h4⟩
  · rw[←h2,hop]
  · rw[h4] at hop;cases hop
  · rw[h4] at hop;cases hop
  · rw[h4] at hop;cases hop
  · rw[h4] at hop;cases hop
 · exact h
theorem zzN{ops:Array Oper}{o:Oper}{ao:AOper}(h:OpRel P nt ops o ao)(hk:KOk w M ι a.tmps ρ):
  match ao.guard with
  | none=>Region.wanted o (yielded ops a.tmps)=true
  | some (t,want)=>∀r,grd want (ρ t)=some r→Region.wanted o (yielded ops a.tmps)=r:=by
 have hg:=h.guard
 cases hog:o.guard with
 |
  none =>
  rw[hog] at hg;rw[hg];simp[Region.wanted,hog]
 |
  some p =>
  obtain⟨j,want⟩:=p;rw[hog] at hg;obtain⟨t,ht,hg⟩:=hg;rw[hg];intro r hr;have hv:=hk t
  cases hb:ρ t<;>rw[hb] at hr<;>try (cases hr;done)
  rotate_left
  ·
   rename_i cs
   cases cs with
   | cons _ _=>cases hr
   |
    nil =>
    cases hr;rw[hb] at hv
    have hval:a.tmps.getD t undef=.tuple #[]:=by
     generalize a.tmps.getD t undef=u at hv
     cases hv with
     |
      tup _ cs _ hs _ =>
      have:cs=#[]:=Array.eq_empty_of_size_eq_zero (by simpa using hs);rw[this]
    have hget:a.tmps[t]? = some (.tuple #[])∨a.tmps[t]? = none:=by
     rw[Wn] at hval
     cases hq:a.tmps[t]? with
     | none=>exact .inr rfl
     | some u=>rw[hq] at hval;simp at hval;exact .inl (by rw[hval])
    rcases hget with hget|hget<;>simp only[Region.wanted,hog,yielded,ht,WK,hget]<;>rfl
  rename_i b;cases hr;rw[hb] at hv
  have hval:a.tmps.getD t undef=.bool b:=by generalize a.tmps.getD t undef=u at hv;cases hv;rfl
  have hget:a.tmps[t]? = some (.bool b):=by
   rw[Wn] at hval
   cases hq:a.tmps[t]? with
   | none=>rw[hq] at hval;simp[undef] at hval
   | some u=>rw[hq] at hval;simp at hval;rw[hval]
  simp only[Region.wanted,hog,yielded,ht,WK,hget]
  cases b<;>cases want<;>rfl
theorem zpa{f:FuncId}(hf:zf7 P f=true)(args:Array Value)(w:World):(callFunc f args).run P w=.ok (.enter f args) w:=by
 unfold zf7 at hf;split at hf
 ·
  rename_i fn hfn;simp only[Wg,Wl] at hf
  have h1:¬fn.body=none:=by intro hb;rw[hb] at hf;simp at hf
  have h2:¬fn.name="runtime.NumGoroutine":=by intro hb;rw[hb] at hf;simp at hf
  simp[callFunc,Sem.run_bind,hfn,h2,h1]
 · cases hf
theorem zmP{o:Oper}{c:Call}{x:Operand}{f:FuncId}{caps:Array Value}(ho:o.op=.call c)(hc:c.callee=.value x)(hx:a.eval x=.func (.func f) #[] caps)(hf:zf7 P f=true):
  (execOp a.eval o).run P w=.ok (.enter f (c.args.map a.eval++caps)) w:=by
 simp[execOp,ho,resolve,hc,hx,Deferred.ofValue,Sem.run_bind,invoke,zpa hf]
theorem zm0.mono{x:AV}{k k':AV→AH→Nat→Prop}(hk:∀v H nx,k v H nx→k' v H nx)(h:zm0 x H nx k):zm0 x H nx k':=by
 unfold zm0 at *;split at h
 ·
  split at h
  ·
   split at h
   · exact⟨h.1,fun e=>hk _ _ _ (h.2.1 e),fun e he=>hk _ _ _ (h.2.2 e he)⟩
   · exact h
  · exact⟨h.1,hk _ _ _ h.2⟩
  · exact h
 · exact h
theorem zc9{fx:Bool}{op:AOp}{k k':AV→AH→Nat→Prop}(hk:∀v H nx,k v H nx→k' v H nx)(h:zdG P fx op ρ H nx k):zdG P fx op ρ H nx k':=by
 have hcall:∀f args,zU P f args H nx (fun v H' nx'=>(bif fx then v.wf else True)→k v H' nx')→zU P f args H nx (fun v H' nx'=>(bif fx then v.wf else True)→k' v H' nx'):=by
  intro f args h w L ι vs h1 h2
  exact(h w L ι vs h1 h2).mono fun e w' ⟨v,ι',H',nx',a,h3,h4,h5,h6,h7⟩=>⟨v,ι',H',nx',a,h3,h4,h5,h6,fun hw=>hk _ _ _ (h7 hw)⟩
 unfold zdG at *
 cases op with
 | call f args=>exact hcall _ _ h
 | callq f args=>exact let ⟨a,h1,h2⟩:=h;⟨a,h1,hk _ _ _ h2⟩
 | mnext x=>exact zm0.mono hk h
 | append2 sz b x y=>exact znI.mono hk h
 |
  isnil n p x =>
  simp only at h ⊢;split at h
  · exact hk _ _ _ h
  · exact fun b=>hk _ _ _ (h b)
  · exact h
 |
  callv x args =>
  simp only at h ⊢
  cases hx:ev ρ x with
  |
   fn g caps =>
   rw[hx] at h
   cases g<;>first|exact⟨h.1,hcall _ _ h.2⟩|exact h
  | _=>rw[hx] at h;exact h
 | _=>exact⟨h.1,fun hf=>hk _ _ _ (h.2 hf)⟩
def ExF(P:Program)(fx:Bool)(o:AOper)(ρ:Nat→AV)(H:AH)(nx:Nat)(k:(Nat→AV)→AH→Nat→Prop):Prop :=
 match o.guard with
 | none=>zdG P fx o.op ρ H nx (fun v H' nx'=>k (upd ρ o.dst v) H' nx')
 |
  some (t,want)=>match grd want (ρ t) with
  | some r=>zhf r (zdG P fx o.op ρ H nx (fun v H' nx'=>k (upd ρ o.dst v) H' nx')) (k (upd ρ o.dst (.tup [])) H nx)
  | none=>False
theorem zqH{fx:Bool}{o:AOper}{K:Kn}{k:Kn→AH→Nat→Prop}{k':(Nat→AV)→AH→Nat→Prop}(hk:∀K H nx,k K H nx→k' K.get H nx)(h:ExK P fx o K H nx k):ExF P fx o K.get H nx k':=by
 have key:zdG P fx o.op K.get H nx (fun v H' nx'=>k (setO K o.dst v) H' nx')→zdG P fx o.op K.get H nx (fun v H' nx'=>k' (upd K.get o.dst v) H' nx') :=
  zc9 fun v H nx h=>by rw[←znT];exact hk _ _ _ h
 unfold ExK at h;unfold ExF
 cases hg:o.guard with
 | none=>rw[hg] at h;exact key h
 |
  some p =>
  obtain⟨t,want⟩:=p;rw[hg] at h;simp only at h ⊢
  cases hv:grd want (K.get t) with
  |
   some b =>
   rw[hv] at h;exact⟨fun e=>key (h.1 e),fun e=>by rw[←znT];exact hk _ _ _ (h.2 e)⟩
  | none=>rw[hv] at h;exact h
theorem zxj{o:Oper}{f:FuncId}{xs:List AOpd}(h:cop P o=some (.call f xs)):∃c,o.op=.call c∧c.callee=.value (.func f)∧c.args.toList.mapM copd=some xs∧zf7 P f=true:=by
 replace h:=zlF h (by rintro(⟨_,_,e⟩ | ⟨_,e⟩ | ⟨_,_,e⟩)<;>cases e);unfold cop0 at h
 cases hop:o.op with
 |
  call c =>
  rw[hop] at h;simp only at h;split at h
  ·
   rename_i b hb;exfalso;unfold zfS at h
   (repeat' split at h)<;>first | (cases h;done) | (simp at h;done) | (simp[Wa] at h;done)
  ·
   rename_i f' hc;split at h
   ·
    rename_i fn hfn;split at h
    · rename_i hgood;obtain⟨ys,hy,he⟩:=Wi.1 h;cases he;refine⟨c,rfl,hc,hy,?_⟩;simp[zf7,hfn,hgood.1,hgood.2]
    · cases h
   · cases h
  · obtain⟨ys,hy,he⟩:=Wi.1 h;cases he
  · cases h
 |
  _ =>
  rw[hop] at h;simp only at h;exfalso
  (repeat' split at h)<;>first | (cases h;done) | (simp at h;done) | (simp[Wa] at h;done) | (simp only[Wc,Wa] at h;obtain⟨_,_,_,_,_,_,h⟩:=h;split at h<;>simp[Wa] at h;done)
theorem zuN{o:Oper}{x:AOpd}{xs:List AOpd}(h:cop P o=some (.callv x xs)):∃c t,o.op=.call c∧c.callee=.value (.tmp t)∧c.args.toList.mapM copd=some xs∧x=.t t:=by
 replace h:=zlF h (by rintro(⟨_,_,e⟩ | ⟨_,e⟩ | ⟨_,_,e⟩)<;>cases e);unfold cop0 at h
 cases hop:o.op with
 |
  call c =>
  rw[hop] at h;simp only at h;split at h
  ·
   rename_i b hb;exfalso;unfold zfS at h
   (repeat' split at h)<;>first | (cases h;done) | (simp at h;done) | (simp[Wa] at h;done)
  ·
   split at h
   ·
    split at h
    · obtain⟨ys,hy,he⟩:=Wi.1 h;cases he
    · cases h
   · cases h
  · rename_i t hc;obtain⟨ys,hy,he⟩:=Wi.1 h;cases he;exact⟨c,t,rfl,hc,hy,rfl⟩
  · cases h
 |
  _ =>
  rw[hop] at h;simp only at h;exfalso
  (repeat' split at h)<;>first | (cases h;done) | (simp at h;done) | (simp[Wa] at h;done) | (simp only[Wc,Wa] at h;obtain⟨_,_,_,_,_,_,h⟩:=h;split at h<;>simp[Wa] at h;done)
theorem zAs{o:Oper}{f:FuncId}{xs:List AOpd}(h:cop P o=some (.callq f xs)):False:=by
 replace h:=zlF h (by rintro(⟨_,_,e⟩ | ⟨_,e⟩ | ⟨_,_,e⟩)<;>cases e);unfold cop0 at h
 cases hop:o.op with
 |
  call c =>
  rw[hop] at h;simp only at h;split at h
  ·
   unfold zfS at h
   (repeat' split at h)<;>first | (cases h;done) | (simp at h;done) | (simp[Wa] at h;done)
  · (repeat' split at h)<;>first | (cases h;done) | (simp at h;done)
  · simp at h
  · cases h
 |
  _ =>
  rw[hop] at h;simp only at h
  (repeat' split at h)<;>first | (cases h;done) | (simp at h;done) | (simp[Wa] at h;done) | (simp only[Wc,Wa] at h;obtain⟨_,_,_,_,_,_,h⟩:=h;split at h<;>simp[Wa] at h;done)
theorem zvY{o:Oper}{s b:Nat}{x y:AOpd}(h:cop P o=some (.append2 s b x y)):False:=by
 replace h:=zlF h (by rintro(⟨_,_,e⟩ | ⟨_,e⟩ | ⟨_,_,e⟩)<;>cases e);unfold cop0 at h
 cases hop:o.op with
 |
  call c =>
  rw[hop] at h;simp only at h;split at h
  ·
   unfold zfS at h
   (repeat' split at h)<;>first | (cases h;done) | (simp at h;done) | (simp[Wa] at h;done)
  · (repeat' split at h)<;>first | (cases h;done) | (simp at h;done)
  · simp at h
  · cases h
 |
  _ =>
  rw[hop] at h;simp only at h
  (repeat' split at h)<;>first | (cases h;done) | (simp at h;done) | (simp[Wa] at h;done) | (simp only[Wc,Wa] at h;obtain⟨_,_,_,_,_,_,h⟩:=h;split at h<;>simp[Wa] at h;done)
theorem zyg{o:Oper}{s b:Nat}{x y:AOpd}(h:cop P o=some (.append s b x y)):∃c t u xo yo e e' i z,o.op=.call c∧c.callee=.builtin .append∧c.argTypes=#[t,u]∧c.args=#[xo,yo] ∧
  P.underlying t=some (.slice e)∧P.underlying u=some (.slice e')∧P.info? e=some i∧zhq P e=some z∧s=i.size∧b=i.bytes∧0 < i.size∧0 < i.bytes∧copd xo=some x∧copd yo=some y:=by
 replace h:=zlF h (by rintro(⟨_,_,e⟩ | ⟨_,e⟩ | ⟨_,_,e⟩)<;>cases e);unfold cop0 at h
 cases hop:o.op with
 |
  call c =>
  rw[hop] at h;simp only at h;split at h
  ·
   rename_i bb hb;unfold zfS at h;split at h
   ·
    exfalso
    (repeat' split at h)<;>first | (cases h;done) | (simp at h;done) | (simp[Wa] at h;done)
   ·
    rename_i t u xo yo ht hx
    have hat:c.argTypes=#[t,u]:=by rw[←WL (xs:=c.argTypes),ht]
    have hax:c.args=#[xo,yo]:=by rw[←WL (xs:=c.args),hx]
    split at h
    ·
     rename_i e e' hu hu';split at h
     ·
      rename_i i z hi hz;split at h
      · rename_i hc;simp only[Wc,Wa,We] at h;obtain⟨x',hx',y',hy',he⟩:=h;cases he;exact⟨c,t,u,xo,yo,e,e',i,z,rfl,hb,hat,hax,hu,hu',hi,hz,rfl,rfl,hc.2.1,hc.2.2,hx',hy'⟩
      · cases h
     · cases h
    · cases h
   ·
    exfalso
    (repeat' split at h)<;>first | (cases h;done) | (simp at h;done) | (simp[Wa] at h;done)
   · cases h
  ·
   exfalso
   (repeat' split at h)<;>first | (cases h;done) | (simp at h;done)
  · exfalso;simp at h
  · cases h
 |
  _ =>
  rw[hop] at h;exfalso;simp only at h
  (repeat' split at h)<;>first | (cases h;done) | (simp at h;done) | (simp[Wa] at h;done) | (simp only[Wc,Wa] at h;obtain⟨_,_,_,_,_,_,h⟩:=h;split at h<;>simp[Wa] at h;done)
theorem zAA{o:Oper}{neg p:Bool}{x:AOpd}(h:cop P o=some (.isnil neg p x)):∃t xo yt,o.op=.binOp (bif neg then .neq else .eql) t xo (.const (bif p then .pointer none else .slice none 0 0)) yt∧copd xo=some x ∧
  ∃d,P.underlying t=some d∧(bif p then ∃e,d=.pointer e else ∃e,d=.slice e):=by
 replace h:=zlF h (by rintro(⟨_,_,e⟩ | ⟨_,e⟩ | ⟨_,_,e⟩)<;>cases e);unfold cop0 at h
 cases hop:o.op with
 |
  call c =>
  rw[hop] at h;simp only at h;split at h
  ·
   unfold zfS at h
   (repeat' split at h)<;>first | (cases h;done) | (simp at h;done) | (simp[Wa] at h;done)
  · (repeat' split at h)<;>first | (cases h;done) | (simp at h;done)
  · simp at h
  · cases h
 |
  binOp op t a b yt =>
  rw[hop] at h;simp only at h;split at h
  · simp[Wa] at h
  · (repeat' split at h)<;>first | (cases h;done) | (simp[Wa] at h;done)
  ·
   rename_i e hu;split at h
   ·
    split at h<;>first | (cases h;done)|skip
    all_goals
     obtain⟨x',hx,he⟩:=Wi.1 h;cases he;exact⟨_,_,_,rfl,hx,_,hu,_,rfl⟩
   · cases h
  ·
   rename_i e hu;split at h
   ·
    split at h<;>first | (cases h;done)|skip
    all_goals
     obtain⟨x',hx,he⟩:=Wi.1 h;cases he;exact⟨_,_,_,rfl,hx,_,hu,_,rfl⟩
   · cases h
  · cases h
 |
  _ =>
  rw[hop] at h;simp only at h;exfalso
  (repeat' split at h)<;>first | (cases h;done) | (simp at h;done) | (simp[Wa] at h;done) | (simp only[Wc,Wa] at h;obtain⟨_,_,_,_,_,_,h⟩:=h;split at h<;>simp[Wa] at h;done)
theorem zsK{t:TypeId}{d:TypeDesc}{p:Bool}(hu:P.underlying t=some d)(hd:bif p then ∃e,d=.pointer e else ∃e,d=.slice e){v:Value}{a:AV}(hv:VR w M ι v a){r:Option Bool}(hr:nilB p a=some r):
  ∃b,(∀c,r=some c→b=c)∧(Op.equal t v (bif p then .pointer none else .slice none 0 0)).run P w=.ok b w∧(∀k n,v≠.int k n)∧(∀s,v≠.string s)∧(∀k n,v≠.float k n)∧(∀k n m,v≠.complex k n m)∧v≠.nilIface∧(∀c,v≠.agg c):=by
 cases p with
 |
  false =>
  obtain⟨e,rfl⟩:=hd
  have key:∀(x:Option Addr)(n c:Nat),(Op.equal t (.slice x n c) (.slice none 0 0)).run P w=.ok x.isNone w:=by
   intro x n c;show (Op.equalIn (Op.maxDepth - 1+1) t _ _).run P w=_
   cases x<;>simp only[Op.equalIn,Sem.run_bind,run_underlying hu,Result.andThen_ok]<;>rfl
  cases hv<;>first | (cases hr;done)|skip
  case sl=>rename_i a sz n cap f V hn hb hc hL hv;exact⟨false,fun c hc=>by subst hc;cases n with|zero=>cases hr|succ n=>cases hr;rfl,key _ _ _,by simp⟩
  case sl0=>exact⟨true,fun c hc=>by subst hc;simp[nilB] at hr,key _ _ _,by simp⟩
  case nilsl=>exact⟨true,fun c hc=>by subst hc;cases hr;rfl,key _ _ _,by simp⟩
  case cut=>rename_i a;exact⟨_,fun c hc=>by subst hc;simp[nilB] at hr,key a _ _,by simp⟩
  case own =>
   rename_i r q g off n a c l hm hn hc ha h;refine⟨_,fun c' hc'=>?_,key a _ _,by simp⟩;subst hc'
   cases n with
   | zero=>simp[nilB] at hr
   |
    succ n =>
    cases hr;rw[ha (by omega)];rfl
 |
  true =>
  obtain⟨e,rfl⟩:=hd
  have key:∀(x:Option Addr),(Op.equal t (.pointer x) (.pointer none)).run P w=.ok x.isNone w:=by
   intro x;show (Op.equalIn (Op.maxDepth - 1+1) t _ _).run P w=_
   cases x<;>simp only[Op.equalIn,Sem.run_bind,run_underlying hu,Result.andThen_ok]<;>rfl
  cases hv<;>first | (cases hr;done)|skip
  case nilp=>exact⟨true,fun c hc=>by subst hc;cases hr;rfl,key _,by simp⟩
  case ptr=>exact⟨false,fun c hc=>by subst hc;cases hr;rfl,key _,by simp⟩
  case iptr=>exact⟨false,fun c hc=>by subst hc;cases hr;rfl,key _,by simp⟩
theorem zEl{o:Oper}{x:AOpd}(h:cop P o=some (.box x)):∃e xo,o.op=.box e xo∧copd xo=some x:=by
 replace h:=zlF h (by rintro(⟨_,_,e⟩ | ⟨_,e⟩ | ⟨_,_,e⟩)<;>cases e);unfold cop0 at h
 cases hop:o.op with
 |
  box e xo =>
  rw[hop] at h;obtain⟨x',hx,he⟩:=Wi.1 h;cases he;exact⟨e,xo,rfl,hx⟩
 |
  call c =>
  rw[hop] at h;exfalso;simp only[zfS] at h
  (repeat' split at h)<;>first | (cases h;done) | (simp at h;done) | (simp[Wa] at h;done)
 |
  _ =>
  rw[hop] at h;exfalso;simp only at h
  (repeat' split at h)<;>first | (cases h;done) | (simp at h;done) | (simp[Wa] at h;done) | (simp only[Wc,Wa] at h;obtain⟨_,_,_,_,_,_,h⟩:=h;split at h<;>simp[Wa] at h;done)
theorem zBi{xv:Value}{x:AV}{ty:TypeId}{k:AV→AH→Nat→Prop}(rel:RelH w L ι H nx)(hx:VR w (Lt L ι H) ι xv x)(h:zm0 x H nx k):
  ∃v w' ι' a H',(Instr.next xv false ty).run P w=.ok v w'∧Step w L ι H nx w' ι' H' nx∧VR w' (Lt L ι' H') ι' v a∧k a H' nx:=by
 have tupF:∀(w:World)(M:Nat→Prop)(ι:Inj),VR w M ι (.tuple #[.bool false]) (.tup [.bool false]):=fun w M ι=>.tup _ _ _ rfl (fun i v a h1 h2=>by
  match i with
  | 0=>cases h1;cases h2;exact .bool _ _
  | i+1=>cases h2)
 cases hx with
 |
  it _ r l hl hcap =>
  unfold zm0 at h;simp only at h;split at h
  ·
   rename_i sz rm qm since st seen g hg;split at h
   ·
    rename_i sz2 c u u' es g2 hg2;obtain⟨⟨rfl,rfl,rfl,rfl,hst,hborn,hseen⟩,hnone,hsome⟩:=h;obtain⟨l',hl',okr⟩:=rel.row _ _ _ _ _ hg;rw[hl] at hl';cases hl';have hcap:=okr.noBox (by simp) hcap;obtain⟨m,sn,sv,stp,hb,hsz,hh⟩:=okr.iter hcap;obtain⟨v0,e0,r0⟩:=hh 0 (.mp rm qm) rfl;cases e0
    cases r0 with
    |
     mp _ _ _ lm hlm hcm =>
     obtain⟨v1,e1,r1⟩:=hh 1 (.int .i64 since) rfl;cases e1
     have hsi:since=(sn:Int):=by cases r1;rfl
     subst hsi;obtain⟨v2,e2,r2⟩:=hh 2 (.int .i64 st) rfl;cases e2
     have hsi:st=(stp:Int):=by cases r2;rfl
     subst hsi;obtain⟨l'',hl'',okm⟩:=rel.row _ _ _ _ _ hg2;rw[hlm] at hl'';cases hl'';obtain⟨ms,clock,hbm,hszm,hhm⟩:=okm.map hcm
     have hms:ms.size=es.length:=by simpa using hszm
     have hc:c=(clock:Int):=by obtain⟨v3,e3,r3⟩:=hhm 0 0 _ _ rfl rfl;cases e3;cases r3;rfl
     subst hc
     have hcr:InR .i64 (clock:Int):=by obtain⟨v3,e3,r3⟩:=hhm 0 0 _ _ rfl rfl;cases e3;cases r3;assumption
     have hrow:∀(i:Nat)(e:MapEntry)(cs:List AV),ms[i]? = some e→es[i]? = some cs→∃(kk vv:AV) (b:Nat),cs=[kk,vv,.int .i64 (b:Int)]∧e.born=b∧VR w (Lt L ι H) ι e.key kk∧VR w (Lt L ι H) ι e.val vv∧InR .i64 (b:Int):=by
      intro i e cs he hcs;have hwid:=okm.wide (i+1) cs (by simpa using hcs)
      obtain⟨kk,vv,bb,rfl⟩:∃a b c,cs=[a,b,c]:=by
       match cs,hwid with
       | [a,b,c],_=>exact⟨a,b,c,rfl⟩
      obtain⟨b,hb1,_⟩:=hborn _ (Wk hcs);simp only[Wq,Wr] at hb1;subst hb1;obtain⟨f1,f2,f3⟩:=zdt (clock:=clock) he;obtain⟨w1,g1,q1⟩:=hhm (i+1) 0 _ kk (by simpa using hcs) rfl;obtain⟨w2,g2,q2⟩:=hhm (i+1) 1 _ vv (by simpa using hcs) rfl;obtain⟨w3,g3,q3⟩:=hhm (i+1) 2 _ _ (by simpa using hcs) rfl;rw[f1] at g1;cases g1;rw[f2] at g2;cases g2;rw[f3] at g3;cases g3
      cases q3 with
      | int _ _ _ hr=>exact⟨kk,vv,e.born,rfl,rfl,q1,q2,hr⟩
     have hsv:∀(i:Nat)(b:Nat),sv[i]? = some b→seen[i]? = some [.int .i64 (b:Int)]:=by
      intro i b hi
      have hlt:i < seen.length:=by have:=(Wu.1 hi).1;simp at hsz;omega
      obtain⟨b',hb'⟩:=hseen _ (WA hlt);obtain⟨v3,e3,r3⟩:=hh (i+3) (.int .i64 b') (by simp[Wd hlt,hb']);rw[zo6 hi] at e3;cases e3;rw[Wd hlt,hb'];cases r3;rfl
     have hin:∀b:Nat,zt1 (.int .i64 (b:Int)) seen=sv.contains b:=by
      intro b;rw[Bool.eq_iff_iff,Array.contains_iff_mem];unfold zt1;rw[List.any_eq_true];constructor
      ·
       rintro⟨s,hs,hd⟩;obtain⟨i,hi,hi2⟩:=WB hs
       have hlt:i < sv.size:=by simp at hsz;omega
       have h1:=hsv i _ (Wo hlt);rw[Wd hi,hi2] at h1;cases h1;simp only[decide_eq_true_eq] at hd
       have:sv[i]=b:=by omega
       rw[←this];exact WM hlt
      · intro hm;obtain⟨i,hi,hi2⟩:=WN hm;have h1:=hsv i _ (Wo hi);rw[hi2] at h1;exact⟨_,Wk h1,by simp⟩
     have hold:∀x∈ms.toList,x.born < sn:=by
      intro x hx;obtain⟨i,hi,hi2⟩:=WB hx
      have hi':i < es.length:=by simp at hi;omega
      have hxi:ms[i]? = some x:=by rw[←Array.getElem?_toList,Wd hi,hi2]
      obtain⟨kk,vv,b,hcs,hb1,_⟩:=hrow i x _ hxi (Wd hi');obtain⟨b',hb2,hb3⟩:=hborn _ (WA hi');rw[hcs] at hb2;simp only[Wq,Wr] at hb2;cases hb2;omega
     rcases Go.run_next_at (P:=P) w ty l.block lm.block sn stp sv ms clock hb hbm hold (by omega) with ⟨hz,hrun⟩ | ⟨e,hmem,w1,hw1,hrun⟩
     ·
      refine⟨_,w,ι,.tup [.bool false],H,?_,.refl rel,tupF _ _ _,hnone ?_⟩
      · exact hrun
      ·
       rw[WO];intro cs hcs;unfold zv6 at hcs;obtain⟨h1,h2⟩:=Wp.1 hcs;obtain⟨i,hi,hi2⟩:=WB h1
       have hlt:i < ms.size:=by omega
       obtain⟨kk,vv,b,hc2,hb1,_⟩:=hrow i _ _ (Wo hlt) (by rw[Wd hi,hi2]);subst hc2;simp only[Wq,Wr,hin,Wl] at h2
       have hm:ms[i]∈leftOf ms sv:=by unfold leftOf;rw[WP];exact⟨WM hlt,by rw[hb1,h2];rfl⟩
       have:=Array.size_pos_of_mem hm;omega
     ·
      have hm0:e∈leftOf ms sv:=by simpa using hmem
      unfold leftOf at hm0;rw[WP] at hm0;obtain⟨hm1,hm2⟩:=hm0;obtain⟨i,hi,hi2⟩:=WN hm1
      have hi':i < es.length:=by omega
      have hei:es[i]? = some es[i]:=Wd hi';obtain⟨kk,vv,b,hc2,hb1,hk1,hv1,hbr⟩:=hrow i e _ (by rw[Wo hi,hi2]) hei
      have hleft:es[i]∈zv6 seen es:=by unfold zv6;rw[Wp];refine⟨WA hi',?_⟩;rw[hc2];simp only[Wq,Wr,hin];rw[←hb1];exact hm2
      have hk:=hsome _ hleft;rw[hc2] at hk;simp only[Wq,Wr] at hk
      have st:=Step.itset (seen':=sv.push e.born) (st':=clock) (els':=[.mp rm qm]::[.int .i64 (sn:Int)]::[.int .i64 (clock:Int)]::(seen++[[.int .i64 (b:Int)]])) rel hw1 hg hl hcap okr hb (by simp at hsz ⊢;omega) (fun i c hi=>by
       match i with
       | 0=>cases hi;rfl
       | 1=>cases hi;rfl
       | 2=>cases hi;rfl
       |
        i+3 =>
        simp only[WC] at hi
        by_cases hlt:i < seen.length
        · rw[WQ hlt] at hi;exact okr.wide (i+3) c (by simpa using hi)
        ·
         rw[WR (by omega)] at hi
         cases hi3:i - seen.length with
         | zero=>rw[hi3] at hi;cases hi;rfl
         | succ q=>rw[hi3] at hi;cases hi) (fun i a hi=>by
       match i with
       | 0=>cases hi;exact⟨_,rfl,.mp _ _ _ _ hlm hcm⟩
       | 1=>cases hi;exact⟨_,rfl,r1⟩
       | 2=>cases hi;exact⟨_,rfl,.int _ _ _ hcr⟩
       |
        i+3 =>
        simp only[WC] at hi
        have hsl:sv.size=seen.length:=by simp at hsz;omega
        by_cases hlt:i < seen.length
        · rw[WQ hlt] at hi;obtain⟨v3,e3,r3⟩:=hh (i+3) a (by simpa using hi);refine⟨v3,?_,r3⟩;rw[←e3];exact zvi (by rw[Array.getElem?_push,if_neg (show i≠sv.size by omega)])
        ·
         rw[WR (by omega)] at hi
         cases hi3:i - seen.length with
         | succ q=>rw[hi3] at hi;cases hi
         |
          zero =>
          rw[hi3] at hi;cases hi
          have hlt2:i=sv.size:=by omega
          subst hlt2;refine⟨.int .i64 (e.born:Int),?_,?_⟩
          · exact zo6 (by simp)
          ·
           rw[hb1]
           exact .int _ _ _ hbr)
      refine⟨_,_,_,_,_,hrun,st,?_,hk⟩;refine .tup _ _ _ rfl (fun i v a h1 h2=>?_)
      match i with
      | 0=>cases h1;cases h2;exact .bool _ _
      | 1=>cases h1;cases h2;exact st.vr hk1
      | 2=>cases h1;cases h2;exact st.vr hv1
      | i+3=>cases h2
   · exact h.elim
  · rename_i sz seen g hg;obtain⟨⟨rfl,rfl⟩,hk⟩:=h;obtain⟨l',hl',okr⟩:=rel.row _ _ _ _ _ hg;rw[hl] at hl';cases hl';obtain⟨m,sn,sv,stp,hb,hsz,hh⟩:=okr.iter (okr.noBox (by simp) hcap);obtain⟨v0,e0,r0⟩:=hh 0 .nilmp rfl;cases e0;cases r0;refine⟨_,w,ι,.tup [.bool false],H,?_,.refl rel,tupF _ _ _,hk⟩;simp[Instr.next,getObj,Sem.run_bind,Sem.run,hb,Result.andThen]
  · exact h.elim
 | _=>exact h.elim
theorem OpRel.ro{ops:Array Oper}{o:Oper}{ao:AOper}{l:List Nat}(h:OpRel P nt ops o ao):OpRel P nt ops o (ao.ro l):=by
 unfold AOper.ro;split
 ·
  rename_i x d hop hd
  cases hm:memN l d with
  | false=>exact h
  |
   true =>
   obtain⟨op0,h1,h2⟩:=h.op;refine⟨h.dst,h.ok,h.guard,op0,h1,.inr (.inr (.inl ⟨x,?_,rfl⟩))⟩
   rcases h2 with h2 | ⟨f',xs',h3,h4⟩ | ⟨x',h3,h4⟩ | ⟨_,_,_,_,h3,h4⟩ | ⟨_,_,_,_,h3,h4⟩
   · rw[←h2,hop]
   · rw[h4] at hop;cases hop
   · rw[h4] at hop;cases hop
   · rw[h4] at hop;cases hop
   · rw[h4] at hop;cases hop
 ·
  rename_i sz len z ps d hop hd
  cases hm:memN l d with
  | false=>exact h
  |
   true =>
   obtain⟨op0,h1,h2⟩:=h.op;refine⟨h.dst,h.ok,h.guard,op0,h1,.inr (.inr (.inr (.inl ⟨sz,len,z,ps,?_,rfl⟩)))⟩
   rcases h2 with h2 | ⟨f',xs',h3,h4⟩ | ⟨x',h3,h4⟩ | ⟨_,_,_,_,h3,h4⟩ | ⟨_,_,_,_,h3,h4⟩
   · rw[←h2,hop]
   · rw[h4] at hop;cases hop
   · rw[h4] at hop;cases hop
   · rw[h4] at hop;cases hop
   · rw[h4] at hop;cases hop
 ·
  rename_i sz b x y d hop hd
  cases hm:memN l (d+1000) with
  | false=>exact h
  |
   true =>
   obtain⟨op0,h1,h2⟩:=h.op;refine⟨h.dst,h.ok,h.guard,op0,h1,.inr (.inr (.inr (.inr ⟨sz,b,x,y,?_,rfl⟩)))⟩
   rcases h2 with h2 | ⟨f',xs',h3,h4⟩ | ⟨x',h3,h4⟩ | ⟨_,_,_,_,h3,h4⟩ | ⟨_,_,_,_,h3,h4⟩
   · rw[←h2,hop]
   · rw[h4] at hop;cases hop
   · rw[h4] at hop;cases hop
   · rw[h4] at hop;cases hop
   · rw[h4] at hop;cases hop
 · exact h
theorem zvu{o:Oper}{sz len:Nat}{z:List AV}{ps:List (Nat × AOpd)}(h:cop P o=some (.buildSl sz len z ps)):
  ∃t parts e i,o.op=.buildSlice t len parts∧P.underlying t=some (.slice e)∧P.info? e=some i∧zhq P e=some z∧len * i.size≤16777216∧0 < i.size∧sz=i.size∧(parts.toList.mapM fun p=>do some (p.1,(←copd p.2)))=some ps:=by
 replace h:=zlF h (by rintro(⟨_,_,e⟩ | ⟨_,e⟩ | ⟨_,_,e⟩)<;>cases e);unfold cop0 at h
 cases hop:o.op with
 |
  buildSlice t l parts =>
  rw[hop] at h;simp only at h;split at h
  ·
   rename_i e hu;split at h
   ·
    rename_i i z' hi hz;split at h
    · rename_i hc;simp only[Wc,Wa,We] at h;obtain⟨ps',hps,he⟩:=h;cases he;exact⟨t,parts,e,i,rfl,hu,hi,hz,hc.1,hc.2,rfl,by simpa using hps⟩
    · cases h
   · cases h
  · cases h
 |
  call c =>
  rw[hop] at h;exfalso;simp only[zfS] at h
  (repeat' split at h)<;>first | (cases h;done) | (simp at h;done) | (simp[Wa] at h;done)
 |
  _ =>
  rw[hop] at h;exfalso;simp only at h
  (repeat' split at h)<;>first | (cases h;done) | (simp at h;done) | (simp[Wa] at h;done) | (simp only[Wc,Wa] at h;obtain⟨_,_,_,_,_,_,h⟩:=h;split at h<;>simp[Wa] at h;done)
theorem zzS{o:Oper}{x:AOpd}(h:cop P o=some (.mnext x)):∃xo,o.op=.next xo false∧copd xo=some x:=by
 unfold cop at h;split at h
 ·
  rename_i a0 h0;cases h;exfalso;unfold cop0 at h0
  cases hop:o.op with
  |
   call c =>
   rw[hop] at h0;simp only[zfS] at h0
   (repeat' split at h0)<;>first | (cases h0;done) | (simp at h0;done) | (simp[Wa] at h0;done)
  |
   _ =>
   rw[hop] at h0;simp only at h0
   (repeat' split at h0)<;>first | (cases h0;done) | (simp at h0;done) | (simp[Wa] at h0;done) | (simp only[Wc,Wa] at h0;obtain⟨_,_,_,_,_,_,h0⟩:=h0;split at h0<;>simp[Wa] at h0;done)
 ·
  split at h
  · cases h
  ·
   unfold cyop at h;split at h
   rotate_left
   · cases h
   rename_i a1 h1;cases h;replace h:=h1;unfold zyX at h
   cases hop:o.op with
   |
    next y s =>
    rw[hop] at h;simp only at h;split at h
    · rename_i hs;subst hs;obtain⟨x',hx,he⟩:=Wi.1 h;cases he;exact⟨y,rfl,hx⟩
    · cases h
   |
    _ =>
    rw[hop] at h;exfalso;simp only at h
    (repeat' split at h)<;>first | (cases h;done) | (simp at h;done) | (simp[Wa] at h;done)
theorem zra {fx:Bool} {ops:Array Oper} {o:Oper} {ao:AOper} (hr:OpRel P nt ops o ao) (hin:In nt n0 w0 L ι0 H0 B w ι ρ H nx a) {k:(Nat→AV)→AH→Nat→Prop} (hex:ExF P fx ao ρ H nx k)
  {Kc:Act→World→Prop} {Qc:Exit→Act→World→Prop} (hk:∀w' ι' ρ' H' nx' a',In nt n0 w0 L ι0 H0 B w' ι' ρ' H' nx' a'→k ρ' H' nx'→Kc a' w') :
  if Region.wanted o (yielded ops a.tmps) then o.wp P a w Kc Qc else Kc (a.put o.dst undef) w:=by
 have hrel:=hin.st.rel
 have skip:k (upd ρ ao.dst (.tup [])) H nx→Kc (a.put o.dst undef) w:=fun h =>
  hk _ _ _ _ _ _ (hin.put hr.ok (.refl hrel) (Wf _) (VR.tup _ #[] [] rfl (fun i v a h=>by simp at h))) (by rw[←hr.dst];exact h)
 have callIt:∀(c:Call)(x:Operand)(f:FuncId)(capsV:Array Value)(args caps:List AV),o.op=.call c→c.callee=.value x→a.eval x=.func (.func f) #[] capsV→zf7 P f=true →
   VRs w (Lt L ι H) ι (c.args.toList.map a.eval) args→VRs w (Lt L ι H) ι capsV.toList caps→zU P f (args++caps) H nx (fun v H' nx'=>(bif fx then v.wf else True)→k (upd ρ ao.dst v) H' nx')→o.wp P a w Kc Qc:=by
  intro c x f capsV args caps ho hc hx hf hargs hcaps hcall;unfold Oper.wp;rw[zmP ho hc hx hf];simp only[Oper.upon]
  refine(hcall w L ι _ hrel (by simpa using hargs.append hcaps)).mono fun e w' ⟨v,ι',H',nx',av,he,h1,h2,h3,h4⟩=>?_
  subst he;refine hk _ _ _ _ _ _ (hin.put hr.ok h1 h2 h3) ?_;rw[←hr.dst];refine h4 ?_;cases fx
  · trivial
  · exact h3.wf
 have callFix:∀(c:Call)(f:FuncId)(args:List AV)(av:AV),o.op=.call c→c.callee=.value (.func f)→zf7 P f=true →
   VRs w (Lt L ι H) ι (c.args.toList.map a.eval) args→zeZ P f args H nx av→k (upd ρ ao.dst av) H nx→o.wp P a w Kc Qc:=by
  intro c f args av ho hc hf hargs hcall hkk;unfold Oper.wp;rw[zmP (caps:=#[]) ho hc rfl hf];simp only[Oper.upon]
  refine(hcall w L ι _ hrel (by simpa using hargs)).mono fun e w' ⟨v,he,h1,h3⟩=>?_
  subst he;exact hk _ _ _ _ _ _ (hin.put hr.ok h1 (Wf _) h3) (by rw[←hr.dst];exact hkk)
 have body:zdG P fx ao.op ρ H nx (fun v H' nx'=>k (upd ρ ao.dst v) H' nx')→o.wp P a w Kc Qc:=by
  intro hbody;obtain⟨op0,hop,hcase⟩:=hr.op
  rcases hcase with hcase | ⟨f,xs,rfl,h1⟩ | ⟨x,rfl,h1⟩ | ⟨sz,len,z,ps,rfl,h1⟩ | ⟨sz,b,x,y,rfl,h1⟩
  ·
   rw[←hcase] at hop
   have plain:ao.op.isCall=false→znU fx (aop ao.op ρ H nx) (fun v H' nx'=>k (upd ρ ao.dst v) H' nx')→o.wp P a w Kc Qc:=by
    intro hcall ⟨hs,hf⟩;obtain⟨n,v,w',ι',hrun,hn,hst,hv,hfact,_⟩:=cop_ok hop hcall hrel hin.kn hs;unfold Oper.wp;rw[hrun];have hfin:=hk _ _ _ _ _ _ (hin.put hr.ok hst (zAg _ _) hv) (by rw[←hr.dst];exact hf (by cases fx;trivial;exact hfact))
    rcases hn with rfl | ⟨rfl,rfl⟩
    · exact hfin
    · exact hfin
   unfold zdG at hbody
   cases hk0:ao.op with
   |
    call f xs =>
    rw[hk0] at hbody hop;obtain⟨c,h1,h2,h3,h4⟩:=zxj hop;exact callIt c _ f #[] (evs ρ xs) [] h1 h2 rfl h4 (zmd hin.kn h3) .nil (by simpa using hbody)
   | callq f xs=>rw[hk0] at hop;exact(zAs hop).elim
   | append2 sz b x y=>rw[hk0] at hop;exact(zvY hop).elim
   |
    mnext x =>
    rw[hk0] at hbody hop;obtain⟨xo,h1,h2⟩:=zzS hop;obtain⟨v,w',ι',av,H',hrun,hst,hv,hkk⟩:=zBi (P:=P) (ty:=o.type) hrel (zp hin.kn h2) hbody;unfold Oper.wp
    have hrun':(execOp a.eval o).run P w=.ok (.value v) w':=by unfold execOp;rw[h1];exact zBo hrun
    rw[hrun'];exact hk _ _ _ _ _ _ (hin.put hr.ok hst (Wf _) hv) (by rw[←hr.dst];exact hkk)
   |
    isnil neg p x =>
    rw[hk0] at hbody hop;obtain⟨t,xo,yt,h1,h2,d,h3,h4⟩:=zAA hop;simp only at hbody
    cases hn:nilB p (ev ρ x) with
    | none=>rw[hn] at hbody;exact hbody.elim
    |
     some r =>
     obtain⟨b,h5,h6,h7⟩:=zsK h3 h4 (zp hin.kn h2) hn
     have hrun:(execOp a.eval o).run P w=.ok (.value (.bool (b != neg))) w:=by
      simp only[execOp,h1];have hy:a.eval (.const (bif p then .pointer none else .slice none 0 0))=(bif p then .pointer none else .slice none 0 0):=rfl;rw[hy];generalize a.eval xo=v at h6 h7;obtain⟨i1,i2,i3,i4,i5,i6⟩:=h7
      cases neg<;>cases p<;>cases v<;>first
       | exact absurd rfl (i1 _ _)
       | exact absurd rfl (i2 _)
       | exact absurd rfl (i3 _ _)
       | exact absurd rfl (i4 _ _ _)
       | exact absurd rfl i5
       | exact absurd rfl (i6 _)
       | (
         simp only[cond_true,cond_false] at h6
         simp[Sem.run_bind,eqGuard,binOp,h6])
     unfold Oper.wp;rw[hrun];refine hk _ _ _ _ _ _ (hin.put hr.ok (.refl hrel) (Wf _) (.bool _ (b != neg))) ?_;rw[←hr.dst];rw[hn] at hbody
     cases r with
     | none=>exact hbody (b != neg)
     | some c=>rw[h5 c rfl];exact hbody
   |
    callv x xs =>
    rw[hk0] at hbody hop;obtain⟨c,t,h1,h2,h3,rfl⟩:=zuN hop;simp only[ev] at hbody
    cases hx:ρ t with
    |
     fn g caps =>
     rw[hx] at hbody
     cases g with
     |
      func f =>
      have hv:=hin.kn t;rw[hx] at hv;generalize hu:a.tmps.getD t undef=u at hv
      cases hv with
      |
       fn _ _ cs _ hs hvv =>
       exact callIt c _ f cs (evs ρ xs) caps h1 h2 hu hbody.1 (zmd hin.kn h3) (.ofGet _ _ (by simpa using hs) (fun i v b h5 h6=>hvv i v b (by simpa using h5) h6)) hbody.2
     | _=>exact hbody.elim
    | _=>rw[hx] at hbody;exact hbody.elim
   | _=>rw[hk0] at hbody;exact plain (by rw[hk0];rfl) (by rw[hk0];exact hbody)
  · unfold zdG at hbody;rw[h1] at hbody;obtain⟨c,h2,h3,h4,h5⟩:=zxj hop;obtain⟨av,h6,h7⟩:=hbody;exact callFix c f _ av h2 h3 h5 (zmd hin.kn h4) h6 h7
  ·
   unfold zdG at hbody;rw[h1] at hbody;obtain⟨hs,hf⟩:=hbody;obtain⟨e,xo,h2,h3⟩:=zEl hop;obtain⟨v,w',ι',hrun,hst,hv,hfact⟩:=zCa (P:=P) (e:=e) hrel (zp hin.kn h3) hs;unfold Oper.wp
   have hrun':(execOp a.eval o).run P w=.ok (.value v) w':=by unfold execOp;rw[h2];exact zBo hrun
   rw[hrun'];exact hk _ _ _ _ _ _ (hin.put hr.ok hst (zAg (.rbox x) _) hv) (by rw[←hr.dst];exact hf (by cases fx<;>trivial))
  ·
   unfold zdG at hbody;rw[h1] at hbody;obtain⟨hs,hf⟩:=hbody;obtain⟨t,parts,e,i,h2,hu,hi,hz,hb,hpos,rfl,hps⟩:=zvu hop;have hel:=zit hin.kn (by simpa using hps)
   have hmap:(parts.map fun(p:Nat × Operand)=>(p.1,a.eval p.2)).toList=parts.toList.map fun p=>(p.1,a.eval p.2):=by simp
   obtain⟨v,w',ι',hrun,hst,hv,hfact⟩:=ztF (P:=P) (parts:=parts.map fun(p:Nat × Operand)=>(p.1,a.eval p.2)) hrel hu hi hz hb hpos (by rw[hmap];exact hel) hs;unfold Oper.wp
   have hrun':(execOp a.eval o).run P w=.ok (.value v) w':=by unfold execOp;rw[h2];exact zBo hrun
   rw[hrun'];exact hk _ _ _ _ _ _ (hin.put hr.ok hst (zAg (.rbuildSl i.size len z ps) _) hv) (by rw[←hr.dst];exact hf (by cases fx<;>trivial))
  ·
   unfold zdG at hbody;rw[h1] at hbody;obtain⟨c,t,u,xo,yo,e,e',i,z,h2,h3,h4,h5,hu,hu',hi,hz,rfl,rfl,hpos,hby,hx,hy⟩:=zyg hop;obtain⟨v,w',ι',av,H',nx',hrun,hst,hle,hv,hkk⟩:=zFx (P:=P) (ty:=o.type) hrel hu hu' hi hz hpos hby (zp hin.kn hx) (zp hin.kn hy) hbody;unfold Oper.wp
   have hrun':(execOp a.eval o).run P w=.ok (.value v) w':=by unfold execOp;rw[h2];simp[resolve,h3,h4,h5,invoke,builtin,hrun]
   rw[hrun'];exact hk _ _ _ _ _ _ (hin.put hr.ok hst hle hv) (by rw[←hr.dst];exact hkk)
 have hw:=zzN hr hin.kn;unfold ExF at hex
 cases hg:ao.guard with
 |
  none =>
  rw[hg] at hex hw;rw[if_pos hw];exact body hex
 |
  some p =>
  obtain⟨t,want⟩:=p;rw[hg] at hex hw;simp only at hex hw
  cases hv:grd want (ρ t) with
  |
   some r =>
   rw[hv] at hex;simp only at hex;rw[hw r hv]
   cases r with
   | true=>rw[if_pos rfl];exact body (hex.1 rfl)
   | false=>rw[if_neg (by simp)];exact skip (hex.2 rfl)
  | none=>rw[hv] at hex;exact hex.elim
end
def zgW(F:Fence):Prop:=F=Fence.wide∨∃l,F=Fence.wide.inRound l
theorem zgW.fn{F:Fence}(h:zgW F)(f:FuncId):F.fn f:=by
 rcases h with rfl | ⟨l,rfl⟩<;>trivial
theorem zgW.depth{F:Fence}(h:zgW F):F.depth.isSome=true→False:=by
 rcases h with rfl | ⟨l,rfl⟩<;>(intro h;cases h)
theorem zgW.calls{F:Fence}(h:zgW F){n:Nat}{P:Program}{f:FuncId}{args:Array Value}{w:World}{R:Ending→World→Prop}(hc:Calls P f args w R):CallsIn F n P f args w R:=by
 rcases h with rfl | ⟨l,rfl⟩
 · exact callsIn_wide.2 hc
 · exact CallsIn.inRound l (callsIn_wide.2 hc)
theorem zgW.rows{F:Fence}(h:zgW F){n:Nat}{P:Program}{row:String}{args:Array Value}{w:World}{R:Value→World→Prop}(hc:Rows P row args w R):RowsIn F n P row args w R:=by
 rcases h with rfl | ⟨l,rfl⟩
 · exact fun c cs _=>let ⟨v,w',r,s⟩:=hc c cs;⟨v,w',r,stepsIn_wide.2 s⟩
 · exact fun c cs _=>let ⟨v,w',r,s⟩:=hc c cs;⟨v,w',r,(stepsIn_wide (P:=P)).2 s⟩
theorem zvv{F:Fence}(hF:zgW F){n:Nat}{P:Program}{o:Oper}{a:Act}{w:World}{next:Act→World→Prop}{Q:Exit→Act→World→Prop}(hd:F=Fence.wide∨∀c,o.op≠.defer c)(h:o.wp P a w next Q):o.wpIn F n P a w next Q:=by
 refine⟨fun f _=>hF.fn f,?_⟩
 have he:o.semAt F.round a.eval=execOp a.eval o:=by
  rcases hd with rfl|hd
  · rfl
  · exact Oper.semAt_eq _ _ _ hd
 rw[he];unfold Oper.wp at h;generalize (execOp a.eval o).run P w=r at h ⊢;unfold Oper.upon at h;unfold Oper.uponIn;split at h
 · exact h
 · exact h
 · exact h
 · exact⟨fun h=>(hF.depth h).elim,hF.calls h⟩
 · exact⟨fun h=>(hF.depth h).elim,hF.rows h⟩
 · exact h
 · exact h.elim
theorem zvo{F:Fence}(hF:zgW F){n:Nat}{P:Program}{ops:Array Oper}{Q:Exit→Act→World→Prop}(hQ:¬LetsOut Q):
  ∀(l:List Oper)(a:Act)(w:World),(∀o∈l,F=Fence.wide∨∀c,o.op≠.defer c)→wpList P ops Q l a w→wpListIn F n P ops Q l a w
 | [],_,_,_,h=>h
 |
  o::l,a,w,hd,h=>by
  unfold wpList at h;unfold wpListIn;split at h
  ·
   rename_i hw;rw[if_pos hw]
   rcases h with h|h
   · exact Oper.wpIn_mono (fun a w h=>zvo hF hQ l a w (fun o ho=>hd o (Wv _ ho)) h) (zvv hF (hd o (by simp)) h)
   · exact absurd h.2 hQ
  · rename_i hw;rw[if_neg hw];exact⟨fun f _=>hF.fn f,zvo hF hQ l _ w (fun o ho=>hd o (Wv _ ho)) h⟩
theorem zwV{F:Fence}(hF:zgW F){n:Nat}{P:Program}{md:Region.Mode}{ops:Array Oper}{Q:Exit→Act→World→Prop}(hQ:¬LetsOut Q)(hd:∀(i:Nat)(o:Oper),ops[i]? = some o→F=Fence.wide∨∀c,o.op≠.defer c):
  ∀(fuel:Nat)(listed:Array Bool)(a:Act)(w:World),wpAny P md ops Q fuel listed a w→wpAnyIn F n P md ops Q fuel listed a w
 | 0,_,_,_,h=>h
 |
  fuel+1,listed,a,w,h=>by
  refine⟨h.1,fun i hi=>?_⟩;have h2:=h.2 i hi;unfold wpOp at h2;unfold wpOpIn
  cases ho:ops[i]? with
  | none=>rw[ho] at h2;exact zwV hF hQ hd fuel _ a w h2
  |
   some o =>
   rw[ho] at h2;simp only at h2 ⊢;split at h2
   ·
    rename_i hw;rw[if_pos hw]
    rcases h2 with h2|h2
    · exact Oper.wpIn_mono (fun a w h=>zwV hF hQ hd fuel _ a w h) (zvv hF (hd i o ho) h2)
    · exact absurd h2.2 hQ
   · rename_i hw;rw[if_neg hw];exact⟨fun f _=>hF.fn f,zwV hF hQ hd fuel _ _ w h2⟩
theorem zw4{id:Nat}{ops:Array Oper}{draw:Bool}(h:ziR (.region id ops draw)=true){o:Oper}(ho:o∈ops.toList)(c:Call):o.op≠.defer c:=by intro hc;simp only[ziR,Ww] at h;have:=h o ho;rw[hc] at this;cases this
def zl2(w:World)(b:Nat):Prop:=∀c e f,w.heap[b]? ≠ some (.cells c e f)
theorem zxk{w:World}{a:Addr}{v:Value}(h:w.cell? a=some v):¬zl2 w a.block:=by
 intro hn;unfold World.cell? at h
 cases ho:w.heap[a.block]? with
 | none=>simp[ho] at h
 |
  some o =>
  cases o with
  | cells c e f=>exact hn c e f ho
  | _=>simp[ho] at h
theorem VR.more{w:World}{L L':Nat→Prop}(hw:∀b,L' b→L b∨zl2 w b){ι:Inj}{v:Value}{a:AV}(h:VR w L ι v a):VR w L' ι v a:=by
 induction h with
 | undef ι v=>exact .undef _ _
 | int ι k n h=>exact .int _ _ _ h
 | bool ι b=>exact .bool _ _
 | str ι s h=>exact .str _ _ h
 | nilp ι=>exact .nilp _
 | ptr ι r q g i f l h hm=>exact .ptr _ _ _ _ _ _ _ h hm
 | mp ι r q l h hm=>exact .mp _ _ _ _ h hm
 | nilmp ι=>exact .nilmp _
 | it ι r l h hm=>exact .it _ _ _ h hm
 |
  iptr ι a n c V hc hL hv ih =>
  refine .iptr _ a n c V hc (fun hn hl=>?_) ih
  rcases hw _ hl with h|h
  · exact hL hn h
  · have:=zxk (hc 0 hn).1;rw[zc1] at this;exact this h
 |
  sl ι a sz n cap f V hn hbig hc hL hv ih =>
  refine .sl _ a sz n cap f V hn hbig hc (fun hp hl=>?_) ih
  rcases hw _ hl with h|h
  · exact hL hp h
  ·
   have h1:0 < n:=by
    rcases Ws n with h|h
    · subst h;simp at hp
    · exact h
   have h2:0 < sz:=by
    rcases Ws sz with h|h
    · subst h;simp at hp
    · exact h
   have:=zxk (hc 0 0 h1 h2).1;rw[zc1,zc1] at this;exact this h
 | sl0 ι sz f=>exact .sl0 _ _ _
 | nilsl ι=>exact .nilsl _
 | cut ι a=>exact .cut _ _
 | own ι r q g off n a c l h hm hn hc ha=>exact .own _ _ _ _ _ _ _ _ l h hm hn hc ha
 | fn ι f cs caps hs hv ih=>exact .fn _ _ _ _ hs ih
 | nilfn ι=>exact .nilfn _
 | agg ι cs asv hs h1 hv ih=>exact .agg _ _ _ hs h1 ih
 | tup ι cs asv hs hv ih=>exact .tup _ _ _ hs ih
section
variable {w w':World} {L L2:Nat→Prop} {ι:Inj} {H:AH} {nx:Nat}
theorem RelH.less(h:RelH w L ι H nx)(hl:∀b,L2 b→L b):RelH w L2 ι H nx:=by refine⟨fun r q sz els g hg=>?_,h.apart,fun b hb h2=>h.out b hb (hl b h2),h.idx,h.dom,h.gen,fun b hb=>h.Lsz b (hl b hb)⟩;obtain⟨l,h1,ok⟩:=h.row r q sz els g hg;exact⟨l,h1,ok.trans (fun _=>rfl) (fun v a hv=>hv.anti (fun b hb=>hb.imp (hl b) id))⟩
theorem RelH.more(h:RelH w L ι H nx)(hl:∀b,L2 b→L b∨(zl2 w b∧b < w.heap.size∧¬live ι H b)):RelH w L2 ι H nx:=by
 have hlt:∀b,Lt L2 ι H b→Lt L ι H b∨zl2 w b:=fun b hb=>by
  rcases hb with hb|hb
  ·
   rcases hl b hb with h1|h1
   · exact .inl (.inl h1)
   · exact .inr h1.1
  · exact .inl (.inr hb)
 refine⟨fun r q sz els g hg=>?_,h.apart,fun b hb h2=>?_,h.idx,h.dom,h.gen,fun b hb=>?_⟩
 · obtain⟨l,h1,ok⟩:=h.row r q sz els g hg;exact⟨l,h1,ok.trans (fun _=>rfl) (fun v a hv=>hv.more hlt)⟩
 ·
  rcases hl b h2 with h1|h1
  · exact h.out b hb h1
  · exact h1.2.2 hb
 ·
  rcases hl b hb with h1|h1
  · exact h.Lsz b h1
  · exact h1.2.1
theorem zAk{b:Nat}(rel:RelH w L ι H nx)(hb:b < w.heap.size)(hn:¬Lt L ι H b):¬Lt (zk6 L w w') ι H b:=by
 rintro(h|h)
 ·
  rcases h with h|h
  · exact hn (.inl h)
  · omega
 · exact hn (.inr h)
theorem znF(rel:RelH w L ι H nx)(e:Ext L w w'){v:Value}{a:AV}(h:VR w (Lt L ι H) ι v a):VR w' (Lt (zk6 L w w') ι H) ι v a :=
 h.mono (fun b hb hn=>⟨e.block b hb (fun hl=>hn (.inl hl)),zAk rel hb hn⟩) (fun _ _ _ _ h=>h)
theorem RelH.yield(rel:RelH w L ι H nx)(e:Ext L w w'):RelH w' (zk6 L w w') ι H nx:=by
 refine⟨fun r q sz els g hg=>?_,rel.apart,fun b hb hl=>?_,rel.idx,rel.dom,rel.gen,fun b hb=>?_⟩
 · obtain⟨l,h1,ok⟩:=rel.row r q sz els g hg;refine⟨l,h1,ok.trans (fun hp=>?_) (fun v a hv=>znF rel e hv)⟩;have hl:live ι H l.block:=⟨r,q,sz,els,g,l,hg,h1,hp,rfl⟩;exact e.block _ (rel.live_lt hl) (rel.out _ hl)
 ·
  rcases hl with h|h
  · exact rel.out b hb h
  · have:=rel.live_lt hb;omega
 ·
  rcases hb with h|h
  · exact Wj (rel.Lsz b h) e.size
  · exact h.2
theorem RelH.turn{D:Nat→Prop}(h:RelH w L ι H nx)(hD:∀b,D b→zl2 w b∧b < w.heap.size∧¬live ι H b)(e:Ext D w w'):
  RelH w' L ι H nx∧∀v a,VR w (Lt L ι H) ι v a→VR w' (Lt L ι H) ι v a:=by
 have h1:RelH w (fun b=>L b∨D b) ι H nx:=h.more (fun b hb=>hb.imp id (hD b));have e2:Ext (fun b=>L b∨D b) w w':=⟨e.os,e.tape,e.output,e.size,fun b hb hn=>e.block b hb (fun hd=>hn (.inr hd))⟩;refine⟨(h1.yield e2).less (fun b hb=>.inl (.inl hb)),fun v a hv=>?_⟩
 have h2:VR w (Lt (fun b=>L b∨D b) ι H) ι v a:=hv.more (fun b hb=>by
  rcases hb with (hb|hb)|hb
  · exact .inl (.inl hb)
  · exact .inr (hD b hb).1
  · exact .inl (.inr hb))
 exact(znF h1 e2 h2).anti (fun b hb=>hb.imp (fun h=>.inl (.inl h)) id)
end
theorem zmx.yield{n0:Nat}{w w':World}{L:Nat→Prop}{ι:Inj}{H:AH}{nx:Nat}{ds:List Deferred}(h:zmx n0 w (Lt L ι H) ds)(rel:RelH w L ι H nx)(e:Ext L w w'):zmx n0 w' (Lt (zk6 L w w') ι H) ds :=
 h.go fun b hb hn=>⟨e.block b hb (fun hl=>hn (.inl hl)),zAk rel hb hn⟩
def shut:List Nat→World→World
 | [],w=>w
 | m::ms,w=>shut ms (w.putObj m (.deferred none))
theorem zsW:∀(ms:List Nat)(w:World),Ext (·∈ms) w (shut ms w)
 | [],w=>.refl _ _
 |
  m::ms,w=>by
  have h:=zsW ms (w.putObj m (.deferred none));have hs:(w.putObj m (.deferred none)).heap.size=w.heap.size:=World.putObj_size;refine⟨h.os,h.tape,h.output,by rw[←hs];exact h.size,fun b hb hn=>?_⟩;rw[WD,not_or] at hn;show (shut ms (w.putObj m (.deferred none))).heap[b]? = _;rw[h.block b (by rw[hs];exact hb) hn.2];exact World.putObj_heap_other hn.1
theorem zph{F:Fence}{n:Nat}{P:Program}{fn:Func}{tmps:Array Value}{R:Ending→World→Prop}:∀(ms:List Nat)(w:World),ms.Nodup→(∀m∈ms,w.heap[m]? = some (.deferred (some []))) →
  (∃v,(results fn tmps).run P (shut ms w)=.ok v (shut ms w)∧R (.returned v) (shut ms w))→LeavesInM F n P fn tmps R (ms.map zrm) .returning w
 | [],w,_,_,h=>h
 |
  m::ms,w,hd,hm,h=>by
  rw[List.nodup_cons] at hd;refine⟨by simp,.inl ⟨m,w.putObj m (.deferred none),rfl,run_takeDeferred (hm m (by simp)),zph ms _ hd.2 (fun k hk=>?_) h⟩⟩;rw[World.putObj_heap_other (show k≠m from fun e=>hd.1 (by rw[←e];exact hk))];exact hm k (Wv _ hk)
theorem zo7 {P:Program} {f:FuncId} {fn:Func} {c:Code} {args:Array Value} {w:World} {R:Ending→World→Prop} (hf:P.funcs[f]? = some fn) (hb:fn.body=some c)
  (h:c.wp P (fun e a' w'=>(e=.normal∨e=.ret)∧∃ms,a'.defers=ms.map zrm∧ms.Nodup∧(∀m∈ms,w'.heap[m]? = some (.deferred (some [])))∧∃v,(results fn a'.tmps).run P (shut ms w')=.ok v (shut ms w')∧R (.returned v) (shut ms w'))
   { tmps:=args++Array.replicate (fn.ntmps - args.size) undef,defers:=[] } w):Calls P f args w R:=by
 refine(callsIn_wide (n:=0)).1 (callsIn_of_wp_marks hf hb trivial (wpIn_wide.2 (wp_mono h fun e a' w' ⟨he,ms,h1,h2,h3,h4⟩=>?_)));have:=zph (F:=Fence.wide) (n:=0) (P:=P) (fn:=fn) (tmps:=a'.tmps) (R:=R) ms w' h2 h3 h4;rw[←h1] at this
 rcases he with rfl|rfl<;>exact this
section
variable {P:Program} {L:Nat→Prop} {nt n0:Nat} {w0:World} {ι0:Inj} {H0:AH} {B:Nat}
def QQ(nt n0:Nat)(w0:World)(L:Nat→Prop)(ι0:Inj)(H0:AH)(B:Nat)(Q:QT):Exit→Act→World→Prop:=fun e a w =>
 ∃ι K H nx,In nt n0 w0 L ι0 H0 B w ι (Kn.get K) H nx a∧match e with
  | .normal=>Q .normal K H nx
  | .exit id=>Q (.exit id) K H nx
  | .ret=>Q .ret K H nx
  | .goto l=>Q (.goto l) K H nx
  | _=>False
theorem In.drop{w:World}{ι:Inj}{K:Kn}{H:AH}{nx:Nat}{a:Act}(h:In nt n0 w0 L ι0 H0 B w ι K.get H nx a)(l:List Nat):In nt n0 w0 L ι0 H0 B w ι (K.drop l).get H nx a:=by
 refine⟨h.size,h.defers,h.st,h.le,fun i=>?_⟩
 rcases Kn.get_drop K l i with h1|h1
 · rw[h1];exact .undef _ _
 · rw[h1];exact h.kn i
theorem In.entI(base:∀r q g l,ι0 r q g=some l→r < B){w:World}{ι:Inj}{K K2:Kn}{H H2:AH}{nx nx2:Nat}{a:Act}(h:In nt n0 w0 L ι0 H0 B w ι K.get H nx a)(he:Ent B K H nx K2 H2 nx2):
  ∃ι2,In nt n0 w0 L ι0 H0 B w ι2 K2.get H2 nx2 a:=by
 obtain⟨h1,h2⟩:=he;obtain⟨ι2,h3,h4,h5,h6⟩:=h2 w L ι a.tmps h.st.rel h.kn;refine⟨ι2,h.size,h.defers.less (fun b hb=>hb.imp id (h5 b)),⟨h.st.ext,fun r q g l hl=>h6 r q g l (base _ _ _ _ hl) (h.st.inj _ _ _ _ hl),h3,fun b hb=>h.st.lv b (h5 b hb)⟩,h1,h4⟩
theorem In.wfK{w:World}{ι:Inj}{K:Kn}{H:AH}{nx:Nat}{a:Act}(h:In nt n0 w0 L ι0 H0 B w ι K.get H nx a):WfK K:=fun i=>(h.kn i).wf
def zzi(P:Program)(q:Nat→List Nat)(nt:Nat)(ac:ACode):Prop :=
 ∀{F:Fence}{n:Nat}(_:zgW F){n0:Nat}{w0:World}{L:Nat→Prop}{ι0:Inj}{H0:AH}{B:Nat}(_:∀r q g l,ι0 r q g=some l→r < B)(_:n0≤w0.heap.size)(c:Code),comp P nt q c=some ac.strip→(F=Fence.wide∨ziR c=true) →
  ∀(Q:QT)(w:World)(ι:Inj)(K:Kn)(H:AH)(nx:Nat)(a:Act),In nt n0 w0 L ι0 H0 B w ι K.get H nx a→awp P B ac Q K H nx→c.wpIn F n P (QQ nt n0 w0 L ι0 H0 B Q) a w
def setT:Array Value→List Tmp→List Value→Array Value
 | tmps,t::ts,v::vs=>setT (tmps.setIfInBounds t v) ts vs
 | tmps,_,_=>tmps
theorem zrQ:∀(ps:List Tmp)(vs:List Value)(tmps:Array Value),(ps.zip vs).foldl (fun tmps (p:Tmp × Value)=>tmps.setIfInBounds p.1 p.2) tmps=setT tmps ps vs
 | [],vs,tmps=>by simp[setT]
 | t::ts,[],tmps=>by simp[setT]
 | t::ts,v::vs,tmps=>by simp[setT,zrQ ts vs]
theorem zup:∀(ps:List Tmp)(vs:List Value)(tmps:Array Value),(setT tmps ps vs).size=tmps.size
 | [],vs,tmps=>by simp[setT]
 | t::ts,[],tmps=>by simp[setT]
 | t::ts,v::vs,tmps=>by simp[setT,zup ts vs]
theorem zBO{w:World}{M:Nat→Prop}{ι:Inj}:∀(ps:List Tmp)(vs:List Value)(xs:List AV)(tmps:Array Value)(K:Kn),VRs w M ι vs xs→(∀t∈ps,t < tmps.size)→KOk w M ι tmps K.get→KOk w M ι (setT tmps ps vs) (zlP K ps xs).get
 | [],vs,xs,tmps,K,_,_,hk=>by simpa [setT,zlP] using hk
 | t::ts,_,_,tmps,K,.nil,_,hk=>by simpa [setT,zlP] using hk
 |
  t::ts,v::vs,x::xs,tmps,K,.cons h1 h2,hlt,hk=>by
  rw[setT,zlP];refine zBO ts vs xs _ _ h2 (fun u hu=>by rw[Array.size_setIfInBounds];exact hlt u (Wv _ hu)) (fun i=>?_)
  have e:(K.set t x).get i=if i=t then x else K.get i:=Kn.get_set K t x i
  rw[e,zsN (hlt t (by simp))];split
  · exact h1
  · exact hk i
theorem zq1 {w w':World} {L:Nat→Prop} {ι ι':Inj} {H H':AH} {nx':Nat} (rel':RelH w' L ι' H' nx') (hsame:∀b,b < w.heap.size→¬Lt L ι H b→w'.heap[b]? = w.heap[b]?) (hlv:∀b,live ι' H' b→live ι H b∨w.heap.size≤b) (hinj:∀r q g l,ι r q g=some l→ι' r q g=some l)
  {v:Value} {a:AV} (h:VR w (Lt L ι H) ι v a):VR w' (Lt L ι' H') ι' v a :=
 h.mono (fun b hb hn=>⟨hsame b hb hn,fun hx=>by
  rcases hx with hx|hx
  · exact hn (.inl hx)
  ·
   rcases hlv b hx with h|h
   · exact hn (.inr h)
   · omega⟩) hinj
theorem RelH.others{w w':World}{L:Nat→Prop}{ι:Inj}{H:AH}{nx:Nat}(rel:RelH w L ι H nx)(e:Ext L w w')(hs:w'.heap.size=w.heap.size):RelH w' L ι H nx :=
 (rel.yield e).less (fun _ hb=>.inl hb)
theorem zml{w:World}{l:Nat}{o:Obj}{M:Nat→Prop}(h:M l):Ext M w (w.putObj l o) :=
 ⟨rfl,rfl,rfl,by rw[World.putObj_size];exact Wf _,fun b _ hn=>World.putObj_heap_other (fun e=>hn (by rw[e];exact h))⟩
def Mof(L O:Nat→Prop)(lp dp:Nat):Nat→Prop:=fun b=>L b∨O b∨b=lp∨b=dp
structure RngJ{α:Type}(nt n0:Nat)(w0:World)(Lf:Nat→Prop)(ι0:Inj)(H0:AH)(B:Nat)(K1:Kn)(S:α→AH)(N:Nat)(act:Act)(lp dp:Nat)(rc:Loop)(n1:Nat)(p:α→Prop)(L O:Nat→Prop)(W:World)(a:α)(ι:Inj):Prop where
 hp:p a
 hin:In nt n0 w0 (Mof Lf O lp dp) ι0 H0 B W ι K1.get (S a) N act
 hrec:W.heap[lp]? = some (.loop rc)
 hdef:W.heap[dp]? = some (.deferred (some []))
 own:∀b,live ι (S a) b→L b
 ll:∀b,Lf b→L b
 hl:L lp
 hd:L dp
 ho:∀b,O b→¬L b∧(live ι0 H0 b∨w0.heap.size≤b)
 hs:∀b,L b→b < W.heap.size
 hn:n1≤W.heap.size
 hl0:w0.heap.size≤lp
 hd0:w0.heap.size≤dp
 hn1:w0.heap.size≤n1
 ne:lp≠dp
section
variable {α:Type} {K1:Kn} {S:α→AH} {N:Nat} {act:Act} {lp dp:Nat} {rc:Loop} {n1:Nat} {p:α→Prop}
theorem zui:Stab (fun L' O W=>∃a ι,RngJ nt n0 w0 L ι0 H0 B K1 S N act lp dp rc n1 p L' O W a ι):=by
 rintro L' O O' w w' ⟨a,ι,h⟩ hsame hO' hOlt hsize hos htape hout
 have hlpO:¬O lp:=fun ho=>(h.ho lp ho).1 h.hl
 have hdpO:¬O dp:=fun ho=>(h.ho dp ho).1 h.hd
 have hlpw:lp < w.heap.size:=h.hs lp h.hl;have hdpw:dp < w.heap.size:=h.hs dp h.hd;have rel:=h.hin.st.rel
 have hM:∀b,b < w.heap.size→¬Lt (Mof L O lp dp) ι (S a) b→w'.heap[b]? = w.heap[b]? ∧ ¬Lt (Mof L O' lp dp) ι (S a) b:=fun b hb hn=>by
  refine⟨hsame b hb (fun ho=>hn (.inl (.inr (.inl ho)))),fun hx=>hn ?_⟩
  rcases hx with (hx|hx|hx)|hx
  · exact .inl (.inl hx)
  ·
   rcases hO' b hx with h1|h1
   · exact .inl (.inr (.inl h1))
   · omega
  · exact .inl (.inr (.inr hx))
  · exact .inr hx
 have hvr:∀v x,VR w (Lt (Mof L O lp dp) ι (S a)) ι v x→VR w' (Lt (Mof L O' lp dp) ι (S a)) ι v x:=fun v x hv=>hv.mono hM (fun _ _ _ _ h=>h)
 have hlO:∀b,live ι (S a) b→¬O b:=fun b hb ho=>rel.out b hb (.inr (.inl ho))
 have rel':RelH w' (Mof L O' lp dp) ι (S a) N:=by
  refine⟨fun r q sz els g hg=>?_,rel.apart,fun b hb hx=>?_,rel.idx,rel.dom,rel.gen,fun b hb=>?_⟩
  · obtain⟨l,h1,ok⟩:=rel.row r q sz els g hg;refine⟨l,h1,ok.trans (fun hpos=>?_) hvr⟩;have hl:live ι (S a) l.block:=⟨r,q,sz,els,g,l,hg,h1,hpos,rfl⟩;exact hsame _ (rel.live_lt hl) (hlO _ hl)
  ·
   rcases hx with hx|hx|hx
   · exact rel.out b hb (.inl hx)
   ·
    rcases hO' b hx with h1|h1
    · exact hlO b hb h1
    · have:=rel.live_lt hb;omega
   · exact rel.out b hb (.inr (.inr hx))
  ·
   rcases hb with hb|hb|hb|hb
   · exact Wj (rel.Lsz b (.inl hb)) hsize
   · exact hOlt b hb
   · omega
   · omega
 have st:=h.hin.st
 refine⟨a,ι,h.hp,⟨h.hin.size,h.hin.defers.go hM,⟨⟨hos.trans st.ext.os,htape.trans st.ext.tape,hout.trans st.ext.output,Wh st.ext.size hsize,fun b hb hn=>?_⟩,st.inj,rel',st.lv⟩,h.hin.le,fun i=>hvr _ _ (h.hin.kn i)⟩,
  (hsame lp hlpw hlpO).trans h.hrec,(hsame dp hdpw hdpO).trans h.hdef,h.own,h.ll,h.hl,h.hd,fun b hb=>?_,fun b hb=>Wj (h.hs b hb) hsize,Wh h.hn hsize,h.hl0,h.hd0,h.hn1,h.ne⟩
 · rw[hsame b (Wj hb st.ext.size) (fun ho=>by rcases(h.ho b ho).2 with h1|h1;exact hn h1;omega)];exact st.ext.block b hb hn
 ·
  rcases hO' b hb with h1|h1
  · exact h.ho b h1
  · exact⟨fun hl=>by have:=h.hs b hl;omega,.inr (Wh st.ext.size h1)⟩
theorem zx0 (base:∀r q g l,ι0 r q g=some l→r < B) {L' O:Nat→Prop} {W w3 w4:World} {a:α} {ι ι3:Inj} {H3:AH} {nx3:Nat} {rc4:Loop} {p':α→Prop} (h:RngJ nt n0 w0 L ι0 H0 B K1 S N act lp dp rc n1 p L' O W a ι)
  (rel3:RelH w3 (Mof L O lp dp) ι3 H3 nx3) (hsame:∀b,b < W.heap.size→b≠lp→¬live ι (S a) b→w3.heap[b]? = W.heap[b]?) (hsz:W.heap.size≤w3.heap.size) (hos:w3.os=W.os) (htape:w3.tape=W.tape) (hout:w3.output=W.output)
  (hinj:∀r q g l,ι r q g=some l→ι3 r q g=some l) (hlv:∀b,live ι3 H3 b→live ι (S a) b∨W.heap.size≤b) (hle:N≤nx3) (hw4:w4=w3.putObj lp (.loop rc4))
  {a':α} (hp':p' a') (he:Ent B K1 H3 nx3 K1 (S a') N) :
  Ext L' W w4∧∃ι',RngJ nt n0 w0 L ι0 H0 B K1 S N act lp dp rc4 n1 p' (zk6 L' W w4) O w4 a' ι':=by
 have hlpw:lp < W.heap.size:=h.hs lp h.hl;have hdpw:dp < W.heap.size:=h.hs dp h.hd
 have hs4:w4.heap.size=w3.heap.size:=by rw[hw4,World.putObj_size]
 have h4:∀b,b≠lp→w4.heap[b]? = w3.heap[b]? := fun b hb=>by rw[hw4];exact World.putObj_heap_other hb
 have hlive_lp:∀{ι H nx}{w:World},RelH w (Mof L O lp dp) ι H nx→¬live ι H lp:=fun rel hl=>rel.out lp hl (.inr (.inr (.inl rfl)))
 have hlive_dp:∀{ι H nx}{w:World},RelH w (Mof L O lp dp) ι H nx→¬live ι H dp:=fun rel hl=>rel.out dp hl (.inr (.inr (.inr rfl)))
 have e34:Ext (Mof L O lp dp) w3 w4:=by rw[hw4];exact zml (.inr (.inr (.inl rfl)))
 have rel4:RelH w4 (Mof L O lp dp) ι3 H3 nx3:=rel3.others e34 hs4
 have hsame4:∀b,b < W.heap.size→¬Lt (Mof L O lp dp) ι (S a) b→w4.heap[b]? = W.heap[b]? := fun b hb hn=>by
  have hne:b≠lp:=fun e=>hn (.inl (.inr (.inr (.inl e))))
  rw[h4 b hne];exact hsame b hb hne (fun hl=>hn (.inr hl))
 have st:=h.hin.st
 have os4:w4.os=W.os:=by rw[hw4];exact hos
 have tape4:w4.tape=W.tape:=by rw[hw4];exact htape
 have out4:w4.output=W.output:=by rw[hw4];exact hout
 have in4:In nt n0 w0 (Mof L O lp dp) ι0 H0 B w4 ι3 K1.get H3 nx3 act:=by
  refine⟨h.hin.size,h.hin.defers.go fun b hb hn=>⟨hsame4 b hb hn,fun hx=>?_⟩,⟨⟨os4.trans st.ext.os,tape4.trans st.ext.tape,out4.trans st.ext.output,by rw[hs4];exact Wh st.ext.size hsz,fun b hb hn=>?_⟩,fun r q g l hl=>hinj _ _ _ _ (st.inj _ _ _ _ hl),rel4,fun b hb=>?_⟩,Wh h.hin.le hle,fun i=>?_⟩
  ·
   rcases hx with hx|hx
   · exact hn (.inl hx)
   ·
    rcases hlv b hx with h1|h1
    · exact hn (.inr h1)
    · omega
  ·
   have hne:b≠lp:=fun e=>by have:=h.hl0;omega
   rw[h4 b hne,hsame b (Wj hb st.ext.size) hne (fun hl=>by rcases st.lv b hl with h1|h1;exact hn h1;omega)];exact st.ext.block b hb hn
  ·
   rcases hlv b hb with h1|h1
   · exact st.lv b h1
   · exact .inr (Wh st.ext.size h1)
  · exact zq1 rel4 hsame4 hlv hinj (h.hin.kn i)
 obtain⟨hN,hent⟩:=he;obtain⟨ι5,k3,k4,k5,k6⟩:=hent w4 (Mof L O lp dp) ι3 act.tmps in4.st.rel in4.kn
 have in5:In nt n0 w0 (Mof L O lp dp) ι0 H0 B w4 ι5 K1.get (S a') N act :=
  ⟨in4.size,in4.defers.less (fun b hb=>hb.imp id (k5 b)),⟨in4.st.ext,fun r q g l hl=>k6 r q g l (base _ _ _ _ hl) (in4.st.inj _ _ _ _ hl),k3,fun b hb=>in4.st.lv b (k5 b hb)⟩,hN,k4⟩
 have hext:Ext L' W w4:=by
  refine⟨os4,tape4,out4,by rw[hs4];exact hsz,fun b hb hn=>?_⟩
  have hne:b≠lp:=fun e=>hn (by rw[e];exact h.hl)
  rw[h4 b hne];exact hsame b hb hne (fun hl=>hn (h.own b hl))
 refine⟨hext,ι5,hp',in5,by rw[hw4];exact World.putObj_heap_same (Wj hlpw hsz),?_,fun b hb=>?_,fun b hb=>.inl (h.ll b hb),.inl h.hl,.inl h.hd,fun b hb=>⟨fun hx=>?_,(h.ho b hb).2⟩,fun b hb=>?_,by rw[hs4];exact Wh h.hn hsz,h.hl0,h.hd0,h.hn1,h.ne⟩
 · rw[h4 dp (Ne.symm h.ne),hsame dp hdpw (Ne.symm h.ne) (hlive_dp h.hin.st.rel)];exact h.hdef
 ·
  rcases hlv b (k5 b hb) with h1|h1
  · exact .inl (h.own b h1)
  · exact .inr ⟨h1,k3.live_lt hb⟩
 ·
  rcases hx with hx|hx
  · exact(h.ho b hb).1 hx
  · have:=h.hin.st.rel.Lsz b (.inr (.inl hb));omega
 ·
  rcases hb with hb|hb
  · exact Wj (h.hs b hb) hext.size
  · exact hb.2
end
def rcOf(fn0:FuncId)(tmps:Array Value)(ps0:Array Tmp)(cA cB:Code)(dp:Nat)(st:LoopState)(pd:Option Code):Loop:={ state:=st,pending:=pd,fn:=fn0,tmps:=tmps,params:=ps0,assign:=cA,body:=cB,defers:=dp }
def codeOf:AExit→Option Code
 | .ret=>some .ret
 | .exit id=>some (.exit id)
 | _=>none
theorem VRs.to{w w':World}{M M':Nat→Prop}{ι ι':Inj}:∀{vs:List Value}{xs:List AV},(∀v a,VR w M ι v a→VR w' M' ι' v a)→VRs w M ι vs xs→VRs w' M' ι' vs xs
 | [],[],_,_=>.nil
 | _::_,_::_,h,.cons h1 h2=>.cons (h _ _ h1) (VRs.to h h2)
theorem zEp {α σ:Type} {K1:Kn} {S:α→AH} {N:Nat} {act:Act} {lp dp:Nat} {n1:Nat} {fn0:FuncId} {q:Nat→List Nat} {x y:ACode} (hA:zzi P q nt x) (hB:zzi P q nt y) (base:∀r q g l,ι0 r q g=some l→r < B) {ps0:Array Tmp} {ps:List Nat} {cA cB:Code}
  (hps:ps0.toList=ps) (hlt:∀t∈ps,t < nt) (hcA:comp P nt q cA=some x.strip) (hcB:comp P nt q cB=some y.strip) (hdA:ziR cA=true) (hdB:ziR cB=true)
  {next:σ→Option (List AV × σ)} {inv:α→σ→Prop} {invx:α→AExit→Prop} (hlen:∀s x s',next s=some (x,s')→x.length=ps.length)
  (hround:∀a s z s',inv a s→next s=some (z,s')→WfK (zlP K1 ps z)→awp P N x (fun e K H nx=>match e with
   |
    .normal=>awp P N y (fun e K H nx=>match e with
    | .normal=>∃a',inv a' s'∧Ent B K1 H nx K1 (S a') N
    | .goto _=>False
    | e=>∃a',invx a' e∧Ent B K1 H nx K1 (S a') N) K H nx
   | _=>False) (zlP K1 ps z) (S a) N) :
  YOk P lp next (fun s L' O W=>∃a ι,RngJ nt n0 w0 L ι0 H0 B K1 S N act lp dp (rcOf fn0 act.tmps ps0 cA cB dp .ready none) n1 (fun a=>inv a s) L' O W a ι)
   (fun L' O W=>∃e c,codeOf e=some c∧∃a ι,RngJ nt n0 w0 L ι0 H0 B K1 S N act lp dp (rcOf fn0 act.tmps ps0 cA cB dp .done (some c)) n1 (fun a=>invx a e) L' O W a ι):=by
 rintro s z s' L' O W vs hnext ⟨a,ι,h⟩ hLs hOs hvs
 have hvl:vs.size=ps0.size:=by
  have h1:vs.toList.length=z.length:=hvs.length;have h2:=hlen s z s' hnext;rw[←hps] at h2
  simpa using h1.trans h2
 have rel:=h.hin.st.rel;have hlpw:lp < W.heap.size:=h.hs lp h.hl
 have hnl:∀{ι H nx}{w:World},RelH w (Mof L O lp dp) ι H nx→¬live ι H lp:=fun rel hl=>rel.out lp hl (.inr (.inr (.inl rfl)))
 refine⟨_,_,_,_,run_yield h.hrec (by simpa [rcOf] using hvl),?_⟩
 have htm:(ps0.zip vs).foldl (fun tmps (x:Tmp × Value)=>tmps.setIfInBounds x.1 x.2) act.tmps=setT act.tmps ps vs.toList:=by rw[←Array.foldl_toList,Array.toList_zip,hps];exact zrQ _ _ _
 have hvs':VRs W (Lt (Mof L O lp dp) ι (S a)) ι vs.toList z:=VRs.to (fun v b hv=>hv.mono (fun b _ hn=>⟨rfl,fun hx=>hn (by
  rcases hx with (hx|hx|hx|hx)|hx
  · exact .inl (h.ll b hx)
  · exact .inr hx
  · exact .inl (by rw[hx];exact h.hl)
  · exact .inl (by rw[hx];exact h.hd)
  · exact .inl (h.own b hx))⟩) (fun _ _ _ _ h=>by cases h)) hvs
 have hk1:KOk W (Lt (Mof L O lp dp) ι (S a)) ι (setT act.tmps ps vs.toList) (zlP K1 ps z).get:=zBO ps vs.toList z act.tmps K1 hvs' (fun t ht=>by rw[h.hin.size];exact hlt t ht) h.hin.kn
 have hsz1:(setT act.tmps ps vs.toList).size=nt:=by rw[zup];exact h.hin.size
 show RoundIn Fence.wide 0 P lp fn0 ((ps0.zip vs).foldl (fun tmps (x:Tmp × Value)=>tmps.setIfInBounds x.1 x.2) act.tmps) cA cB W _;rw[htm];generalize setT act.tmps ps vs.toList=tm at hk1 hsz1;refine roundIn_of_wpIn trivial ?_;have hinA:In nt W.heap.size W (Mof L O lp dp) ι (S a) N W ι (zlP K1 ps z).get (S a) N { tmps:=tm,defers:=[] }:=⟨hsz1,.nil,.refl rel,Wf _,hk1⟩;have hw:=hround a s z s' h.hp hnext hinA.wfK
 refine wpIn_mono (hA (F:=Fence.wide.inRound lp) (n:=0) (.inr ⟨lp,rfl⟩) rel.idx (Wf _) cA hcA (.inr hdA) _ W ι _ (S a) N _ hinA hw) fun e a1 w1 ⟨ι1,Kb,Hb,nxb,hin1,hq⟩=>?_
 cases e with
 |
  normal =>
  have hlp1:w1.heap[lp]? = some (.loop (rcOf fn0 act.tmps ps0 cA cB dp .ready none)):=(hin1.st.ext.block lp hlpw (hnl rel)).trans h.hrec;refine⟨_,run_beginRound hlp1 rfl,?_⟩;show cB.wpIn (Fence.wide.inRound lp) 0 P _ a1 (w1.putObj lp (.loop (rcOf fn0 act.tmps ps0 cA cB dp .busy none)));have hbs:(W.putObj lp (.loop (rcOf fn0 act.tmps ps0 cA cB dp .busy none))).heap.size=W.heap.size:=World.putObj_size
  have hb1:∀b,b≠lp→(W.putObj lp (.loop (rcOf fn0 act.tmps ps0 cA cB dp .busy none))).heap[b]? = W.heap[b]? := fun b hb=>World.putObj_heap_other hb
  have hb2:(W.putObj lp (.loop (rcOf fn0 act.tmps ps0 cA cB dp .busy none))).heap[lp]? = some (.loop (rcOf fn0 act.tmps ps0 cA cB dp .busy none)):=World.putObj_heap_same hlpw;have hb3:(W.putObj lp (.loop (rcOf fn0 act.tmps ps0 cA cB dp .busy none))).os=W.os∧(W.putObj lp (.loop (rcOf fn0 act.tmps ps0 cA cB dp .busy none))).tape=W.tape∧(W.putObj lp (.loop (rcOf fn0 act.tmps ps0 cA cB dp .busy none))).output=W.output:=⟨rfl,rfl,rfl⟩;generalize W.putObj lp (.loop (rcOf fn0 act.tmps ps0 cA cB dp .busy none))=Wb at hbs hb1 hb2 hb3
  have c2:∀b,b≠lp→(w1.putObj lp (.loop (rcOf fn0 act.tmps ps0 cA cB dp .busy none))).heap[b]? = w1.heap[b]? := fun b hb=>World.putObj_heap_other hb
  have c2l:(w1.putObj lp (.loop (rcOf fn0 act.tmps ps0 cA cB dp .busy none))).heap[lp]? = some (.loop (rcOf fn0 act.tmps ps0 cA cB dp .busy none)):=World.putObj_heap_same (Wj hlpw hin1.st.ext.size);have c2s:(w1.putObj lp (.loop (rcOf fn0 act.tmps ps0 cA cB dp .busy none))).heap.size=w1.heap.size:=World.putObj_size;have e12:Ext (Mof L O lp dp) w1 (w1.putObj lp (.loop (rcOf fn0 act.tmps ps0 cA cB dp .busy none))):=zml (.inr (.inr (.inl rfl)));generalize w1.putObj lp (.loop (rcOf fn0 act.tmps ps0 cA cB dp .busy none))=w2 at c2 c2l c2s e12;have rel2:RelH w2 (Mof L O lp dp) ι1 Hb nxb:=hin1.st.rel.others e12 c2s
  have hsame12:∀b,b < w1.heap.size→¬Lt (Mof L O lp dp) ι1 Hb b→w2.heap[b]? = w1.heap[b]? := fun b _ hn=>c2 b (fun e=>hn (.inl (.inr (.inr (.inl e)))))
  have in2:In nt W.heap.size Wb (Mof L O lp dp) ι (S a) N w2 ι1 Kb.get Hb nxb a1:=by
   refine⟨hin1.size,hin1.defers.go fun b hb hn=>⟨hsame12 b hb hn,hn⟩,⟨⟨e12.os.trans (hin1.st.ext.os.trans hb3.1.symm),e12.tape.trans (hin1.st.ext.tape.trans hb3.2.1.symm),e12.output.trans (hin1.st.ext.output.trans hb3.2.2.symm),by rw[c2s,hbs];exact hin1.st.ext.size,fun b hb hn=>?_⟩,hin1.st.inj,rel2,fun b hb=>by rw[hbs];exact hin1.st.lv b hb⟩,hin1.le,fun i=>zq1 rel2 hsame12 (fun b hb=>.inl hb) (fun _ _ _ _ h=>h) (hin1.kn i)⟩
   by_cases hbl:b=lp
   · rw[hbl,c2l,hb2]
   · rw[c2 b hbl,hb1 b hbl];exact hin1.st.ext.block b (by rw[←hbs];exact hb) hn
  refine wpIn_mono (hB (F:=Fence.wide.inRound lp) (n:=0) (.inr ⟨lp,rfl⟩) rel.idx (by rw[hbs];exact Wf _) cB hcB (.inr hdB) _ w2 ι1 Kb Hb nxb a1 in2 hq) fun e a3 w3 ⟨ι3,K3,H3,nx3,hin3,hq3⟩=>?_
  have hlp3:w3.heap[lp]? = some (.loop (rcOf fn0 act.tmps ps0 cA cB dp .busy none)):=(hin3.st.ext.block lp (by rw[hbs];exact hlpw) (hnl rel)).trans hb2
  have key:∀(rc4:Loop)(p':α→Prop)(a':α),p' a'→Ent B K1 H3 nx3 K1 (S a') N→Ext L' W (w3.putObj lp (.loop rc4))∧∃ι',RngJ nt n0 w0 L ι0 H0 B K1 S N act lp dp rc4 n1 p' (zk6 L' W (w3.putObj lp (.loop rc4))) O (w3.putObj lp (.loop rc4)) a' ι':=fun rc4 p' a' hp' he =>
   zx0 base h hin3.st.rel (fun b hb hne hn=>(hin3.st.ext.block b (by rw[hbs];exact hb) hn).trans (hb1 b hne)) (by rw[←hbs];exact hin3.st.ext.size) (hin3.st.ext.os.trans hb3.1) (hin3.st.ext.tape.trans hb3.2.1) (hin3.st.ext.output.trans hb3.2.2)
    hin3.st.inj (fun b hb=>by rw[←hbs];exact hin3.st.lv b hb) hin3.le rfl hp' he
  cases e with
  |
   normal =>
   obtain⟨a',hi',he⟩:=hq3;obtain⟨h1,ι',h2⟩:=key (rcOf fn0 act.tmps ps0 cA cB dp .ready none) (fun a=>inv a s') a' hi' he;exact⟨_,_,run_endRound none hlp3,h1,.inl ⟨rfl,a',ι',h2⟩⟩
  |
   ret =>
   obtain⟨a',hi',he⟩:=hq3;obtain⟨h1,ι',h2⟩:=key (rcOf fn0 act.tmps ps0 cA cB dp .done (some .ret)) (fun a=>invx a .ret) a' hi' he;exact⟨_,_,run_endRound (some .ret) hlp3,h1,.inr ⟨rfl,.ret,_,rfl,a',ι',h2⟩⟩
  |
   exit id =>
   obtain⟨a',hi',he⟩:=hq3;obtain⟨h1,ι',h2⟩:=key (rcOf fn0 act.tmps ps0 cA cB dp .done (some (.exit id))) (fun a=>invx a (.exit id)) a' hi' he;exact⟨_,_,run_endRound (some (.exit id)) hlp3,h1,.inr ⟨rfl,.exit id,_,rfl,a',ι',h2⟩⟩
  | _=>exact hq3.elim
 | _=>exact hq.elim
theorem zDH{α:Type}{K1:Kn}{S:α→AH}{N:Nat}{act:Act}{lp dp:Nat}{rc rc4:Loop}{n1:Nat}{p:α→Prop}{L' O:Nat→Prop}{W:World}{a:α}{ι:Inj}(hn0:n0≤w0.heap.size)(hLd:¬L dp)(h:RngJ nt n0 w0 L ι0 H0 B K1 S N act lp dp rc n1 p L' O W a ι):
  In nt n0 w0 (fun b=>L b∨O b) ι0 H0 B (W.putObj lp (.loop rc4)) ι K1.get (S a) N { act with defers:=[zrm dp]++act.defers }:=by
 have e:Ext (Mof L O lp dp) W (W.putObj lp (.loop rc4)):=zml (.inr (.inr (.inl rfl)));have hs:(W.putObj lp (.loop rc4)).heap.size=W.heap.size:=World.putObj_size
 have ho:∀b,b≠lp→(W.putObj lp (.loop rc4)).heap[b]? = W.heap[b]? := fun b hb=>World.putObj_heap_other hb
 generalize W.putObj lp (.loop rc4)=W4 at e hs ho;have st:=h.hin.st;have rel4:RelH W4 (Mof L O lp dp) ι (S a) N:=st.rel.others e hs
 have hsame:∀b,b < W.heap.size→¬Lt (Mof L O lp dp) ι (S a) b→W4.heap[b]? = W.heap[b]? := fun b _ hn=>ho b (fun e=>hn (.inl (.inr (.inr (.inl e)))))
 have hlt0:∀b,L b∨O b→Mof L O lp dp b:=fun b hb=>hb.imp id .inl
 have hlt:∀b,Lt (fun b=>L b∨O b) ι (S a) b→Lt (Mof L O lp dp) ι (S a) b:=fun b hb=>hb.imp (hlt0 b) id
 refine⟨h.hin.size,?_,⟨⟨e.os.trans st.ext.os,e.tape.trans st.ext.tape,e.output.trans st.ext.output,by rw[hs];exact st.ext.size,fun b hb hn=>?_⟩,st.inj,rel4.less hlt0,st.lv⟩,h.hin.le,fun i=>(zq1 rel4 hsame (fun b hb=>.inl hb) (fun _ _ _ _ h=>h) (h.hin.kn i)).anti hlt⟩
 ·
  obtain⟨ms,m1,m2,m3⟩:=h.hin.defers.go fun b hb hn=>⟨hsame b hb hn,hn⟩
  refine⟨dp::ms,by rw[m1];rfl,List.nodup_cons.2 ⟨fun hm=>(m3 dp hm).2.2 (.inl (.inr (.inr (.inr rfl)))),m2⟩,fun m hm=>?_⟩
  rcases WD.1 hm with rfl|hm
  ·
   refine⟨Wh hn0 h.hd0,(ho _ (Ne.symm h.ne)).trans h.hdef,fun hx=>?_⟩
   rcases hx with (hx|hx)|hx
   · exact hLd hx
   · exact(h.ho _ hx).1 h.hd
   · exact st.rel.out _ hx (.inr (.inr (.inr rfl)))
  · exact⟨(m3 m hm).1,(m3 m hm).2.1,fun hx=>(m3 m hm).2.2 (hlt m hx)⟩
 · rw[ho b (fun e=>by have:=h.hl0;omega)];exact st.ext.block b hb hn
theorem RelH.hide{w:World}{L:Nat→Prop}{ι:Inj}{Hc T:AH}{N nc:Nat}(rel:RelH w L ι (Hc++T) N)(hc:∀r o,Hc.look r=some o→r < nc)(hT:∀r o,T.look r=some o→nc≤r):
  RelH w (fun b=>L b∨live ι Hc b) ι T N∧∀b,Lt (fun b=>L b∨live ι Hc b) ι T b↔Lt L ι (Hc++T) b:=by
 have hget:=AH.get_low hc hT
 have hT':∀{r q o},AH.get T r q=some o→¬r < nc:=fun {r q o} h=>by unfold AH.get at h;obtain⟨u,h1,_⟩:=Wa.1 h;exact Wx.2 (hT r u h1)
 have hc':∀{r q o},AH.get Hc r q=some o→r < nc:=fun {r q o} h=>by unfold AH.get at h;obtain⟨u,h1,_⟩:=Wa.1 h;exact hc r u h1
 have l1:∀b,live ι Hc b→live ι (Hc++T) b:=fun b ⟨r,q,sz,els,g,l,h1,h2,h3,h4⟩=>⟨r,q,sz,els,g,l,by rw[hget,if_pos (hc' h1)];exact h1,h2,h3,h4⟩
 have l2:∀b,live ι T b→live ι (Hc++T) b:=fun b ⟨r,q,sz,els,g,l,h1,h2,h3,h4⟩=>⟨r,q,sz,els,g,l,by rw[hget,if_neg (hT' h1)];exact h1,h2,h3,h4⟩
 have l3:∀b,live ι (Hc++T) b→live ι Hc b∨live ι T b:=fun b ⟨r,q,sz,els,g,l,h1,h2,h3,h4⟩=>by
  rw[hget] at h1;split at h1
  · exact .inl ⟨r,q,sz,els,g,l,h1,h2,h3,h4⟩
  · exact .inr ⟨r,q,sz,els,g,l,h1,h2,h3,h4⟩
 have hlt:∀b,Lt (fun b=>L b∨live ι Hc b) ι T b↔Lt L ι (Hc++T) b:=fun b=>by
  constructor
  ·
   rintro((h|h)|h)
   · exact .inl h
   · exact .inr (l1 b h)
   · exact .inr (l2 b h)
  ·
   rintro(h|h)
   · exact .inl (.inl h)
   ·
    rcases l3 b h with h|h
    · exact .inl (.inr h)
    · exact .inr h
 refine⟨⟨fun r q sz els g hg=>?_,fun r1 q1 r2 q2 s1 e1 g1 l1 s2 e2 g2 l2 h1 h2=>rel.apart _ _ _ _ _ _ _ _ _ _ _ _ (by rw[hget,if_neg (hT' h1)];exact h1) (by rw[hget,if_neg (hT' h2)];exact h2),fun b hb hx=>?_,rel.idx,fun r o h=>?_,fun r q sz els g hg=>rel.gen r q sz els g (by rw[hget,if_neg (hT' hg)];exact hg),fun b hb=>?_⟩,hlt⟩
 · obtain⟨l,h1,ok⟩:=rel.row r q sz els g (by rw[hget,if_neg (hT' hg)];exact hg);exact⟨l,h1,ok.trans (fun _=>rfl) (fun v a hv=>hv.anti (fun b hb=>(hlt b).1 hb))⟩
 ·
  rcases hx with hx|hx
  · exact rel.out b (l2 b hb) hx
  · obtain⟨r1,q1,s1,e1,g1,l1',a1,a2,a3,a4⟩:=hb;obtain⟨r2,q2,s2,e2,g2,l2',b1,b2,b3,b4⟩:=hx;have:=(rel.apart r1 q1 r2 q2 s1 e1 g1 l1' s2 e2 g2 l2' (by rw[hget,if_neg (hT' a1)];exact a1) (by rw[hget,if_pos (hc' b1)];exact b1) a2 b2 a3 b3 (a4.trans b4.symm)).1;exact hT' a1 (this▸hc' b1)
 · exact rel.dom r o (by rw[AH.look_low hc hT,if_neg (Wx.2 (hT r o h))];exact h)
 ·
  rcases hb with hb|hb
  · exact rel.Lsz b hb
  · exact rel.live_lt (l1 b hb)
theorem RelH.keepLow{w:World}{L:Nat→Prop}{ι:Inj}{Hc T:AH}{N nc:Nat}(rel:RelH w L ι (Hc++T) N)(hc:LowH nc Hc)(hT:∀r o,T.look r=some o→nc≤r):
  RelH w (fun b=>L b∨live ι T b) (ι.upto nc) Hc nc∧∀b,live (ι.upto nc) Hc b↔live ι Hc b:=by
 have hget:=AH.get_low hc.num hT
 have hT':∀{r q o},AH.get T r q=some o→¬r < nc:=fun {r q o} h=>by unfold AH.get at h;obtain⟨u,h1,_⟩:=Wa.1 h;exact Wx.2 (hT r u h1)
 have hc':∀{r q o},AH.get Hc r q=some o→r < nc:=fun {r q o} h=>by unfold AH.get at h;obtain⟨u,h1,_⟩:=Wa.1 h;exact hc.num r u h1
 have hup:∀{r q g l},ι.upto nc r q g=some l→r < nc∧ι r q g=some l:=fun {r q g l} h=>by
  unfold Inj.upto at h;split at h
  · exact⟨‹_›,h⟩
  · cases h
 have hup':∀{r q g l},r < nc→ι r q g=some l→ι.upto nc r q g=some l:=fun {r q g l} h h2=>by unfold Inj.upto;rw[if_pos h];exact h2
 have l0:∀b,live (ι.upto nc) Hc b↔live ι Hc b:=fun b=>by
  constructor
  · rintro⟨r,q,sz,els,g,l,h1,h2,h3,h4⟩;exact⟨r,q,sz,els,g,l,h1,(hup h2).2,h3,h4⟩
  · rintro⟨r,q,sz,els,g,l,h1,h2,h3,h4⟩;exact⟨r,q,sz,els,g,l,h1,hup' (hc' h1) h2,h3,h4⟩
 have l1:∀b,live ι Hc b→live ι (Hc++T) b:=fun b ⟨r,q,sz,els,g,l,h1,h2,h3,h4⟩=>⟨r,q,sz,els,g,l,by rw[hget,if_pos (hc' h1)];exact h1,h2,h3,h4⟩
 have l2:∀b,live ι T b→live ι (Hc++T) b:=fun b ⟨r,q,sz,els,g,l,h1,h2,h3,h4⟩=>⟨r,q,sz,els,g,l,by rw[hget,if_neg (hT' h1)];exact h1,h2,h3,h4⟩
 have hlt:∀b,Lt (fun b=>L b∨live ι T b) (ι.upto nc) Hc b→Lt L ι (Hc++T) b:=fun b hb=>by
  rcases hb with (h|h)|h
  · exact .inl h
  · exact .inr (l2 b h)
  · exact .inr (l1 b ((l0 b).1 h))
 refine⟨⟨fun r q sz els g hg=>?_,fun r1 q1 r2 q2 s1 e1 g1 l1 s2 e2 g2 l2 h1 h2 h3 h4=>rel.apart _ _ _ _ _ _ _ _ _ _ _ _ (by rw[hget,if_pos (hc' h1)];exact h1) (by rw[hget,if_pos (hc' h2)];exact h2) (hup h3).2 (hup h4).2,fun b hb hx=>?_,fun r q g l h=>(hup h).1,fun r o h=>hc.num r o h,fun r q sz els g hg g2 l h=>rel.gen r q sz els g (by rw[hget,if_pos (hc' hg)];exact hg) g2 l (hup h).2,fun b hb=>?_⟩,l0⟩
 · obtain⟨l,h1,ok⟩:=rel.row r q sz els g (by rw[hget,if_pos (hc' hg)];exact hg);refine⟨l,hup' (hc' hg) h1,ok.view (fun _=>rfl) rfl (fun i c hi=>⟨c,hi,rfl,fun j a a' hj hj' v hv=>?_⟩)⟩;rw[hj] at hj';cases hj';exact(hv.upto (hc.val r q sz els g hg c (Wk hi) a (Wk hj))).anti hlt
 ·
  have hb:=(l0 b).1 hb
  rcases hx with hx|hx
  · exact rel.out b (l1 b hb) hx
  · obtain⟨r1,q1,s1,e1,g1,l1',a1,a2,a3,a4⟩:=hb;obtain⟨r2,q2,s2,e2,g2,l2',b1,b2,b3,b4⟩:=hx;have:=(rel.apart r1 q1 r2 q2 s1 e1 g1 l1' s2 e2 g2 l2' (by rw[hget,if_pos (hc' a1)];exact a1) (by rw[hget,if_neg (hT' b1)];exact b1) a2 b2 a3 b3 (a4.trans b4.symm)).1;exact hT' b1 (this▸hc' a1)
 ·
  rcases hb with hb|hb
  · exact rel.Lsz b hb
  · exact rel.live_lt (l2 b hb)
theorem RelH.restrict{w:World}{L:Nat→Prop}{ι:Inj}{H:AH}{nx n:Nat}(rel:RelH w L ι H nx):RelH w L ι (AH.upto H n) nx∧∀b,live ι (AH.upto H n) b→live ι H b:=by
 have hg:∀{r q o},AH.get (AH.upto H n) r q=some o→H.get r q=some o:=fun {r q o} h=>by
  rw[AH.get_upto] at h;split at h
  · exact h
  · cases h
 have hl:∀b,live ι (AH.upto H n) b→live ι H b:=fun b ⟨r,q,sz,els,g,l,h1,h2,h3,h4⟩=>⟨r,q,sz,els,g,l,hg h1,h2,h3,h4⟩
 refine⟨⟨fun r q sz els g h=>?_,fun r1 q1 r2 q2 s1 e1 g1 l1 s2 e2 g2 l2 h1 h2=>rel.apart _ _ _ _ _ _ _ _ _ _ _ _ (hg h1) (hg h2),fun b hb=>rel.out b (hl b hb),rel.idx,fun r o h=>?_,fun r q sz els g h=>rel.gen r q sz els g (hg h),rel.Lsz⟩,hl⟩
 · obtain⟨l,h1,ok⟩:=rel.row r q sz els g (hg h);exact⟨l,h1,ok.trans (fun _=>rfl) (fun v a hv=>hv.anti (fun b hb=>hb.imp id (hl b)))⟩
 ·
  rw[AH.look_upto] at h;split at h
  · exact rel.dom r o h
  · cases h
theorem In.merge {w:World} {O L2:Nat→Prop} {ι ι2:Inj} {K:Kn} {H2 T:AH} {N nx2 nc:Nat} {act:Act} (h:In nt n0 w0 (fun b=>L b∨O b) ι0 H0 B w ι K.get T N act) (rel2:RelH w L2 ι2 H2 nx2) (hO:∀b,live ι2 H2 b→O b)
  (hOl:∀b,O b→live ι0 H0 b∨w0.heap.size≤b) (hL2:∀b,L b→L2 b) (hT2:∀b,live ι T b→L2 b) (low:LowH nc H2) (high:HighH nc T) (hK:∀i,AV.From nc (K.get i)) (hN:nc≤N) (hι0:∀r q g l,r < nc→ι0 r q g=some l→ι2 r q g=some l) :
  In nt n0 w0 L ι0 H0 B w (fun r q g=>if r < nc then ι2 r q g else ι r q g) K.get (H2++T) N act:=by
 have hget:=AH.get_low low.num high.num
 have hT':∀{r q o},AH.get T r q=some o→¬r < nc:=fun {r q o} h=>by unfold AH.get at h;obtain⟨u,h1,_⟩:=Wa.1 h;exact Wx.2 (high.num r u h1)
 have lm:∀b,live (fun r q g=>if r < nc then ι2 r q g else ι r q g) (H2++T) b→live ι2 H2 b∨live ι T b:=fun b ⟨r,q,sz,els,g,l,h1,h2,h3,h4⟩=>by
  rw[hget] at h1;split at h1
  · rename_i hr;simp only[if_pos hr] at h2;exact .inl ⟨r,q,sz,els,g,l,h1,h2,h3,h4⟩
  · rename_i hr;simp only[if_neg hr] at h2;exact .inr ⟨r,q,sz,els,g,l,h1,h2,h3,h4⟩
 have lt1:∀b,Lt L (fun r q g=>if r < nc then ι2 r q g else ι r q g) (H2++T) b→Lt (fun b=>L b∨O b) ι T b:=fun b hb=>by
  rcases hb with hb|hb
  · exact .inl (.inl hb)
  ·
   rcases lm b hb with hb|hb
   · exact .inl (.inr (hO b hb))
   · exact .inr hb
 have lt2:∀b,Lt L (fun r q g=>if r < nc then ι2 r q g else ι r q g) (H2++T) b→Lt L2 ι2 H2 b:=fun b hb=>by
  rcases hb with hb|hb
  · exact .inl (hL2 b hb)
  ·
   rcases lm b hb with hb|hb
   · exact .inr hb
   · exact .inl (hT2 b hb)
 have c1:∀{v a},AV.From nc a→VR w (Lt (fun b=>L b∨O b) ι T) ι v a→VR w (Lt L (fun r q g=>if r < nc then ι2 r q g else ι r q g) (H2++T)) (fun r q g=>if r < nc then ι2 r q g else ι r q g) v a:=fun ha hv =>
  (hv.above ha).mono (fun b _ hn=>⟨rfl,fun hx=>hn (lt1 b hx)⟩) (fun r q g l h=>by
   unfold Inj.above at h;split at h
   · cases h
   ·
    rename_i hr;simp only[if_neg hr]
    exact h)
 have c2:∀{v a},AV.Below nc a→VR w (Lt L2 ι2 H2) ι2 v a→VR w (Lt L (fun r q g=>if r < nc then ι2 r q g else ι r q g) (H2++T)) (fun r q g=>if r < nc then ι2 r q g else ι r q g) v a:=fun ha hv =>
  (hv.upto ha).mono (fun b _ hn=>⟨rfl,fun hx=>hn (lt2 b hx)⟩) (fun r q g l h=>by
   unfold Inj.upto at h;split at h
   · rename_i hr;simp only[if_pos hr];exact h
   · cases h)
 refine⟨h.size,h.defers.less lt1,⟨h.st.ext,fun r q g l hl=>?_,⟨fun r q sz els g hg=>?_,?_,fun b hb hx=>?_,fun r q g l hl=>?_,fun r o ho=>?_,fun r q sz els g hg g' l hl=>?_,fun b hb=>h.st.rel.Lsz b (.inl hb)⟩,fun b hb=>?_⟩,h.le,fun i=>c1 (hK i) (h.kn i)⟩
 ·
  by_cases hr:r < nc
  · simp only[if_pos hr];exact hι0 r q g l hr hl
  · simp only[if_neg hr];exact h.st.inj r q g l hl
 ·
  rw[hget] at hg;split at hg
  · rename_i hr;obtain⟨l,h1,ok⟩:=rel2.row r q sz els g hg;refine⟨l,by simp only[if_pos hr];exact h1,ok.view (fun _=>rfl) rfl (fun i c hi=>⟨c,hi,rfl,fun j a a' hj hj' v hv=>?_⟩)⟩;rw[hj] at hj';cases hj';exact c2 (low.val r q sz els g hg c (Wk hi) a (Wk hj)) hv
  · rename_i hr;obtain⟨l,h1,ok⟩:=h.st.rel.row r q sz els g hg;refine⟨l,by simp only[if_neg hr];exact h1,ok.view (fun _=>rfl) rfl (fun i c hi=>⟨c,hi,rfl,fun j a a' hj hj' v hv=>?_⟩)⟩;rw[hj] at hj';cases hj';exact c1 (high.val r q sz els g hg c (Wk hi) a (Wk hj)) hv
 ·
  intro r1 q1 r2 q2 s1 e1 g1 l1 s2 e2 g2 l2 h1 h2 h3 h4 h5 h6 h7
  have cross:∀{x y s e g l x' y' s' e' g' l'},AH.get H2 x y=some (.row s e g)→ι2 x y g=some l→0 < l.cap * l.sz→AH.get T x' y'=some (.row s' e' g')→ι x' y' g'=some l'→0 < l'.cap * l'.sz→l.block=l'.block→False:=by intro x y s e g l x' y' s' e' g' l' a1 a2 a3 a4 a5 a6 a7;exact h.st.rel.out l'.block ⟨_,_,_,_,_,_,a4,a5,a6,rfl⟩ (.inr (hO _ ⟨_,_,_,_,_,_,a1,a2,a3,a7⟩))
  rw[hget] at h1 h2
  by_cases hr1:r1 < nc
  ·
   rw[if_pos hr1] at h1;simp only[if_pos hr1] at h3
   by_cases hr2:r2 < nc
   · rw[if_pos hr2] at h2;simp only[if_pos hr2] at h4;exact rel2.apart _ _ _ _ _ _ _ _ _ _ _ _ h1 h2 h3 h4 h5 h6 h7
   · rw[if_neg hr2] at h2;simp only[if_neg hr2] at h4;exact(cross h1 h3 h5 h2 h4 h6 h7).elim
  ·
   rw[if_neg hr1] at h1;simp only[if_neg hr1] at h3
   by_cases hr2:r2 < nc
   · rw[if_pos hr2] at h2;simp only[if_pos hr2] at h4;exact(cross h2 h4 h6 h1 h3 h5 h7.symm).elim
   · rw[if_neg hr2] at h2;simp only[if_neg hr2] at h4;exact h.st.rel.apart _ _ _ _ _ _ _ _ _ _ _ _ h1 h2 h3 h4 h5 h6 h7
 ·
  rcases lm b hb with h1|h1
  · exact rel2.out b h1 (hL2 b hx)
  · exact h.st.rel.out b h1 (.inl hx)
 ·
  by_cases hr:r < nc
  · omega
  · simp only[if_neg hr] at hl;exact h.st.rel.idx r q g l hl
 ·
  rw[AH.look_low low.num high.num] at ho;split at ho
  · omega
  · exact h.st.rel.dom r o ho
 ·
  rw[hget] at hg
  by_cases hr:r < nc
  · rw[if_pos hr] at hg;simp only[if_pos hr] at hl;exact rel2.gen r q sz els g hg g' l hl
  · rw[if_neg hr] at hg;simp only[if_neg hr] at hl;exact h.st.rel.gen r q sz els g hg g' l hl
 ·
  rcases lm b hb with h1|h1
  · exact hOl b (hO b h1)
  · exact h.st.lv b h1
theorem zoF(b:Nat):¬live noI [] b:=by rintro⟨r,q,sz,els,g,l,h,_⟩;cases h
theorem RelH.empty{w:World}{M:Nat→Prop}(hM:∀b,M b→b < w.heap.size):RelH w M noI [] 0:=by
 constructor
 · intro r q sz els g h;cases h
 · intro r1 q1 r2 q2 s1 e1 g1 l1 s2 e2 g2 l2 h;cases h
 · intro b hb;exact(zoF b hb).elim
 · intro r q g l h;cases h
 · intro r o h;cases h
 · intro r q sz els g h;cases h
 · exact hM
set_option maxHeartbeats 400000 in
theorem zDA {q:Nat→List Nat} {x y:ACode} (hA:zzi P q nt x) (hB:zzi P q nt y) (base:∀r q g l,ι0 r q g=some l→r < B) (hn0:n0≤w0.heap.size) {g0:Operand} {g:AOpd} {ps0:Array Tmp} {ps:List Nat} {cA cB:Code} {n:Nat}
  (hg:copd g0=some g) (hps:ps0.toList=ps) (hlt:∀t∈ps,t < nt) (hcA:comp P nt q cA=some x.strip) (hcB:comp P nt q cB=some y.strip) (hdA:ziR cA=true) (hdB:ziR cB=true)
  {Q:QT} {w:World} {ι:Inj} {K:Kn} {H:AH} {nx:Nat} {a:Act} (hin:In nt n0 w0 L ι0 H0 B w ι K.get H nx a) (h:awp P B (.range g ps x y) Q K H nx) :
  (Code.rangeFunc g0 ps0 cA cB).wpIn Fence.wide n P (QQ nt n0 w0 L ι0 H0 B Q) a w:=by
 obtain⟨σ,f,caps,next,ok,s0,α,K1,S,N,inv,invx,nc,Hc,R,hv,hgood,hcaps,hit,hok,hlen,⟨hnB,hlow,hRl,hhigh,hK1⟩,⟨a0,hinv0,he0⟩,hround,hdone,hx⟩:=h;have hgv:=zp hin.kn hg;rw[hv] at hgv
 obtain⟨cs,hval,hcs,hcv⟩:∃cs,a.eval g0=.func (.func f) #[] cs∧cs.size=caps.length∧∀(i:Nat)(v:Value)(b:AV),cs[i]? = some v→caps[i]? = some b→VR w (Lt L ι H) ι v b:=by
  generalize a.eval g0=v at hgv
  cases hgv with
  | fn _ _ cs _ hs hv=>exact⟨cs,rfl,hs,hv⟩
 obtain⟨hN,hent⟩:=he0;obtain⟨ι1,k3,k4,k5,k6⟩:=hent w L ι a.tmps hin.st.rel hin.kn;have hnN:nc≤N:=Wh hnB hN
 have hinA:In nt n0 w0 L ι0 H0 B w ι1 K1.get (Hc++S a0) N a :=
  ⟨hin.size,hin.defers.less (fun b hb=>hb.imp id (k5 b)),⟨hin.st.ext,fun r q g l hl=>k6 r q g l (base _ _ _ _ hl) (hin.st.inj _ _ _ _ hl),k3,fun b hb=>hin.st.lv b (k5 b hb)⟩,hN,k4⟩
 obtain⟨kh,kl⟩:=k3.hide hlow.num (hhigh a0).num;obtain⟨kc,kc0⟩:=k3.keepLow hlow (hhigh a0).num
 have lvT:∀b,live ι1 (S a0) b→live ι1 (Hc++S a0) b:=fun b hb=>((kl b).1 (.inr hb)).resolve_left (fun hl=>kh.out b hb (.inl hl))
 have lvC:∀b,live (ι1.upto nc) Hc b→live ι1 (Hc++S a0) b:=fun b hb=>((kl b).1 (.inl (.inr ((kc0 b).1 hb)))).resolve_left (fun hl=>kc.out b hb (.inl hl))
 have hLC:(fun b=>L b∨live ι1 Hc b)=(fun b=>L b∨live (ι1.upto nc) Hc b):=by funext b;exact propext (or_congr Iff.rfl (kc0 b).symm)
 have hin1:In nt n0 w0 (fun b=>L b∨live (ι1.upto nc) Hc b) ι0 H0 B w ι1 K1.get (S a0) N a:=by rw[←hLC];exact⟨hinA.size,hinA.defers.less (fun b hb=>(kl b).1 hb),⟨hinA.st.ext,hinA.st.inj,kh,fun b hb=>hinA.st.lv b (lvT b hb)⟩,hinA.le,fun i=>(hinA.kn i).anti (fun b hb=>(kl b).1 hb)⟩
 rw[hLC] at kh
 refine wpIn_rangeFunc fun fn0 _=>?_
 have hent1:=run_enterLoop_outer (P:=P) (w:=w) fn0 a.tmps ps0 cA cB;have hw1o:((w.alloc (.deferred (some []))).alloc (.loop (rcOf fn0 a.tmps ps0 cA cB w.heap.size .ready none))).os=w.os∧((w.alloc (.deferred (some []))).alloc (.loop (rcOf fn0 a.tmps ps0 cA cB w.heap.size .ready none))).tape=w.tape∧((w.alloc (.deferred (some []))).alloc (.loop (rcOf fn0 a.tmps ps0 cA cB w.heap.size .ready none))).output=w.output:=⟨rfl,rfl,rfl⟩
 have hw1s:((w.alloc (.deferred (some []))).alloc (.loop (rcOf fn0 a.tmps ps0 cA cB w.heap.size .ready none))).heap.size=w.heap.size+2:=by simp
 have hw1b:∀b,b < w.heap.size→((w.alloc (.deferred (some []))).alloc (.loop (rcOf fn0 a.tmps ps0 cA cB w.heap.size .ready none))).heap[b]? = w.heap[b]? := fun b hb=>by rw[Below.heap_alloc _ _ b (by simp;omega),Below.heap_alloc _ _ b hb]
 have hw1d:((w.alloc (.deferred (some []))).alloc (.loop (rcOf fn0 a.tmps ps0 cA cB w.heap.size .ready none))).heap[w.heap.size]? = some (.deferred (some [])):=by rw[Below.heap_alloc _ _ _ (by simp)];exact World.alloc_heap_new _ _
 have hw1l:((w.alloc (.deferred (some []))).alloc (.loop (rcOf fn0 a.tmps ps0 cA cB w.heap.size .ready none))).heap[w.heap.size+1]? = some (.loop (rcOf fn0 a.tmps ps0 cA cB w.heap.size .ready none)):=by
  have:=World.alloc_heap_new (w.alloc (.deferred (some []))) (.loop (rcOf fn0 a.tmps ps0 cA cB w.heap.size .ready none))
  simpa using this
 have hent2:Sem.run P (Instr.enterLoop fn0 a.tmps ps0 cA cB none) w=.ok (w.heap.size+1,[{ target:=.collected w.heap.size,args:=#[] }]) ((w.alloc (.deferred (some []))).alloc (.loop (rcOf fn0 a.tmps ps0 cA cB w.heap.size .ready none))):=hent1;clear hent1;generalize (w.alloc (.deferred (some []))).alloc (.loop (rcOf fn0 a.tmps ps0 cA cB w.heap.size .ready none))=w1 at hw1s hw1b hw1d hw1l hw1o hent2;refine⟨w.heap.size+1,[{ target:=.collected w.heap.size,args:=#[] }],w1,{ target:=.fn (.func f) cs,args:=#[.func (.yield (w.heap.size+1)) #[] #[]] },w1,f,#[.func (.yield (w.heap.size+1)) #[] #[]]++cs,w1,hent2,?_,fun f' hf'=>trivial,?_,fun h=>?_,?_⟩
 · simp[resolve,rangeCall,hval,Deferred.ofValue,Sem.run_bind];rfl
 · simp[invoke,zpa hgood]
 · exact absurd h (by decide)
 have e01:∀M:Nat→Prop,Ext M w w1:=fun M=>⟨hw1o.1,hw1o.2.1,hw1o.2.2,by omega,fun b hb _=>hw1b b hb⟩
 have hLn:∀b,L b→b < w.heap.size:=fun b hb=>hin.st.rel.Lsz b hb
 have hlive1:∀b,live ι1 (S a0) b→b < w.heap.size:=fun b hb=>kh.live_lt hb
 have hliveC:∀b,live (ι1.upto nc) Hc b→b < w.heap.size:=fun b hb=>kc.live_lt hb
 let Lit:Nat→Prop:=fun b=>L b∨live ι1 (S a0) b∨b=w.heap.size+1∨b=w.heap.size
 have hmg:∀b,Mof L (live (ι1.upto nc) Hc) (w.heap.size+1) w.heap.size b→zk6 (fun b=>L b∨live (ι1.upto nc) Hc b) w w1 b:=fun b hb=>by
  rcases hb with hb|hb|hb|hb
  · exact .inl (.inl hb)
  · exact .inl (.inr hb)
  · exact .inr (by omega)
  · exact .inr (by omega)
 have hin0:In nt n0 w0 (Mof L (live (ι1.upto nc) Hc) (w.heap.size+1) w.heap.size) ι0 H0 B w1 ι1 K1.get (S a0) N a:=by refine⟨hin1.size,(hin1.defers.yield kh (e01 _)).less (fun b hb=>hb.imp (hmg b) id),⟨⟨(e01 L).os.trans hin1.st.ext.os,(e01 L).tape.trans hin1.st.ext.tape,(e01 L).output.trans hin1.st.ext.output,Wh hin1.st.ext.size (e01 L).size,fun b hb hn=>?_⟩,hin1.st.inj,(kh.yield (e01 _)).less hmg,hin1.st.lv⟩,hN,fun i=>(znF kh (e01 _) (hin1.kn i)).anti (fun b hb=>hb.imp (hmg b) id)⟩;rw[hw1b b (Wj hb hin1.st.ext.size)];exact hin1.st.ext.block b hb hn
 have hw0:w0.heap.size≤w.heap.size:=hin1.st.ext.size
 have hOl:∀b,live (ι1.upto nc) Hc b→live ι0 H0 b∨w0.heap.size≤b:=fun b hb=>hinA.st.lv b (lvC b hb)
 have hJ0:RngJ nt n0 w0 L ι0 H0 B K1 S N a (w.heap.size+1) w.heap.size (rcOf fn0 a.tmps ps0 cA cB w.heap.size .ready none) w1.heap.size (fun a=>inv a s0) Lit (live (ι1.upto nc) Hc) w1 a0 ι1:=by
  refine⟨hinv0,hin0,hw1l,hw1d,fun b hb=>.inr (.inl hb),fun b hb=>.inl hb,.inr (.inr (.inl rfl)),.inr (.inr (.inr rfl)),fun b hb=>⟨fun hx=>?_,hOl b hb⟩,fun b hb=>?_,Wf _,by omega,hw0,by omega,by omega⟩
  ·
   have:=hliveC b hb
   rcases hx with hx|hx|hx|hx
   · exact kc.out b hb (.inl hx)
   · exact kc.out b hb (.inr hx)
   · omega
   · omega
  ·
   rcases hb with hb|hb|hb|hb
   · have:=hLn b hb;omega
   · have:=hlive1 b hb;omega
   · omega
   · omega
 have hLitG:∀b,Lit b→zk6 (fun b=>L b∨live ι1 (S a0) b) w w1 b:=fun b hb=>by
  rcases hb with hb|hb|hb|hb
  · exact .inl (.inl hb)
  · exact .inl (.inr hb)
  · exact .inr (by omega)
  · exact .inr (by omega)
 have relC:RelH w1 Lit (ι1.upto nc) Hc nc:=(kc.yield (e01 _)).less hLitG
 have hvc:VRs w1 (Lt Lit (ι1.upto nc) Hc) (ι1.upto nc) cs.toList caps:=by
  refine .ofGet _ _ (by simpa using hcs) fun i v b h1 h2=>?_
  have h3:=(hcv i v b (by simpa using h1) h2).upto (hcaps b (Wk h2))
  exact h3.mono (fun b hb hn=>⟨hw1b b hb,fun hx=>by
   rcases hx with (hx|hx|hx|hx)|hx
   · exact hn (.inl hx)
   · exact hn (.inr (k5 b (lvT b hx)))
   · omega
   · omega
   ·
    exact hn (.inr (k5 b (lvC b hx)))⟩) (fun r q g l h=>by
    unfold Inj.upto at h ⊢;split at h
    · rename_i hr;rw[if_pos hr];exact k6 r q g l (by omega) h
    · cases h)
 have hLd:¬L w.heap.size:=fun hl=>Nat.lt_irrefl _ (hLn _ hl)
 refine callsIn_wide.2 ((hit w1 Lit (ι1.upto nc) cs (w.heap.size+1) _ _ (fun s=>zui (p:=fun a=>inv a s)) (by
   rintro L1 O O' v v' ⟨e,c,hc,hj⟩ g1 g2 g3 g4 g5 g6 g7
   exact⟨e,c,hc,zui L1 O O' v v' hj g1 g2 g3 g4 g5 g6 g7⟩) (zEp (n0:=n0) (w0:=w0) (L:=L) (H0:=H0) (act:=a) (dp:=w.heap.size) (n1:=w1.heap.size) (fn0:=fn0) hA hB base hps hlt hcA hcB hdA hdB hlen hround) (fun s L O w ⟨y,ι,hj⟩=>hok y s hj.hp) relC hvc ⟨a0,ι1,hJ0⟩).mono fun e w' ⟨v,L2,ι2,H2,nx2,he,sty,_,hres⟩=>?_)
 subst he;obtain⟨relR,lvR⟩:=sty.rel.restrict (n:=nc)
 have hfin:∀{p:α→Prop}{rc:Loop}{a1:α}{ι3:Inj}{so:Option σ}(rc4:Loop),RngJ nt n0 w0 L ι0 H0 B K1 S N a (w.heap.size+1) w.heap.size rc w1.heap.size p L2 (live ι2 H2) w' a1 ι3→R so (AH.upto H2 nc) →
   ∃ι',In nt n0 w0 L ι0 H0 B (w'.putObj (w.heap.size+1) (.loop rc4)) ι' K1.get (AH.upto H2 nc++S a1) N { a with defers:=[zrm w.heap.size]++a.defers }:=fun {p rc a1 ι3 so} rc4 hj hR=>by
  have e4:Ext L2 w' (w'.putObj (w.heap.size+1) (.loop rc4)):=zml hj.hl;refine⟨_,(zDH hn0 hLd hj).merge (relR.others e4 World.putObj_size) lvR (fun b hb=>(hj.ho b hb).2) hj.ll hj.own (hRl _ _ hR) (hhigh a1) hK1 hnN fun r q g l hr hl=>?_⟩;refine sty.inj r q g l ?_;unfold Inj.upto;rw[if_pos hr];exact hinA.st.inj r q g l hl
 rcases hres with ⟨s,⟨a1,ι3,hj⟩,hs,hR⟩ | ⟨⟨e,c,hc,a1,ι3,hj⟩,_,hR⟩
 · obtain⟨ι',hi⟩:=hfin _ hj hR;exact⟨_,_,run_endLoop hj.hrec (by simp[rcOf]),ι',K1,_,N,hi,hdone a1 s _ hj.hp hs hR⟩
 ·
  refine⟨_,_,run_endLoop hj.hrec (by simp[rcOf]),?_⟩
  cases e with
  |
   ret =>
   cases hc;obtain⟨ι',hi⟩:=hfin { rcOf fn0 a.tmps ps0 cA cB w.heap.size .done (some .ret) with state:=.exhausted } hj hR;exact wpIn_ret ⟨ι',K1,_,N,hi,hx a1 _ _ hj.hp hR⟩
  |
   exit id =>
   cases hc;obtain⟨ι',hi⟩:=hfin { rcOf fn0 a.tmps ps0 cA cB w.heap.size .done (some (.exit id)) with state:=.exhausted } hj hR;exact wpIn_exit ⟨ι',K1,_,N,hi,hx a1 _ _ hj.hp hR⟩
  | _=>cases hc
end
section
variable {P:Program} {L:Nat→Prop} {nt n0:Nat} {w0:World} {ι0:Inj} {H0:AH} {B:Nat}
theorem zsc{ops:Array Oper}{drop:List Nat}{Q:QT}:∀(l:List Oper)(asv:List AOper),asv.length=l.length→(∀(i:Nat)(o:Oper)(ao:AOper),l[i]? = some o→asv[i]? = some ao→OpRel P nt ops o ao) →
  ∀{w:World}{ι:Inj}{K:Kn}{H:AH}{nx:Nat}{a:Act},In nt n0 w0 L ι0 H0 B w ι K.get H nx a→aops P asv drop Q K H nx→wpList P ops (QQ nt n0 w0 L ι0 H0 B Q) l a w
 | [],[],_,_,w,ι,K,H,nx,a,hin,h=>⟨ι,K.drop drop,H,nx,hin.drop drop,h⟩
 |
  o::l,ao::asv,hl,hr,w,ι,K,H,nx,a,hin,h=>by
  have h1:=hr 0 o ao rfl rfl;have hex:=zqH (k':=fun ρ H nx=>∃K',Kn.get K'=ρ∧aops P asv drop Q K' H nx) (fun K H nx hh=>⟨K,rfl,hh⟩) h
  have:=zra h1 hin hex (Kc:=wpList P ops (QQ nt n0 w0 L ι0 H0 B Q) l) (Qc:=QQ nt n0 w0 L ι0 H0 B Q) (fun w' ι' ρ' H' nx' a' hin' ⟨K',hK',hh⟩=>by
   subst hK'
   exact zsc l asv (by simpa using hl) (fun i o ao h1 h2=>hr (i+1) o ao (by simpa using h1) (by simpa using h2)) hin' hh)
  unfold wpList;split
  · rename_i hw;rw[if_pos hw] at this;exact .inl this
  · rename_i hw;rw[if_neg hw] at this;exact this
theorem ztb{ops:Array Oper}:∀{l:List Oper}{asv:List AOper},l.mapM (zCX P nt ops)=some asv→asv.length=l.length∧∀(i:Nat)(o:Oper)(ao:AOper),l[i]? = some o→asv[i]? = some ao→OpRel P nt ops o ao:=by intro l asv h;refine⟨zjA.mapM_len _ _ _ h,fun i o ao h1 h2=>zAV (zjA.mapM_get _ _ _ h i o ao h1 h2)⟩
def zqE(P:Program):Prop:=∀(F:Fence)(n:Nat),zgW F→∀(nt n0:Nat)(w0:World)(L:Nat→Prop)(ι0:Inj)(H0:AH)(B:Nat)(id:Nat)(ops:Array Oper)(bs:List AOper)(drop:List Nat)(Q:QT),
 bs.length=ops.size→(∀(i:Nat)(o:Oper)(ao:AOper),ops.toList[i]? = some o→bs[i]? = some ao→OpRel P nt ops o ao)→P.follows .mixedOrders=true →
 ((WE ops.size).all fun j=>((ops.toList.map zmY).getD j []).all fun i=>Nat.blt i j)=true→(F=Fence.wide∨∀(i:Nat)(o:Oper),ops.toList[i]? = some o→∀c,o.op≠.defer c) →
 ∀(w:World)(ι:Inj)(K:Kn)(H:AH)(nx:Nat)(a:Act),In nt n0 w0 L ι0 H0 B w ι K.get H nx a →
  awpT P (zil bs (ops.toList.map zmY) ops.size (Wy ops.size false)) drop Q K H nx→(Code.region id ops true).wpIn F n P (QQ nt n0 w0 L ι0 H0 B Q) a w
theorem zm5(q:List Nat):∀(k:Nat)(asv:List AOper),(zk0 q k asv).length=asv.length
 | _,[]=>rfl
 | k,o::r=>by simp[zk0,zm5 q (k+1) r]
theorem zqh(q:List Nat):∀(k:Nat)(asv:List AOper)(i:Nat)(b:AOper),(zk0 q k asv)[i]? = some b→∃a,asv[i]? = some a∧(b=a∨b=a.quiet)
 | _,[],i,b,h=>by simp[zk0] at h
 |
  k,o::r,0,b,h=>by
  simp only[zk0,List.getElem?_cons_zero,We] at h;refine⟨o,rfl,?_⟩
  cases hm:memN q k<;>rw[hm] at h
  · exact .inl h.symm
  · exact .inr h.symm
 |
  k,o::r,i+1,b,h=>by
  simp only[zk0,WC] at h
  simpa using zqh q (k+1) r i b h
noncomputable def zni(G:Nat→Act→World→Prop)(a:Act)(w:World):Nat:=open Classical in if h:∃n,G n a w∧∀m,G m a w→n≤m then Classical.choose h else 0
theorem zC6{p:Nat→Prop}(h:∃n,p n):∃n,p n∧∀m,p m→n≤m:=by
 obtain⟨n,hn⟩:=h
 induction n using Nat.strongRecOn with
 |
  _ n ih =>
  by_cases hs:∃m,m < n∧p m
  · obtain⟨m,h1,h2⟩:=hs;exact ih m h1 h2
  · exact⟨n,hn,fun m hm=>by
    rcases Nat.lt_or_ge m n with h|h
    · exact absurd ⟨m,h,hm⟩ hs
    · exact h⟩
theorem zpg{G:Nat→Act→World→Prop}{a:Act}{w:World}(h:∃n,G n a w):G (zni G a w) a w∧∀m,G m a w→zni G a w≤m:=by
 have hex:=zC6 h
 have e:zni G a w=Classical.choose hex:=by unfold zni;rw[dif_pos hex]
 rw[e];exact Classical.choose_spec hex
theorem ztz{G:Nat→Act→World→Prop}{a:Act}{w:World}(h:∃n,G n a w):G (zni G a w) a w:=(zpg h).1
theorem zx5{G:Nat→Act→World→Prop}{a:Act}{w:World}{n:Nat}(h:G n a w):zni G a w≤n:=(zpg ⟨n,h⟩).2 n h
theorem zwb{a x:ACode}(h:zvT a=some (.scope x)):a=x:=by
 unfold zvT at h;split at h
 · cases h;rfl
 · split at h<;>cases h
theorem zyD{a x y:ACode}{l:Nat}(h:zvT a=some (.jump l x y)):a=x∧zpH a l=some y:=by
 unfold zvT at h;split at h
 · cases h
 ·
  split at h
  · rename_i hf;cases h;exact⟨rfl,hf⟩
  · cases h
theorem zaz{a x:ACode}(h:zvT a=some x):match x with | .scope _=>True | .jump _ _ _=>True|_=>False:=by
 unfold zvT at h;split at h
 · cases h;trivial
 ·
  split at h<;>cases h
  trivial
theorem zrF{q:Nat→List Nat}:∀{c:Code}{x:ACode}{l:Nat}{rest:Code},comp P nt q c=some x→findLabel c l=some rest→∃y,zpH x l=some y:=by
 intro c
 induction c with
 |
  seq a b iha ihb =>
  intro x l rest hc hf;simp only[comp,Wc,Wa,We] at hc;obtain⟨x',hx,y',hy,rfl⟩:=hc;simp only[findLabel] at hf;simp only[zpH];split at hf
  · rename_i r hr;obtain⟨y,h1⟩:=iha hx hr;exact⟨_,by rw[h1]⟩
  ·
   obtain⟨y,h1⟩:=ihb hy hf
   cases h2:zpH x' l with
   | none=>exact⟨y,h1⟩
   | some r=>exact⟨_,rfl⟩
 |
  label l' =>
  intro x l rest hc hf;simp only[comp,We] at hc;subst hc;simp only[findLabel] at hf;split at hf
  ·
   rename_i h
   have:l'=l:=by simpa using h
   subst this;exact⟨.skip,by simp[zpH]⟩
  · cases hf
 | _=>intro x l rest hc hf;cases hf
theorem zyn{q:Nat→List Nat}:∀{c:Code}{x y:ACode}{l:Nat},comp P nt q c=some x→zpH x l=some y→∃rest,findLabel c l=some rest∧comp P nt q rest=some y:=by
 intro c
 induction c with
 |
  seq a b iha ihb =>
  intro x y l hc hf;simp only[comp,Wc,Wa,We] at hc;obtain⟨x',hx,y',hy,rfl⟩:=hc;simp only[zpH] at hf;split at hf
  · rename_i r hr;cases hf;obtain⟨rest,h1,h2⟩:=iha hx hr;exact⟨.seq rest b,by simp[findLabel,h1],by simp[comp,h2,hy]⟩
  ·
   rename_i hr;obtain⟨rest,h1,h2⟩:=ihb hy hf;refine⟨rest,?_,h2⟩
   have hno:findLabel a l=none:=by
    cases hfa:findLabel a l with
    | none=>rfl
    |
     some rest' =>
     obtain⟨y2,h3⟩:=zrF hx hfa;rw[hr] at h3;cases h3
   simp[findLabel,hno,h1]
 |
  label l' =>
  intro x y l hc hf;simp only[comp,We] at hc;subst hc;simp only[zpH] at hf
  cases hb:Nat.beq l' l with
  |
   true =>
   rw[hb] at hf;cases hf;exact⟨.skip,by simp[findLabel,zF hb],rfl⟩
  | false=>rw[hb] at hf;cases hf
 |
  rangeFunc g0 ps0 cA cB =>
  intro x y l hc hf;exfalso;simp only[comp] at hc;split at hc
  · simp only[Wc,Wa,We] at hc;obtain⟨_,_,_,_,_,_,rfl⟩:=hc;simp[zpH] at hf
  · cases hc
 |
  _ =>
  intro x y l hc hf;exfalso;simp only[comp] at hc
  first
  | (cases hc;cases hf;done)
  | (
    obtain⟨x',hx,he⟩:=Wa.1 hc;have:=zaz he
    cases x<;>first | (cases hf;done)|exact this)
  | (
    simp only[Wc,Wa,We] at hc;obtain⟨_,_,rfl⟩:=hc
    cases hf)
  | (
    simp only[Wc,Wa,We] at hc;obtain⟨_,_,_,_,_,_,rfl⟩:=hc
    cases hf)
  | ((repeat' split at hc)<;>first | (cases hc;done) | (simp at hc;(repeat' split at hc)<;>first | (cases hc;cases hf;done) | (cases hc;done)|skip))
theorem qq_in(nt n0:Nat)(w0:World)(L:Nat→Prop)(ι0:Inj)(H0:AH)(B:Nat)(Q:QT):¬LetsOut (QQ nt n0 w0 L ι0 H0 B Q):=fun⟨_,_,_,_,_,_,_,h⟩=>h
theorem awp_in(hdraw:zqE P){q:Nat→List Nat}:∀(ac:ACode),zzi P q nt ac:=by
 intro ac
 induction ac with
 |
  skip =>
  intro F n hF n0 w0 L ι0 H0 B base hn0 c hc hw Q w ι K H nx a hin h
  cases c<;>simp only[comp,ACode.strip] at hc<;>first|exact wpIn_skip ⟨ι,K,H,nx,hin,h⟩ | (cases hc;done) | (obtain⟨x',hx,he⟩:=Wa.1 hc;exact(zaz he).elim) | ((repeat' split at hc)<;>simp[Wa] at hc;done)
 |
  region asv drop =>
  intro F n hF n0 w0 L ι0 H0 B base hn0 c hc hw Q w ι K H nx a hin h
  cases c with
  |
   region id ops draw =>
   simp only[comp,ACode.strip] at hc;split at hc
   ·
    rename_i as' hm
    cases draw with
    | true=>simp at hc
    |
     false =>
     simp at hc;subst hc;obtain⟨h1,h2⟩:=ztb hm;refine wpIn_region_list (zvo hF (qq_in nt n0 w0 L ι0 H0 B Q) _ _ _ (fun o ho=>hw.imp_right fun hn=>zw4 hn ho) (zsc _ _ (by simpa using h1) (fun i o ao h3 h4=>?_) hin h));rw[WF] at h4;obtain⟨b,h5,rfl⟩:=Wi.1 h4;exact(h2 i o b h3 h5).ro
   · cases hc
  |
   scope c1 =>
   exfalso;simp only[comp,ACode.strip,Wa] at hc;obtain⟨x',hx,he⟩:=hc;exact(zaz he).elim
  | rangeFunc g0 ps0 cA cB=>simp only[comp,ACode.strip] at hc;split at hc<;>simp[Wa] at hc
  | _=>simp[comp,ACode.strip,Wa] at hc
 |
  draw t drop =>
  intro F n hF n0 w0 L ι0 H0 B base hn0 c hc hw Q w ι K H nx a hin h
  cases c with
  |
   region id ops draw =>
   simp only[comp,ACode.strip] at hc;split at hc
   ·
    rename_i as' hm
    cases draw with
    | false=>simp at hc
    |
     true =>
     simp only[if_true] at hc;split at hc
     ·
      rename_i hg;simp only[Wg] at hg;cases hc;obtain⟨h1,h2⟩:=ztb hm;refine hdraw F n hF nt n0 w0 L ι0 H0 B id ops ((zk0 (q id) 0 as').map (AOper.ro (q 999999))) drop Q (by rw[List.length_map,zm5,h1];simp) (fun i o ao h3 h4=>?_) hg.1 hg.2 (hw.imp_right fun hn i o ho=>zw4 hn (Wk ho)) w ι K H nx a hin h;rw[WF] at h4;obtain⟨b0,h40,rfl⟩:=Wi.1 h4;obtain⟨b,h5,h6⟩:=zqh _ _ _ _ _ h40
      rcases h6 with rfl|rfl
      · exact(h2 i o _ h3 h5).ro
      · exact(h2 i o _ h3 h5).quiet.ro
     · cases hc
   · cases hc
  |
   scope c1 =>
   exfalso;simp only[comp,ACode.strip,Wa] at hc;obtain⟨x',hx,he⟩:=hc;exact(zaz he).elim
  | rangeFunc g0 ps0 cA cB=>simp only[comp,ACode.strip] at hc;split at hc<;>simp[Wa] at hc
  | _=>simp[comp,ACode.strip,Wa] at hc
 |
  seq x y ihx ihy =>
  intro F n hF n0 w0 L ι0 H0 B base hn0 c hc hw Q w ι K H nx a hin h
  cases c with
  |
   seq c1 c2 =>
   simp only[comp,ACode.strip,Wc,Wa,We] at hc;obtain⟨x',hx,y',hy,he⟩:=hc;cases he;refine wpIn_seq (wpIn_mono (ihx hF base hn0 c1 hx (hw.imp_right fun hn=>(by simp only[ziR,Wg] at hn;exact hn.1)) _ w ι K H nx a hin h) fun e a' w' ⟨ι',K',H',nx',hin',hq⟩=>?_)
   cases e with
   | normal=>exact ihy hF base hn0 c2 hy (hw.imp_right fun hn=>(by simp only[ziR,Wg] at hn;exact hn.2)) Q w' ι' K' H' nx' a' hin' hq
   | exit id=>exact⟨ι',K',H',nx',hin',hq⟩
   | ret=>exact⟨ι',K',H',nx',hin',hq⟩
   | goto l=>exact⟨ι',K',H',nx',hin',hq⟩
   | _=>exact hq.elim
  |
   scope c1 =>
   exfalso;simp only[comp,ACode.strip,Wa] at hc;obtain⟨x',hx,he⟩:=hc;exact(zaz he).elim
  | region id ops draw=>simp only[comp,ACode.strip] at hc;(repeat' split at hc)<;>simp at hc
  | rangeFunc g0 ps0 cA cB=>simp only[comp,ACode.strip] at hc;split at hc<;>simp[Wa] at hc
  | _=>simp[comp,ACode.strip,Wa] at hc
 |
  join x y ihx ihy =>
  intro F n hF n0 w0 L ι0 H0 B base hn0 c hc hw Q w ι K H nx a hin h
  cases c with
  |
   seq c1 c2 =>
   simp only[comp,ACode.strip,Wc,Wa,We] at hc;obtain⟨x',hx,y',hy,he⟩:=hc;cases he;obtain⟨α,S,N,inv,h1,h2⟩:=h;refine wpIn_seq (wpIn_mono (ihx hF base hn0 c1 hx (hw.imp_right fun hn=>(by simp only[ziR,Wg] at hn;exact hn.1)) _ w ι K H nx a hin h1) fun e a' w' ⟨ι',K',H',nx',hin',hq⟩=>?_)
   cases e with
   |
    normal =>
    obtain⟨s,hs,he⟩:=hq;obtain⟨ι2,hin2⟩:=hin'.entI base he;exact ihy hF base hn0 c2 hy (hw.imp_right fun hn=>(by simp only[ziR,Wg] at hn;exact hn.2)) Q w' ι2 (S s).1 (S s).2 N a' hin2 (h2 s hs hin2.wfK)
   | exit id=>exact⟨ι',K',H',nx',hin',hq⟩
   | ret=>exact⟨ι',K',H',nx',hin',hq⟩
   | goto l=>exact⟨ι',K',H',nx',hin',hq⟩
   | _=>exact hq.elim
  |
   scope c1 =>
   exfalso;simp only[comp,ACode.strip,Wa] at hc;obtain⟨x',hx,he⟩:=hc;exact(zaz he).elim
  | region id ops draw=>simp only[comp,ACode.strip] at hc;(repeat' split at hc)<;>simp at hc
  | rangeFunc g0 ps0 cA cB=>simp only[comp,ACode.strip] at hc;split at hc<;>simp[Wa] at hc
  | _=>simp[comp,ACode.strip,Wa] at hc
 |
  cond x y z ihy ihz =>
  intro F n hF n0 w0 L ι0 H0 B base hn0 c hc hw Q w ι K H nx a hin h
  cases c with
  |
   cond x1 c1 c2 =>
   simp only[comp,ACode.strip,Wc,Wa,We] at hc;obtain⟨x',hx,y',hy,z',hz,he⟩:=hc;cases he;have hv:=zp hin.kn hx;simp only[awp] at h
   cases hev:ev K.get x with
   |
    bool t =>
    rw[hev] at h hv;simp only at h;generalize hu:a.eval x1=u at hv;cases hv
    cases t with
    | true=>exact wpIn_cond_true hu (ihy hF base hn0 c1 hy (hw.imp_right fun hn=>(by simp only[ziR,Wg] at hn;exact hn.1)) Q w ι K H nx a hin (h.1 rfl))
    | false=>exact wpIn_cond_false hu (ihz hF base hn0 c2 hz (hw.imp_right fun hn=>(by simp only[ziR,Wg] at hn;exact hn.2)) Q w ι K H nx a hin (h.2 rfl))
   | _=>rw[hev] at h;exact h.elim
  |
   scope c1 =>
   exfalso;simp only[comp,ACode.strip,Wa] at hc;obtain⟨x',hx,he⟩:=hc;exact(zaz he).elim
  | region id ops draw=>simp only[comp,ACode.strip] at hc;(repeat' split at hc)<;>simp at hc
  | rangeFunc g0 ps0 cA cB=>simp only[comp,ACode.strip] at hc;split at hc<;>simp[Wa] at hc
  | _=>simp[comp,ACode.strip,Wa] at hc
 |
  block id x ih =>
  intro F n hF n0 w0 L ι0 H0 B base hn0 c hc hw Q w ι K H nx a hin h
  cases c with
  |
   block id' c1 =>
   simp only[comp,ACode.strip,Wc,Wa,We] at hc;obtain⟨x',hx,he⟩:=hc;cases he;refine wpIn_block (wpIn_mono (ih hF base hn0 c1 hx (hw.imp_right fun hn=>(by simpa only[ziR] using hn)) _ w ι K H nx a hin h) fun e a' w' ⟨ι',K',H',nx',hin',hq⟩=>?_)
   cases e with
   | normal=>exact⟨ι',K',H',nx',hin',hq⟩
   |
    exit j =>
    simp only[Exit.inBlock];simp only at hq
    by_cases hj:j=id
    · subst hj;rw[if_pos rfl];rw[zep] at hq;exact⟨ι',K',H',nx',hin',hq⟩
    · rw[if_neg hj];rw[zeL hj] at hq;exact⟨ι',K',H',nx',hin',hq⟩
   | ret=>exact⟨ι',K',H',nx',hin',hq⟩
   | goto l=>exact⟨ι',K',H',nx',hin',hq⟩
   | _=>exact hq.elim
  |
   scope c1 =>
   exfalso;simp only[comp,ACode.strip,Wa] at hc;obtain⟨x',hx,he⟩:=hc;exact(zaz he).elim
  | region id ops draw=>simp only[comp,ACode.strip] at hc;(repeat' split at hc)<;>simp at hc
  | rangeFunc g0 ps0 cA cB=>simp only[comp,ACode.strip] at hc;split at hc<;>simp[Wa] at hc
  | _=>simp[comp,ACode.strip,Wa] at hc
 |
  loop x ih =>
  intro F n hF n0 w0 L ι0 H0 B base hn0 c hc hw Q w ι K H nx a hin h
  cases c with
  |
   loop c1 =>
   simp only[comp,ACode.strip,Wc,Wa,We] at hc;obtain⟨x',hx,he⟩:=hc;cases he;obtain⟨α,S,N,inv,μ,⟨s0,hs0,he0⟩,hround⟩:=h;obtain⟨ι1,hin1⟩:=hin.entI base he0;refine wpIn_loop_ghost (fun n a w=>∃s ι,inv s∧μ s=n∧In nt n0 w0 L ι0 H0 B w ι (Kn.get (S s).1) (S s).2 N a) (μ s0) ⟨s0,ι1,hs0,rfl,hin1⟩ ?_;rintro n a' w' ⟨s,ι',hs,rfl,hin'⟩
   refine wpIn_mono (ih hF base hn0 c1 hx (hw.imp_right fun hn=>(by simpa only[ziR] using hn)) _ w' ι' (S s).1 (S s).2 N a' hin' (hround s hs hin'.wfK)) fun e a2 w2 ⟨ι2,K2,H2,nx2,hin2,hq⟩=>?_
   cases e with
   |
    normal =>
    obtain⟨s',hs',hlt,he⟩:=hq;obtain⟨ι3,hin3⟩:=hin2.entI base he;exact⟨_,hlt,s',ι3,hs',rfl,hin3⟩
   | exit id=>exact⟨ι2,K2,H2,nx2,hin2,hq⟩
   | ret=>exact⟨ι2,K2,H2,nx2,hin2,hq⟩
   | goto l=>exact⟨ι2,K2,H2,nx2,hin2,hq⟩
   | _=>exact hq.elim
  |
   scope c1 =>
   exfalso;simp only[comp,ACode.strip,Wa] at hc;obtain⟨x',hx,he⟩:=hc;exact(zaz he).elim
  | region id ops draw=>simp only[comp,ACode.strip] at hc;(repeat' split at hc)<;>simp at hc
  | rangeFunc g0 ps0 cA cB=>simp only[comp,ACode.strip] at hc;split at hc<;>simp[Wa] at hc
  | _=>simp[comp,ACode.strip,Wa] at hc
 |
  exit id =>
  intro F n hF n0 w0 L ι0 H0 B base hn0 c hc hw Q w ι K H nx a hin h
  cases c with
  |
   exit id' =>
   simp only[comp,ACode.strip,We] at hc;cases hc;exact wpIn_exit ⟨ι,K,H,nx,hin,h⟩
  |
   scope c1 =>
   exfalso;simp only[comp,ACode.strip,Wa] at hc;obtain⟨x',hx,he⟩:=hc;exact(zaz he).elim
  | region id ops draw=>simp only[comp,ACode.strip] at hc;(repeat' split at hc)<;>simp at hc
  | rangeFunc g0 ps0 cA cB=>simp only[comp,ACode.strip] at hc;split at hc<;>simp[Wa] at hc
  | _=>simp[comp,ACode.strip,Wa] at hc
 |
  ret =>
  intro F n hF n0 w0 L ι0 H0 B base hn0 c hc hw Q w ι K H nx a hin h
  cases c with
  | ret=>exact wpIn_ret ⟨ι,K,H,nx,hin,h⟩
  |
   scope c1 =>
   exfalso;simp only[comp,ACode.strip,Wa] at hc;obtain⟨x',hx,he⟩:=hc;exact(zaz he).elim
  | region id ops draw=>simp only[comp,ACode.strip] at hc;(repeat' split at hc)<;>simp at hc
  | rangeFunc g0 ps0 cA cB=>simp only[comp,ACode.strip] at hc;split at hc<;>simp[Wa] at hc
  | _=>simp[comp,ACode.strip,Wa] at hc
 |
  label l =>
  intro F n hF n0 w0 L ι0 H0 B base hn0 c hc hw Q w ι K H nx a hin h
  cases c with
  | label l'=>exact wpIn_label ⟨ι,K,H,nx,hin,h⟩
  |
   scope c1 =>
   exfalso;simp only[comp,ACode.strip,Wa] at hc;obtain⟨x',hx,he⟩:=hc;exact(zaz he).elim
  | region id ops draw=>simp only[comp,ACode.strip] at hc;(repeat' split at hc)<;>simp at hc
  | rangeFunc g0 ps0 cA cB=>simp only[comp,ACode.strip] at hc;split at hc<;>simp[Wa] at hc
  | _=>simp[comp,ACode.strip,Wa] at hc
 |
  goto l =>
  intro F n hF n0 w0 L ι0 H0 B base hn0 c hc hw Q w ι K H nx a hin h
  cases c with
  |
   goto l' =>
   simp only[comp,ACode.strip,We] at hc;cases hc;exact wpIn_goto ⟨ι,K,H,nx,hin,h⟩
  |
   scope c1 =>
   exfalso;simp only[comp,ACode.strip,Wa] at hc;obtain⟨x',hx,he⟩:=hc;exact(zaz he).elim
  | region id ops draw=>simp only[comp,ACode.strip] at hc;(repeat' split at hc)<;>simp at hc
  | rangeFunc g0 ps0 cA cB=>simp only[comp,ACode.strip] at hc;split at hc<;>simp[Wa] at hc
  | _=>simp[comp,ACode.strip,Wa] at hc
 |
  scope x ih =>
  intro F n hF n0 w0 L ι0 H0 B base hn0 c hc hw Q w ι K H nx a hin h
  cases c with
  |
   scope c1 =>
   simp only[comp,ACode.strip,Wa] at hc;obtain⟨x',hx,he⟩:=hc;have hx':=zwb he;subst hx';obtain rfl:F=Fence.wide:=hw.resolve_right (fun hn=>by cases hn);refine wpIn_wide.2 (wp_scope_straight (wp_mono (wpIn_wide.1 (ih (n:=0) hF base hn0 c1 hx (.inl rfl) (noGQ Q) w ι K H nx a hin h)) fun e a' w' ⟨ι',K',H',nx',hin',hq⟩=>?_))
   cases e with
   | normal=>exact⟨ι',K',H',nx',hin',hq⟩
   | exit id=>exact⟨ι',K',H',nx',hin',hq⟩
   | ret=>exact⟨ι',K',H',nx',hin',hq⟩
   | _=>exact hq.elim
  | region id ops draw=>simp only[comp,ACode.strip] at hc;(repeat' split at hc)<;>simp at hc
  | rangeFunc g0 ps0 cA cB=>simp only[comp,ACode.strip] at hc;split at hc<;>simp[Wa] at hc
  | _=>simp[comp,ACode.strip,Wa] at hc
 |
  jump l x y ihx ihy =>
  intro F n hF n0 w0 L ι0 H0 B base hn0 c hc hw Q w ι K H nx a hin h
  cases c with
  |
   scope c1 =>
   simp only[comp,ACode.strip,Wa] at hc;obtain⟨x',hx,he⟩:=hc;obtain⟨rfl,hf⟩:=zyD he;obtain⟨rest,hrest,hcr⟩:=zyn hx hf;obtain⟨α,S,N,inv,μ,h1,h2⟩:=h;obtain rfl:F=Fence.wide:=hw.resolve_right (fun hn=>by cases hn)
   let G:Nat→Act→World→Prop:=fun n a w=>∃s ι,inv s∧μ s=n∧In nt n0 w0 L ι0 H0 B w ι (Kn.get (S s).1) (S s).2 N a
   refine wpIn_wide.2 (wp_scope_jumps l (fun a w=>∃n,G n a w) (zni G) hrest ?_ ?_)
   ·
    refine wp_mono (wpIn_wide.1 (ihx (n:=0) hF base hn0 c1 hx (.inl rfl) _ w ι K H nx a hin h1)) fun e a' w' ⟨ι',K',H',nx',hin',hq⟩=>?_
    cases e with
    | normal=>exact⟨ι',K',H',nx',hin',hq⟩
    | exit id=>exact⟨ι',K',H',nx',hin',hq⟩
    | ret=>exact⟨ι',K',H',nx',hin',hq⟩
    |
     goto l' =>
     obtain⟨rfl,s,hs,he⟩:=hq;obtain⟨ι2,hin2⟩:=hin'.entI base he;exact⟨rfl,_,s,ι2,hs,rfl,hin2⟩
    | _=>exact hq.elim
   ·
    intro a' w' hJ;obtain⟨s,ι',hs,hμ,hin'⟩:=ztz hJ
    refine wp_mono (wpIn_wide.1 (ihy (n:=0) hF base hn0 rest hcr (.inl rfl) _ w' ι' (S s).1 (S s).2 N a' hin' (h2 s hs hin'.wfK))) fun e a2 w2 ⟨ι2,K2,H2,nx2,hin2,hq⟩=>?_
    cases e with
    | normal=>exact⟨ι2,K2,H2,nx2,hin2,hq⟩
    | exit id=>exact⟨ι2,K2,H2,nx2,hin2,hq⟩
    | ret=>exact⟨ι2,K2,H2,nx2,hin2,hq⟩
    |
     goto l' =>
     obtain⟨rfl,s',hs',hlt,he⟩:=hq;obtain⟨ι3,hin3⟩:=hin2.entI base he;have hg:G (μ s') a2 w2:=⟨s',ι3,hs',rfl,hin3⟩;exact⟨rfl,⟨_,hg⟩,by rw[←hμ];exact Nat.lt_of_le_of_lt (zx5 hg) hlt⟩
    | _=>exact hq.elim
  | region id ops draw=>simp only[comp,ACode.strip] at hc;(repeat' split at hc)<;>simp at hc
  | rangeFunc g0 ps0 cA cB=>simp only[comp,ACode.strip] at hc;split at hc<;>simp[Wa] at hc
  | _=>simp[comp,ACode.strip,Wa] at hc
 |
  range g ps x y ihx ihy =>
  intro F n hF n0 w0 L ι0 H0 B base hn0 c hc hw Q w ι K H nx a hin h
  cases c with
  |
   rangeFunc g0 ps0 cA cB =>
   simp only[comp,ACode.strip] at hc;split at hc
   · rename_i hcond;simp only[Wg,Ww] at hcond;simp only[Wc,Wa,We] at hc;obtain⟨g',hg,x',hx,y',hy,he⟩:=hc;cases he;obtain rfl:F=Fence.wide:=hw.resolve_right (fun hn=>by cases hn);exact zDA ihx ihy base hn0 hg rfl (fun t ht=>by simpa using hcond.2 t ht) hx hy hcond.1.1 hcond.1.2 hin h
   · cases hc
  |
   scope c1 =>
   exfalso;simp only[comp,ACode.strip,Wa] at hc;obtain⟨x',hx,he⟩:=hc;exact(zaz he).elim
  | region id ops draw=>simp only[comp,ACode.strip] at hc;(repeat' split at hc)<;>simp at hc
  | _=>simp[comp,ACode.strip,Wa] at hc
 |
  mark n x ih =>
  intro F n hF n0 w0 L ι0 H0 B base hn0 c hc hw Q w ι K H nx a hin h;obtain⟨K2,H2,nx2,he,h2⟩:=h hin.wfK;obtain⟨ι2,hin2⟩:=hin.entI base he;exact ih hF base hn0 c hc hw Q w ι2 K2 H2 nx2 a hin2 h2
theorem ztQ (hdraw:zqE P) (base:RelH w0 L ι0 H0 B) (hn0:n0≤w0.heap.size) {q:Nat→List Nat} (ac:ACode) (c:Code) (hc:comp P nt q c=some ac.strip) (Q:QT) (w:World) (ι:Inj) (K:Kn) (H:AH) (nx:Nat) (a:Act)
  (hin:In nt n0 w0 L ι0 H0 B w ι K.get H nx a) (h:awp P B ac Q K H nx):c.wp P (QQ nt n0 w0 L ι0 H0 B Q) a w :=
 wpIn_wide.1 (awp_in hdraw ac (n:=0) (.inl rfl) base.idx hn0 c hc (.inl rfl) Q w ι K H nx a hin h)
end
section
variable {P:Program}
def opA(P:Program)(bs:List AOper)(i:Nat)(ρ:Nat→AV)(H:AH)(nx:Nat)(k:(Nat→AV)→AH→Nat→Prop):Prop :=
 ExF P false (bs.getD i default) ρ H nx k
def anyA(P:Program)(bs:List AOper)(deps:List (List Nat))(Q:(Nat→AV)→AH→Nat→Prop):Nat→List Bool→(Nat→AV)→AH→Nat→Prop
 | 0,listed,ρ,H,nx=>(∀i,i < bs.length→zde deps listed i=false)∧Q ρ H nx
 |
  fuel+1,listed,ρ,H,nx=>((∀i,i < bs.length→zde deps listed i=false)→Q ρ H nx) ∧
  ∀i,i < bs.length→zde deps listed i=true→opA P bs i ρ H nx (anyA P bs deps Q fuel (listed.set i true))
theorem zDo{fx:Bool}{o:AOper}{ρ:Nat→AV}{H:AH}{nx:Nat}{k k':(Nat→AV)→AH→Nat→Prop}(hk:∀ρ H nx,k ρ H nx→k' ρ H nx)(h:ExF P fx o ρ H nx k):ExF P fx o ρ H nx k':=by
 unfold ExF at *
 cases hg:o.guard with
 | none=>rw[hg] at h;exact zc9 (fun v H nx h=>hk _ _ _ h) h
 |
  some p =>
  obtain⟨t,want⟩:=p;rw[hg] at h;simp only at h ⊢
  cases hv:grd want (ρ t) with
  | some b=>rw[hv] at h;exact⟨fun e=>zc9 (fun v H nx h=>hk _ _ _ h) (h.1 e),fun e=>hk _ _ _ (h.2 e)⟩
  | none=>rw[hv] at h;exact h
theorem za1:∀(l:List Nat)(i:Nat),memN l i=true↔i∈l
 | [],i=>by simp[memN]
 |
  j::t,i=>by
  simp only[memN]
  cases h:Nat.beq j i with
  | true=>simp[zF h]
  |
   false =>
   have:¬j=i:=fun e=>by rw[e,zep] at h;cases h
   simp[za1 t i,Ne.symm this,eq_comm]
theorem zox{l:List Nat}{i:Nat}(h:memN l i=false):i∉l:=fun hm=>by rw[(za1 l i).2 hm] at h;cases h
theorem zW{ρ ρ':Nat→AV}{x:AOpd}(h:∀t∈x.tmps,ρ t=ρ' t):ev ρ x=ev ρ' x:=by
 cases x with
 | t n=>exact h n (by simp[AOpd.tmps])
 | c v=>rfl
theorem ziL{ρ ρ':Nat→AV}:∀{xs:List AOpd},(∀t∈xs.flatMap (·.tmps),ρ t=ρ' t)→evs ρ xs=evs ρ' xs
 | [],_=>rfl
 |
  x::xs,h=>by
  simp only[evs]
  rw[zW (fun t ht=>h t (by simp[ht])),ziL (fun t ht=>h t (by
   simp only[WG,Wt]
   exact .inr ht))]
theorem zoa{ρ ρ':Nat→AV}:∀ {xs:List (Nat × Nat × AOpd)},(∀t∈xs.flatMap (·.2.2.tmps),ρ t=ρ' t)→ze7 ρ xs=ze7 ρ' xs
 | [],_=>rfl
 |
  (a,b,x)::xs,h=>by
  simp only[ze7]
  rw[zW (fun t ht=>h t (by simp[ht])),zoa (fun t ht=>h t (by
   simp only[WG,Wt]
   exact .inr ht))]
theorem znC{ρ ρ':Nat→AV}:∀ {xs:List (Nat × AOpd)},(∀t∈xs.flatMap (·.2.tmps),ρ t=ρ' t)→zkh ρ xs=zkh ρ' xs
 | [],_=>rfl
 |
  (a,x)::xs,h=>by
  simp only[zkh]
  rw[zW (fun t ht=>h t (by simp[ht])),znC (fun t ht=>h t (by
   simp only[WG,Wt]
   exact .inr ht))]
theorem zuT{ρ ρ':Nat→AV}{H:AH}{nx:Nat}{o:AOp}(h:∀t∈o.tmps,ρ t=ρ' t):aop o ρ H nx=aop o ρ' H nx:=by
 cases o with
 |
  slice sz x lo hi =>
  simp only[aop];rw[zW (x:=x) (fun t ht=>h t (by simp[AOp.tmps,ht]))]
  have h1:evO ρ lo=evO ρ' lo:=by
   cases lo with
   | none=>rfl
   | some y=>simp only[evO];rw[zW (x:=y) (fun t ht=>h t (by simp[AOp.tmps,ht]))]
  have h2:evO ρ hi=evO ρ' hi:=by
   cases hi with
   | none=>rfl
   | some y=>simp only[evO];rw[zW (x:=y) (fun t ht=>h t (by simp[AOp.tmps,ht]))]
  rw[h1,h2]
 | build z ps=>simp only[aop];rw[zoa (fun t ht=>h t ht)]
 | buildSl sz len z ps=>simp only[aop];rw[znC (fun t ht=>h t ht)]
 | rbuildSl sz len z ps=>simp only[aop];rw[znC (fun t ht=>h t ht)]
 | mkfn f cs=>simp only[aop];rw[ziL (fun t ht=>h t ht)]
 |
  pick c x y =>
  simp only[aop];rw[zW (x:=c) (fun t ht=>h t (by simp[AOp.tmps,ht])),zW (x:=x) (fun t ht=>h t (by simp[AOp.tmps,ht])),zW (x:=y) (fun t ht=>h t (by simp[AOp.tmps,ht]))]
 | store n x y=>simp only[aop];rw[zW (x:=x) (fun t ht=>h t (by simp[AOp.tmps,ht])),zW (x:=y) (fun t ht=>h t (by simp[AOp.tmps,ht]))]
 | idx n x y=>simp only[aop];rw[zW (x:=x) (fun t ht=>h t (by simp[AOp.tmps,ht])),zW (x:=y) (fun t ht=>h t (by simp[AOp.tmps,ht]))]
 | bin op x y=>simp only[aop];rw[zW (x:=x) (fun t ht=>h t (by simp[AOp.tmps,ht])),zW (x:=y) (fun t ht=>h t (by simp[AOp.tmps,ht]))]
 | eqb n x y=>simp only[aop];rw[zW (x:=x) (fun t ht=>h t (by simp[AOp.tmps,ht])),zW (x:=y) (fun t ht=>h t (by simp[AOp.tmps,ht]))]
 | mksl a b z x y=>simp only[aop];rw[zW (x:=x) (fun t ht=>h t (by simp[AOp.tmps,ht])),zW (x:=y) (fun t ht=>h t (by simp[AOp.tmps,ht]))]
 | append a b x y=>simp only[aop];rw[zW (x:=x) (fun t ht=>h t (by simp[AOp.tmps,ht])),zW (x:=y) (fun t ht=>h t (by simp[AOp.tmps,ht]))]
 | mov x=>simp only[aop];rw[zW (x:=x) (fun t ht=>h t ht)]
 | load a n x=>simp only[aop];rw[zW (x:=x) (fun t ht=>h t ht)]
 | fldaddr a n x=>simp only[aop];rw[zW (x:=x) (fun t ht=>h t ht)]
 | fld a n b x=>simp only[aop];rw[zW (x:=x) (fun t ht=>h t ht)]
 | len x=>simp only[aop];rw[zW (x:=x) (fun t ht=>h t ht)]
 | slen x=>simp only[aop];rw[zW (x:=x) (fun t ht=>h t ht)]
 | un op x=>simp only[aop];rw[zW (x:=x) (fun t ht=>h t ht)]
 | conv k x=>simp only[aop];rw[zW (x:=x) (fun t ht=>h t ht)]
 | box x=>simp only[aop];rw[zW (x:=x) (fun t ht=>h t ht)]
 | rbox x=>simp only[aop];rw[zW (x:=x) (fun t ht=>h t ht)]
 | cut x=>simp only[aop];rw[zW (x:=x) (fun t ht=>h t ht)]
 | clear a z x=>simp only[aop];rw[zW (x:=x) (fun t ht=>h t ht)]
 | ext i x=>simp only[aop];rw[zW (x:=x) (fun t ht=>h t ht)]
 | xop x xs=>simp only[aop];rw[ziL (fun t ht=>h t ht)]
 | _=>rfl
theorem znh{fx:Bool}{ρ ρ':Nat→AV}{H:AH}{nx:Nat}{o:AOp}{k:AV→AH→Nat→Prop}(h:∀t∈o.tmps,ρ t=ρ' t):zdG P fx o ρ H nx k=zdG P fx o ρ' H nx k:=by
 cases o with
 | call f xs=>simp only[zdG];rw[ziL (fun t ht=>h t ht)]
 | callq f xs=>simp only[zdG];rw[ziL (fun t ht=>h t ht)]
 | isnil n p x=>simp only[zdG];rw[zW (x:=x) (fun t ht=>h t ht)]
 | mnext x=>simp only[zdG];rw[zW (x:=x) (fun t ht=>h t ht)]
 | append2 a b x y=>simp only[zdG];rw[zW (x:=x) (fun t ht=>h t (by simp[AOp.tmps,ht])),zW (x:=y) (fun t ht=>h t (by simp[AOp.tmps,ht]))]
 |
  callv x xs =>
  simp only[zdG]
  rw[zW (x:=x) (fun t ht=>h t (by simp[AOp.tmps,ht])),ziL (xs:=xs) (fun t ht=>h t (by
   simp only[AOp.tmps,Wt]
   exact .inr ht))]
 | _=>simp only[zdG];rw[zuT h]
theorem zAo{x:XOp}{l:List AV}{H:AH}{nx:Nat}(h:x.pure=true):(xopR x l H nx).H=H∧(xopR x l H nx).nx=nx:=by
 cases x<;>first | (cases h;done)|skip
 all_goals
  unfold xopR
  split<;>(try unfold zwT)<;>simp only[zq4,zm2,seqR,ztv,b2sR,s2bR,zpQ,minR,eqsR,sl3R,zjV,znz,zpA,zoH,zgQ,ztk,zrq,zlN,zvV,apzR,bad]
 all_goals (repeat' split)<;>first|exact⟨rfl,rfl⟩|exact⟨trivial,trivial⟩ | (exfalso;simp_all;done)
theorem zyi{x:XOp}{l:List AV}{H H':AH}{nx nx':Nat}(h:x.pure=true)(hr:x.reads=false):(xopR x l H nx).v=(xopR x l H' nx').v∧((xopR x l H nx).side→(xopR x l H' nx').side):=by
 cases x<;>first | (cases h;done) | (cases hr;done)|skip
 all_goals rcases l with _ | ⟨a,_ | ⟨b,_ | ⟨c,l⟩⟩⟩<;>first|exact⟨rfl,id⟩|skip
 all_goals simp only[xopR,zm2,seqR,ztv,minR,eqsR,zrq,zlN,zvV,bad]
 all_goals (repeat' split)<;>first|exact⟨rfl,id⟩|exact⟨trivial,id⟩
theorem zwJ{ρ:Nat→AV}{H:AH}{nx:Nat}{o:AOp}(h:o.pure=true):(aop o ρ H nx).H=H∧(aop o ρ H nx).nx=nx:=by
 cases o<;>first | (cases h;done)|exact zAo h|skip
 all_goals simp only[aop,zqk,zpR,zfo,zhu,idxR,zeg,fldR,lenR,zrD,binI,eqB,unR,zqa,zli,zgf,boxR,zrt,zel,zn5,zo4,zhR,cutR,zhn,zj0,extR,bad]
 all_goals (repeat' split)<;>first|exact⟨rfl,rfl⟩|exact⟨trivial,trivial⟩
theorem zzP{ρ:Nat→AV}{H H':AH}{nx nx':Nat}{o:AOp}(h:o.pure=true)(hr:o.reads=false):(aop o ρ H nx).v=(aop o ρ H' nx').v∧((aop o ρ H nx).side→(aop o ρ H' nx').side):=by
 cases o<;>first | (cases h;done) | (cases hr;done)|exact zyi h hr|skip
 all_goals simp only[aop,zqk,zpR,zfo,zhu,idxR,zeg,fldR,lenR,zrD,binI,eqB,unR,zqa,zli,zgf,boxR,zrt,zel,zn5,zo4,zhR,cutR,zhn,zj0,extR,bad]
 all_goals (repeat' split)<;>first|exact⟨rfl,id⟩|exact⟨trivial,id⟩
def Yld(P:Program)(o:AOper)(ρ:Nat→AV)(H:AH)(nx:Nat)(v:AV):Prop :=
 let body:Prop:=(o.op.pure=true∧(aop o.op ρ H nx).side∧v=(aop o.op ρ H nx).v)∨∃f xs,o.op=.callq f xs∧zeZ P f (evs ρ xs) H nx v
 match o.guard with
 | none=>body
 | some (t,want)=>∃b,grd want (ρ t)=some b∧((b=true∧body)∨(b=false∧v=.tup []))
theorem zp6{o:AOper}{ρ:Nat→AV}{H:AH}{nx:Nat}{k:(Nat→AV)→AH→Nat→Prop}(hf:o.fixed=true)(h:ExF P false o ρ H nx k):∃v,Yld P o ρ H nx v∧k (upd ρ o.dst v) H nx:=by
 have key:∀k:AV→AH→Nat→Prop,zdG P false o.op ρ H nx k→∃v,((o.op.pure=true∧(aop o.op ρ H nx).side∧v=(aop o.op ρ H nx).v)∨∃f xs,o.op=.callq f xs∧zeZ P f (evs ρ xs) H nx v)∧k v H nx:=by
  intro k hb;unfold AOper.fixed at hf
  cases hp:o.op.pure with
  |
   true =>
   obtain⟨h1,h2⟩:=zwJ (ρ:=ρ) (H:=H) (nx:=nx) hp
   have hu:znU false (aop o.op ρ H nx) k:=by
    unfold zdG at hb
    cases ho:o.op<;>rw[ho] at hb hp<;>first | (cases hp;done)|exact hb
   refine⟨_,.inl ⟨hp▸rfl,hu.1,rfl⟩,?_⟩;have:=hu.2 trivial
   rwa [h1,h2] at this
  |
   false =>
   rw[hp] at hf;simp only[Bool.false_or] at hf;split at hf
   · rename_i f xs ho;unfold zdG at hb;rw[ho] at hb;obtain⟨v,h1,h2⟩:=hb;exact⟨v,.inr ⟨f,xs,ho,h1⟩,h2⟩
   · cases hf
 unfold ExF at h;unfold Yld
 cases hg:o.guard with
 |
  none =>
  rw[hg] at h;obtain⟨v,h1,h2⟩:=key _ h;exact⟨v,h1,h2⟩
 |
  some p =>
  obtain⟨t,want⟩:=p;rw[hg] at h;simp only at h ⊢
  cases hv:grd want (ρ t) with
  |
   some b =>
   rw[hv] at h;simp only at h
   cases b with
   |
    true =>
    obtain⟨v,h1,h2⟩:=key _ (h.1 rfl);exact⟨v,⟨true,rfl,.inl ⟨rfl,h1⟩⟩,h2⟩
   | false=>exact⟨.tup [],⟨false,rfl,.inr ⟨rfl,rfl⟩⟩,h.2 rfl⟩
  | none=>rw[hv] at h;exact h.elim
theorem znX{o:AOper}{ρ:Nat→AV}{H:AH}{nx:Nat}{v:AV}{k:(Nat→AV)→AH→Nat→Prop}(hy:Yld P o ρ H nx v)(hk:k (upd ρ o.dst v) H nx):ExF P false o ρ H nx k:=by
 have key:((o.op.pure=true∧(aop o.op ρ H nx).side∧v=(aop o.op ρ H nx).v)∨∃f xs,o.op=.callq f xs∧zeZ P f (evs ρ xs) H nx v)→zdG P false o.op ρ H nx (fun v H' nx'=>k (upd ρ o.dst v) H' nx'):=by
  rintro(⟨hp,hs,rfl⟩ | ⟨f,xs,ho,hc⟩)
  ·
   obtain⟨h1,h2⟩:=zwJ (ρ:=ρ) (H:=H) (nx:=nx) hp
   have hu:znU false (aop o.op ρ H nx) (fun v H' nx'=>k (upd ρ o.dst v) H' nx'):=⟨hs,fun _=>by
    rw[h1,h2]
    exact hk⟩
   unfold zdG
   cases ho:o.op<;>rw[ho] at hu hp<;>first | (cases hp;done)|exact hu
  · unfold zdG;rw[ho];exact⟨v,hc,hk⟩
 unfold Yld at hy;unfold ExF
 cases hg:o.guard with
 | none=>rw[hg] at hy;exact key hy
 |
  some p =>
  obtain⟨t,want⟩:=p;rw[hg] at hy;obtain⟨b,hb,hc⟩:=hy;simp only;rw[hb]
  rcases hc with ⟨rfl,h⟩ | ⟨rfl,rfl⟩
  · exact⟨fun _=>key h,fun e=>(by cases e)⟩
  · exact⟨fun e=>(by cases e),fun _=>hk⟩
theorem zBQ{ρ:Nat→AV}{d d':Option Nat}{v u:AV}(h:∀x,d=some x→d'≠some x):upd (upd ρ d v) d' u=upd (upd ρ d' u) d v:=by
 cases d with
 | none=>cases d'<;>rfl
 |
  some x =>
  cases d' with
  | none=>rfl
  |
   some y =>
   have hne:y≠x:=fun e=>h x rfl (by rw[e])
   funext i
   simp only[upd]
   by_cases h1:i=y
   · subst h1;simp[hne]
   · simp[h1]
theorem ztH{ρ:Nat→AV}{d:Option Nat}{v:AV}{t:Nat}(h:d≠some t):upd ρ d v t=ρ t:=by
 cases d with
 | none=>rfl
 |
  some x =>
  have:t≠x:=fun e=>h (by rw[e])
  simp[upd,this]
theorem zxS{x y:AOper}(h:x.apart y=true):
  (∀d,x.dst=some d→d∉y.looks)∧(∀d,x.dst=some d→y.dst≠some d)∧(∀d,y.dst=some d→d∉x.looks)∧(y.fixed=true∨x.sees=false):=by
 unfold AOper.apart at h;simp only[Wg,Bool.or_eq_true,Wl] at h;obtain⟨⟨h1,h2⟩,h3⟩:=h;refine⟨fun d hd=>?_,fun d hd hy=>?_,fun d hd=>?_,h3⟩
 · rw[hd] at h1;simp only[Wg,Wl] at h1;exact zox h1.1
 · rw[hd] at h1;simp only[Wg,Wl] at h1;rw[hy] at h1;simp[zep] at h1
 · rw[hd] at h2;simp only[Wl] at h2;exact zox h2
theorem zn0{o:AOper}{t:Nat}(h:t∈o.op.tmps):t∈o.looks:=by unfold AOper.looks;exact Wt.2 (.inr h)
theorem znc{o:AOper}{t:Nat}{want:Bool}(h:o.guard=some (t,want)):t∈o.looks:=by unfold AOper.looks;rw[h];simp
theorem zqi{o:AOper}{ρ ρ':Nat→AV}{H:AH}{nx:Nat}{v:AV}(hρ:∀t∈o.looks,ρ t=ρ' t)(h:Yld P o ρ H nx v):Yld P o ρ' H nx v:=by
 have e1:aop o.op ρ H nx=aop o.op ρ' H nx:=zuT fun t ht=>hρ t (zn0 ht)
 have e2:∀f xs,o.op=.callq f xs→evs ρ xs=evs ρ' xs:=fun f xs ho=>ziL fun t ht=>hρ t (zn0 (by rw[ho];exact ht))
 have key:((o.op.pure=true∧(aop o.op ρ H nx).side∧v=(aop o.op ρ H nx).v)∨∃f xs,o.op=.callq f xs∧zeZ P f (evs ρ xs) H nx v) →
   ((o.op.pure=true∧(aop o.op ρ' H nx).side∧v=(aop o.op ρ' H nx).v)∨∃f xs,o.op=.callq f xs∧zeZ P f (evs ρ' xs) H nx v):=by
  rintro(h | ⟨f,xs,ho,hc⟩)
  · rw[←e1];exact .inl h
  · exact .inr ⟨f,xs,ho,by rw[←e2 f xs ho];exact hc⟩
 unfold Yld at *
 cases hg:o.guard with
 | none=>rw[hg] at h;exact key h
 |
  some p =>
  obtain⟨t,want⟩:=p;rw[hg] at h;obtain⟨b,hb,hc⟩:=h;exact⟨b,by rw[←hρ t (znc hg)];exact hb,hc.imp (fun⟨h1,h2⟩=>⟨h1,key h2⟩) id⟩
theorem zxA{o:AOper}{ρ:Nat→AV}{H H':AH}{nx nx':Nat}{v:AV}(hs:o.sees=false)(h:Yld P o ρ H nx v):Yld P o ρ H' nx' v:=by
 unfold AOper.sees at hs;simp only[Bool.or_eq_false_iff] at hs
 have key:((o.op.pure=true∧(aop o.op ρ H nx).side∧v=(aop o.op ρ H nx).v)∨∃f xs,o.op=.callq f xs∧zeZ P f (evs ρ xs) H nx v) →
   ((o.op.pure=true∧(aop o.op ρ H' nx').side∧v=(aop o.op ρ H' nx').v)∨∃f xs,o.op=.callq f xs∧zeZ P f (evs ρ xs) H' nx' v):=by
  rintro(⟨h1,h2,h3⟩ | ⟨f,xs,ho,hc⟩)
  · obtain⟨e1,e2⟩:=zzP (ρ:=ρ) (H:=H) (H':=H') (nx:=nx) (nx':=nx') h1 hs.1;exact .inl ⟨h1,e2 h2,by rw[←e1];exact h3⟩
  · have:=hs.2;rw[ho] at this;cases this
 unfold Yld at *
 cases hg:o.guard with
 | none=>rw[hg] at h;exact key h
 |
  some p =>
  obtain⟨t,want⟩:=p;rw[hg] at h;obtain⟨b,hb,hc⟩:=h;exact⟨b,hb,hc.imp (fun⟨h1,h2⟩=>⟨h1,key h2⟩) id⟩
theorem zEI{x y:AOper}{ρ:Nat→AV}{H:AH}{nx:Nat}{v:AV}{k:(Nat→AV)→AH→Nat→Prop}(hap:x.apart y=true)(hy:Yld P x ρ H nx v)(h:ExF P false y (upd ρ x.dst v) H nx k):
  ExF P false y ρ H nx (fun ρ' H' nx'=>Yld P x ρ' H' nx' v∧k (upd ρ' x.dst v) H' nx'):=by
 obtain⟨h1,h2,h3,h4⟩:=zxS hap
 have slots:∀t∈y.looks,upd ρ x.dst v t=ρ t:=fun t ht=>ztH fun e=>h1 t e ht
 have xs:∀u,∀t∈x.looks,ρ t=upd ρ y.dst u t:=fun u t ht=>(ztH fun e=>h3 t e ht).symm
 have stay:∀(u:AV)(H':AH)(nx':Nat),(x.sees=false∨(H'=H∧nx'=nx))→Yld P x (upd ρ y.dst u) H' nx' v:=by
  intro u H' nx' hh
  rcases hh with hh | ⟨rfl,rfl⟩
  · exact zxA hh (zqi (xs u) hy)
  · exact zqi (xs u) hy
 have comm:∀u,upd (upd ρ x.dst v) y.dst u=upd (upd ρ y.dst u) x.dst v:=fun u=>zBQ h2
 rcases h4 with hfix|hblind
 · obtain⟨u,hu,hk⟩:=zp6 hfix h;refine znX (zqi slots hu) ⟨stay u H nx (.inr ⟨rfl,rfl⟩),?_⟩;rw[←comm];exact hk
 ·
  have bodyc:zdG P false y.op (upd ρ x.dst v) H nx (fun u H' nx'=>k (upd (upd ρ x.dst v) y.dst u) H' nx')→zdG P false y.op ρ H nx (fun u H' nx'=>Yld P x (upd ρ y.dst u) H' nx' v∧k (upd (upd ρ y.dst u) x.dst v) H' nx'):=by intro hb;rw[znh (fun t ht=>slots t (zn0 ht))] at hb;exact zc9 (fun u H' nx' hh=>⟨stay u H' nx' (.inl hblind),by rw[←comm];exact hh⟩) hb
  unfold ExF at h ⊢
  cases hg:y.guard with
  | none=>rw[hg] at h;exact bodyc h
  |
   some p =>
   obtain⟨t,want⟩:=p;rw[hg] at h;simp only at h ⊢;rw[slots t (znc hg)] at h
   cases hv:grd want (ρ t) with
   |
    some b =>
    rw[hv] at h;exact⟨fun e=>bodyc (h.1 e),fun e=>⟨stay (.tup []) H nx (.inl hblind),by rw[←comm];exact h.2 e⟩⟩
   | none=>rw[hv] at h;exact h
theorem zkJ{l:List Bool}{i j:Nat}(hi:i < l.length):getB (l.set i true) j=if j=i then true else getB l j:=by
 unfold getB
 by_cases h:j=i
 · subst h;simp[hi]
 · rw[if_neg h];simp[List.getElem?_set,Ne.symm h]
theorem zcT{deps:List (List Nat)}{listed:List Bool}{i:Nat}:zde deps listed i=true↔getB listed i=false∧∀j∈deps.getD i [],getB listed j=true:=by unfold zde;simp only[Wg,Wl,Ww]
theorem zoS{deps:List (List Nat)}{listed:List Bool}{i j:Nat}(hi:i < listed.length)(h:zde deps listed j=true)(hne:j≠i):zde deps (listed.set i true) j=true:=by
 rw[zcT] at *;refine⟨by rw[zkJ hi,if_neg hne];exact h.1,fun k hk=>?_⟩;rw[zkJ hi];split
 · rfl
 · exact h.2 k hk
theorem set_comm(l:List Bool)(i j:Nat):(l.set i true).set j true=(l.set j true).set i true:=by
 by_cases h:i=j
 · subst h;rfl
 · exact List.set_comm _ _ h
theorem zxQ{bs:List AOper}{deps:List (List Nat)}{Q:(Nat→AV)→AH→Nat→Prop}{i:Nat}(hi:i < bs.length){v:AV}:
  ∀(fuel:Nat)(listed:List Bool)(ρ:Nat→AV)(H:AH)(nx:Nat),listed.length=bs.length →
   (∀j,j < bs.length→j≠i→getB listed j=false→i∉deps.getD j []→(bs.getD i default).apart (bs.getD j default)=true) →
   zde deps listed i=true→Yld P (bs.getD i default) ρ H nx v→anyA P bs deps Q fuel (listed.set i true) (upd ρ (bs.getD i default).dst v) H nx→anyA P bs deps Q (fuel+1) listed ρ H nx:=by
 intro fuel
 induction fuel with
 |
  zero =>
  intro listed ρ H nx hl hfree hr hy h;refine⟨fun h0=>(by rw[h0 i hi] at hr;cases hr),fun j hj hrj=>?_⟩
  by_cases hji:j=i
  · subst hji;exact znX hy h
  · have:=h.1 j hj;rw[zoS (by omega) hrj hji] at this;cases this
 |
  succ fuel ih =>
  intro listed ρ H nx hl hfree hr hy h;refine⟨fun h0=>(by rw[h0 i hi] at hr;cases hr),fun j hj hrj=>?_⟩
  by_cases hji:j=i
  · subst hji;exact znX hy h
  ·
   have hil:i < listed.length:=by omega
   have h1:=h.2 j hj (zoS hil hrj hji)
   have hnot:i∉deps.getD j []:=fun hm=>by have:=(zcT.1 hrj).2 i hm;rw[(zcT.1 hr).1] at this;cases this
   have hap:=hfree j hj hji (zcT.1 hrj).1 hnot;have h2:=zEI hap hy h1;refine zDo (fun ρ' H' nx' ⟨hy',hk'⟩=>?_) h2;refine ih (listed.set j true) ρ' H' nx' (by simpa using hl) (fun k hk hki hun hno=>hfree k hk hki ?_ hno) (zoS (by omega) hr (Ne.symm hji)) hy' ?_
   ·
    rw[zkJ (by omega)] at hun;split at hun
    · cases hun
    · exact hun
   · rw[set_comm];exact hk'
def zkg:List Bool→Nat
 | []=>0
 | b::r=>(bif b then 0 else 1)+zkg r
theorem zoD:∀{l:List Bool}{i:Nat},i < l.length→getB l i=false→zkg (l.set i true)+1=zkg l
 | [],i,h,_=>by simp at h
 |
  b::r,0,_,hb=>by
  simp[getB] at hb;subst hb;simp[zkg];omega
 |
  b::r,i+1,h,hb=>by
  have:=zoD (l:=r) (i:=i) (by simpa using h) (by simpa [getB] using hb);simp only[List.set_cons_succ,zkg];omega
theorem znt:∀{l:List Bool},zkg l=0→∀i,i < l.length→getB l i=true
 | [],_,i,h=>by simp at h
 |
  b::r,h,i,hi=>by
  simp only[zkg] at h
  cases b with
  | false=>simp at h
  |
   true =>
   cases i with
   | zero=>rfl
   |
    succ i =>
    have:=znt (l:=r) (by simpa using h) i (by simpa using hi)
    simpa [getB] using this
theorem zt0{drop:List Nat}{Q:QT}:∀ {l:List (AOper × DTree)} {K:Kn} {H:AH} {nx:Nat},awpT P (zDM l) drop Q K H nx→∀p∈l,ExK P false p.1 K H nx (awpT P p.2 drop Q)
 | [],_,_,_,_,p,hp=>by simp at hp
 |
  (o,t)::r,K,H,nx,h,p,hp=>by
  rcases WD.1 hp with rfl|hp
  · exact h.1
  · exact zt0 (l:=r) h.2 p hp
theorem zxz{bs:List AOper}{deps:List (List Nat)}{drop:List Nat}{Q:QT}:∀(fuel:Nat)(listed:List Bool)(K:Kn)(H:AH)(nx:Nat),listed.length=bs.length→zkg listed≤fuel →
  awpT P (zil bs deps fuel listed) drop Q K H nx→anyA P bs deps (fun ρ H nx=>∃K,Kn.get K=ρ∧Q .normal (K.drop drop) H nx) fuel listed K.get H nx
 |
  0,listed,K,H,nx,hl,hc,h=>by
  refine⟨fun i hi=>?_,K,rfl,h⟩;have:=znt (l:=listed) (by omega) i (by omega);unfold zde;rw[this];rfl
 |
  fuel+1,listed,K,H,nx,hl,hc,h=>by
  simp only[zil] at h
  cases hr:(WE bs.length).filter (zde deps listed) with
  |
   nil =>
   rw[hr] at h
   have hnone:∀i,i < bs.length→zde deps listed i=false:=fun i hi=>by
    cases hb:zde deps listed i with
    | false=>rfl
    |
     true =>
     have:i∈(WE bs.length).filter (zde deps listed):=Wp.2 ⟨Wz.2 hi,hb⟩;rw[hr] at this;simp at this
   exact⟨fun _=>⟨K,rfl,h⟩,fun i hi hb=>by rw[hnone i hi] at hb;cases hb⟩
  |
   cons i0 r0 =>
   rw[hr] at h
   have hmem:∀i,i∈i0::r0→i < bs.length∧zde deps listed i=true:=fun i hi=>by rw[←hr] at hi;have:=Wp.1 hi;exact⟨Wz.1 this.1,this.2⟩
   simp only at h
   have next:∀i,i∈i0::r0→∀(K':Kn)(H':AH)(nx':Nat),awpT P (zil bs deps fuel (listed.set i true)) drop Q K' H' nx' →
     anyA P bs deps (fun ρ H nx=>∃K,Kn.get K=ρ∧Q .normal (K.drop drop) H nx) fuel (listed.set i true) K'.get H' nx':=fun i hi K' H' nx' hh=>by
    obtain⟨h1,h2⟩:=hmem i hi;refine zxz fuel (listed.set i true) K' H' nx' (by simpa using hl) ?_ hh;have:=zoD (l:=listed) (i:=i) (by omega) (zcT.1 h2).1;omega
   cases hf:(i0::r0).find? (zCe bs deps listed) with
   |
    some i =>
    rw[hf] at h;simp only[awpT] at h;have hi:=List.mem_of_find?_eq_some hf;have hfree:=List.find?_some hf;obtain⟨h1,h2⟩:=hmem i hi;unfold zCe at hfree;simp only[Wg,Ww,Wz,Bool.or_eq_true] at hfree;obtain⟨hfix,hall⟩:=hfree;have hex:=zqH (k':=anyA P bs deps (fun ρ H nx=>∃K,Kn.get K=ρ∧Q .normal (K.drop drop) H nx) fuel (listed.set i true)) (fun K' H' nx' hh=>next i hi K' H' nx' hh) h;obtain⟨v,hy,hk⟩:=zp6 hfix hex;refine zxQ h1 fuel listed K.get H nx hl (fun j hj hji hun hno=>?_) h2 hy hk
    rcases hall j hj with ((hx|hx)|hx)|hx
    · exact absurd (zF hx).symm hji
    · rw[hun] at hx;cases hx
    · exact absurd ((za1 _ _).1 hx) hno
    · exact hx
   |
    none =>
    rw[hf] at h;simp only at h;have halt:=zt0 h;refine⟨fun h0=>?_,fun i hi hb=>?_⟩
    · have:=h0 i0 (hmem i0 (by simp)).1;rw[(hmem i0 (by simp)).2] at this;cases this
    ·
     have him:i∈i0::r0:=by rw[←hr];exact Wp.2 ⟨Wz.2 hi,hb⟩
     have:=halt (bs.getD i default,zil bs deps fuel (listed.set i true)) (List.mem_map.2 ⟨i,him,rfl⟩);exact zqH (fun K' H' nx' hh=>next i him K' H' nx' hh) this
theorem zrd{ops:Array Oper}{j:Nat}{o:Oper}(h:ops[j]? = some o):(ops.toList.map zmY).getD j []=zmY o:=by simp[Wm,WF,h]
theorem zsC{o:Oper}{i:Nat}:i∈zmY o↔∃e∈o.after,Region.binds .any e=true∧e.on=i:=by
 unfold zmY;simp only[List.mem_map,Wp,Array.mem_toList_iff];constructor
 · rintro⟨e,⟨h1,h2⟩,h3⟩;exact⟨e,h1,h2,h3⟩
 · rintro⟨e,h1,h2,h3⟩;exact⟨e,⟨h1,h2⟩,h3⟩
theorem zre{ops:Array Oper}{listed:List Bool}{j:Nat}(hl:listed.length=ops.size):j∈Region.ready .any ops listed.toArray↔j < ops.size∧zde (ops.toList.map zmY) listed j=true:=by
 rw[mem_ready]
 have e1:∀(i:Nat),listed.toArray.getD i false=getB listed i:=fun i=>by simp[getB,Wm]
 constructor
 ·
  rintro⟨h1,o,h2,h3⟩;have hj:j < ops.size:=(Wu.1 h2).1;refine⟨hj,zcT.2 ⟨?_,fun i hi=>?_⟩⟩
  ·
   have hjl:j < listed.length:=by omega
   simp[Wn,hjl] at h1;simp[getB,hjl,h1]
  · rw[zrd h2] at hi;obtain⟨e,he,hb,rfl⟩:=zsC.1 hi;rw[←e1];exact h3 e he hb
 ·
  rintro⟨hj,h⟩;obtain⟨h1,h2⟩:=zcT.1 h;have ho:ops[j]? = some ops[j]:=Wo hj;refine⟨?_,ops[j],ho,fun e he hb=>?_⟩
  ·
   have hjl:j < listed.length:=by omega
   simp[getB,hjl] at h1;simp[Wn,hjl,h1]
  · rw[e1];refine h2 _ ?_;rw[zrd ho];exact zsC.2 ⟨e,he,hb,rfl⟩
theorem zt2 {L:Nat→Prop} {nt n0:Nat} {w0:World} {ι0:Inj} {H0:AH} {B:Nat} {ops:Array Oper} {bs:List AOper} {Q:(Nat→AV)→AH→Nat→Prop} {Qc:Exit→Act→World→Prop} (hlen:bs.length=ops.size)
  (hrel:∀(i:Nat)(o:Oper)(ao:AOper),ops.toList[i]? = some o→bs[i]? = some ao→OpRel P nt ops o ao)
  (hQ:∀w ι ρ H nx a,In nt n0 w0 L ι0 H0 B w ι ρ H nx a→Q ρ H nx→Qc .normal a w) :
  ∀(fuel:Nat)(listed:List Bool)(w:World)(ι:Inj)(ρ:Nat→AV)(H:AH)(nx:Nat)(a:Act),listed.length=bs.length→In nt n0 w0 L ι0 H0 B w ι ρ H nx a→anyA P bs (ops.toList.map zmY) Q fuel listed ρ H nx →
   wpAny P .any ops Qc fuel listed.toArray a w
 |
  0,listed,w,ι,ρ,H,nx,a,hl,hin,h=>by
  refine⟨?_,hQ _ _ _ _ _ _ hin h.2⟩;rw[WO];intro j hj;obtain⟨h1,h2⟩:=(zre (by omega)).1 hj;rw[h.1 j (by omega)] at h2;cases h2
 |
  fuel+1,listed,w,ι,ρ,H,nx,a,hl,hin,h=>by
  refine⟨fun h0=>hQ _ _ _ _ _ _ hin (h.1 fun i hi=>?_),fun i hi=>?_⟩
  ·
   cases hb:zde (ops.toList.map zmY) listed i with
   | false=>rfl
   |
    true =>
    have:i∈Region.ready .any ops listed.toArray:=(zre (by omega)).2 ⟨by omega,hb⟩;rw[h0] at this;simp at this
  ·
   obtain⟨h1,h2⟩:=(zre (by omega)).1 hi;have ho:ops[i]? = some ops[i]:=Wo h1
   have hb:bs[i]? = some (bs.getD i default):=by simp[Wm,Wd (show i < bs.length by omega)]
   have hr:=hrel i ops[i] _ (by simp[ho]) hb;have hex:=h.2 i (by omega) h2
   have:=zra hr hin hex (Kc:=wpAny P .any ops Qc fuel (listed.toArray.setIfInBounds i true)) (Qc:=Qc) (fun w' ι' ρ' H' nx' a' hin' hk=>by
    have:=zt2 hlen hrel hQ fuel (listed.set i true) w' ι' ρ' H' nx' a' (by simpa using hl) hin' hk
    simpa using this)
   unfold wpOp;rw[ho];simp only;split
   · rename_i hw;rw[if_pos hw] at this;exact .inl this
   · rename_i hw;rw[if_neg hw] at this;exact this
theorem In.drewW{L:Nat→Prop}{nt n0:Nat}{w0 w:World}{ι0 ι:Inj}{H0 H:AH}{B nx:Nat}{ρ:Nat→AV}{a:Act}(h:In nt n0 w0 L ι0 H0 B w ι ρ H nx a):In nt n0 w0 L ι0 H0 B { w with drawn:=w.drawn+1 } ι ρ H nx a:=by
 have hm:∀{M:Nat→Prop}{ι:Inj}{v:Value}{x:AV},VR w M ι v x→VR { w with drawn:=w.drawn+1 } M ι v x:=fun h=>VR.mono (w:=w) (w':={ w with drawn:=w.drawn+1 }) (fun b _ hn=>⟨rfl,hn⟩) h (fun _ _ _ _ h=>h)
 have st:=h.st;refine⟨h.size,h.defers,⟨⟨st.ext.os,st.ext.tape,st.ext.output,st.ext.size,st.ext.block⟩,st.inj,?_,st.lv⟩,h.le,fun i=>hm (h.kn i)⟩
 exact⟨fun r q sz els g hg=>let ⟨l,h1,ok⟩:=st.rel.row r q sz els g hg;⟨l,h1,ok.trans (fun _=>rfl) (fun v a hv=>hm hv)⟩,
  st.rel.apart,st.rel.out,st.rel.idx,st.rel.dom,st.rel.gen,st.rel.Lsz⟩
theorem zsi:zqE P:=by
 intro F n hF nt n0 w0 L ι0 H0 B id ops bs drop Q hlen hrel hfol _ hdef w ι K H nx a hin h
 have htree:=zxz ops.size (Wy ops.size false) K H nx (by simp[hlen]) (by
  have:∀n,zkg (Wy n false)=n:=fun n=>by
   induction n with
   | zero=>rfl
   | succ n ih=>simp[List.replicate_succ,zkg,ih];omega
  rw[this]
  exact Wf _) h
 refine wpIn_region_any hfol (zwV hF (qq_in nt n0 w0 L ι0 H0 B Q) (fun i o ho=>hdef.imp_right fun hd=>hd i o (by simpa using ho)) _ _ _ _ ?_)
 have:=zt2 hlen hrel (Qc:=QQ nt n0 w0 L ι0 H0 B Q) (fun w ι ρ H nx a hin ⟨K,hK,hq⟩=>by
  subst hK
  exact⟨ι,K.drop drop,H,nx,hin.drop drop,hq⟩) ops.size (Wy ops.size false) _ ι K.get H nx a (by simp[hlen]) hin.drewW htree
 simpa using this
end
section
variable {P:Program}
theorem zCD{w:World}{L:Nat→Prop}{ι:Inj}{agg:Bool}{n:Nat}{pv:Value}{p:AV}{H:AH}{nx:Nat}(hp:VR w L ι pv p)(hs:(zfo agg n p H nx).side):∃a,pv=.pointer (some a):=by
 cases hp<;>first|exact⟨_,rfl⟩|simp[zfo,bad] at hs
theorem zxE{w:World}{L:Nat→Prop}{ι:Inj}{H:AH}{nx:Nat}{tmps:Array Value}{K:Kn}(rel:RelH w L ι H nx)(hk:KOk w (Lt L ι H) ι tmps K.get):
  ∀(xs:List ResultVar)(rs:List ARet),xs.mapM (cret P)=some rs→zcK K H nx rs →
   ∃vs,(xs.mapM (m:=Sem) fun | .tmp t=>pure (tmps.getD t undef) | .cell a t=>do loadVar t (←asAddr (tmps.getD a undef))).run P w=.ok vs w∧VRs w (Lt L ι H) ι vs (zb2 K H nx rs)
 | [],rs,h,_=>by simp at h;subst h;exact⟨[],by simp,.nil⟩
 |
  x::xs,rs,h,hs=>by
  simp only[WH,Wc,Option.pure_def,Wa,We] at h;obtain⟨b,hb,bs,hbs,rfl⟩:=h
  cases x with
  |
   tmp t =>
   simp only[cret,We] at hb;subst hb;obtain⟨vs,h1,h2⟩:=zxE rel hk xs bs hbs hs;refine⟨tmps.getD t undef::vs,?_,.cons (hk t) h2⟩;simp only[WH,Sem.run_bind,Sem.run_pure,Result.andThen_ok,h1]
  |
   cell t ty =>
   simp only[cret] at hb;split at hb
   ·
    rename_i d i hu hi
    have key:∀(agg:Bool)(n:Nat),zdy d=agg→n=(if zdy d then i.size else 1)→b=.cell t agg n →
      ∃vs,((.cell t ty::xs).mapM (m:=Sem) fun | .tmp t=>pure (tmps.getD t undef) | .cell a t=>do loadVar t (←asAddr (tmps.getD a undef))).run P w=.ok vs w∧VRs w (Lt L ι H) ι vs (zb2 K H nx (b::bs)):=by
     rintro agg n rfl hn rfl;obtain⟨hs1,hs2⟩:=hs;obtain⟨v,h1,h2,_⟩:=zsM hu hi rel (hk t) hn hs1;obtain⟨vs,h3,h4⟩:=zxE rel hk xs bs hbs hs2;refine⟨v::vs,?_,.cons h2 h4⟩;obtain⟨a,ha⟩:=zCD (hk t) hs1;rw[ha] at h1;simp only[Instr.loadAt,Instr.sureAddr,Sem.run_bind,Sem.run_pure,Result.andThen_ok] at h1
     have h5:(do loadVar ty (←asAddr (tmps.getD t undef)):Sem Value).run P w=.ok v w:=by simp only[ha,asAddr,Sem.run_bind,Sem.run_pure,Result.andThen_ok,h1]
     rw[WH,Sem.run_bind,h5,Result.andThen_ok,Sem.run_bind,h3];rfl
    split at hb
    · rename_i hd;cases hb;exact key true i.size hd (by rw[if_pos hd]) rfl
    · rename_i hd;cases hb;exact key false 1 (by simpa using hd) (by rw[if_neg hd]) rfl
   · cases hb
theorem VRs.tup{w:World}{M:Nat→Prop}{ι:Inj}{vs:List Value}{asv:List AV}(h:VRs w M ι vs asv):VR w M ι (.tuple vs.toArray) (.tup asv) :=
 .tup _ _ _ (by simpa using h.length) (fun i v a h1 h2=>h.get i v a (by simpa using h1) h2)
theorem zsf {w:World} {M:Nat→Prop} {ι:Inj} {fn:Func} {tmps:Array Value} {vs:List Value} {asv:List AV}
  (h:(fn.results.toList.mapM (m:=Sem) fun | .tmp t=>pure (tmps.getD t undef) | .cell a t=>do loadVar t (←asAddr (tmps.getD a undef))).run P w=.ok vs w) (hv:VRs w M ι vs asv) :
  ∃v,(results fn tmps).run P w=.ok v w∧VR w M ι v (zow asv):=by
 have key:(results fn tmps).run P w=.ok (if h:vs.toArray.size=1 then vs.toArray[0] else .tuple vs.toArray) w:=by unfold results;rw[Array.mapM_eq_mapM_toList];rw[Sem.run_bind,Sem.run_map];exact congrArg (fun(r:Result (List Value))=>(r.andThen fun a w'=>Result.ok a.toArray w').andThen fun a w'=>(pure (if h:a.size=1 then a[0] else Value.tuple a):Sem Value).run P w') h
 rw[key];refine⟨_,rfl,?_⟩
 cases hv with
 | nil=>exact VRs.nil.tup
 |
  cons h1 h2 =>
  cases h2 with
  | nil=>exact h1
  | cons h3 h4=>exact(VRs.cons h1 (.cons h3 h4)).tup
theorem zEU {f:FuncId} {fn:Func} {c:Code} {rs:List ARet} {args:List AV} {H:AH} {nx:Nat} {Post:AV→AH→Nat→Prop}
  (hf:P.funcs[f]? = some fn) (hb:fn.body=some c) (hr:fn.results.toList.mapM (cret P)=some rs) (hn:args.length≤fn.ntmps)
  (h:∀(w:World)(L:Nat→Prop)(ι:Inj)(a:Act),RelH w L ι H nx→In fn.ntmps w.heap.size w L ι H nx w ι (zlx 0 args).get H nx a→c.wp P (QQ fn.ntmps w.heap.size w L ι H nx (retK rs Post)) a w):zU P f args H nx Post:=by
 intro w L ι vs rel hv
 have hlen:vs.size=args.length:=by simpa using hv.length
 refine zo7 hf hb ?_
 have hin:In fn.ntmps w.heap.size w L ι H nx w ι (zlx 0 args).get H nx { tmps:=vs++Array.replicate (fn.ntmps - vs.size) undef,defers:=[] }:=by
  refine⟨by simp;omega,.nil,.refl rel,Wf _,fun i=>?_⟩;rw[zq3,if_pos (WI _),Nat.sub_zero]
  rcases Nat.lt_or_ge i args.length with hi|hi
  ·
   have h1:i < vs.size:=by omega
   refine hv.get i _ _ ?_ (by simp[Wm,Wd hi]);simp[Wn,Array.getElem?_append,h1]
  · rw[show args.getD i .undef=.undef by simp[Wm,List.getElem?_eq_none hi]];exact .undef _ _
 refine wp_mono (h w L ι _ rel hin) fun e a' w' ⟨ι',K,H',nx',hin',hq⟩=>?_
 have fin:zcK K H' nx' rs∧Post (zow (zb2 K H' nx' rs)) H' nx'→∃ms,a'.defers=ms.map zrm∧ms.Nodup∧(∀m∈ms,w'.heap[m]? = some (.deferred (some [])))∧∃v,(results fn a'.tmps).run P (shut ms w')=.ok v (shut ms w') ∧
   ∃v_1 ι' H' nx' a,Ending.returned v=.returned v_1∧Step w L ι H nx (shut ms w') ι' H' nx'∧nx≤nx'∧VR (shut ms w') (Lt L ι' H') ι' v_1 a∧Post a H' nx':=by
  intro ⟨h1,h2⟩;obtain⟨ms,m1,m2,m3⟩:=hin'.defers;refine⟨ms,m1,m2,fun m hm=>(m3 m hm).2.1,?_⟩
  have hD:∀b,b∈ms→zl2 w' b∧b < w'.heap.size∧¬live ι' H' b:=fun b hb=>by obtain⟨h4,h5,h6⟩:=m3 b hb;exact⟨fun c e f hc=>(by rw[h5] at hc;cases hc),(Wu.1 h5).1,fun hl=>h6 (.inr hl)⟩
  have he:=zsW ms w';obtain⟨hrel,hvr⟩:=hin'.st.rel.turn hD he
  have st:Step w L ι H nx (shut ms w') ι' H' nx':=by refine⟨⟨he.os.trans hin'.st.ext.os,he.tape.trans hin'.st.ext.tape,he.output.trans hin'.st.ext.output,Wh hin'.st.ext.size he.size,fun b hb hn=>?_⟩,hin'.st.inj,hrel,hin'.st.lv⟩;rw[he.block b (Wj hb hin'.st.ext.size) (fun hm=>by have:=(m3 b hm).1;omega)];exact hin'.st.ext.block b hb hn
  obtain⟨us,h3,h4⟩:=zxE hrel (fun i=>hvr _ _ (hin'.kn i)) _ _ hr h1;obtain⟨v,h5,h6⟩:=zsf h3 h4;exact⟨v,h5,v,ι',H',nx',_,rfl,st,hin'.le,h6,h2⟩
 cases e with
 | normal=>exact⟨.inl rfl,fin hq⟩
 | ret=>exact⟨.inr rfl,fin hq⟩
 | exit id=>exact hq.elim
 | _=>exact hq.elim
theorem fn_ok {f:FuncId} {fn:Func} {c:Code} {ac:ACode} {q:Nat→List Nat} {rs:List ARet} {args:List AV} {H:AH} {nx:Nat} {Post:AV→AH→Nat→Prop}
  (hf:P.funcs[f]? = some fn) (hb:fn.body=some c) (hc:comp P fn.ntmps q c=some ac.strip) (hr:fn.results.toList.mapM (cret P)=some rs) (hn:args.length≤fn.ntmps)
  (h:awp P nx ac (retK rs Post) (zlx 0 args) H nx):zU P f args H nx Post :=
 zEU hf hb hr hn fun w L ι a rel hin=>ztQ zsi rel (Wf _) ac c hc _ w ι _ H nx a hin h
end
def zO(P:Program)(f:FuncId)(q:Nat→List Nat):Option (ACode × List ARet × Nat) :=
 match P.funcs[f]? with
 |
  some fn=>match fn.body with
  |
   some c=>match comp P fn.ntmps q c,fn.results.toList.mapM (cret P) with
   | some a,some r=>some (a,r,fn.ntmps)
   | _,_=>none
  | none=>none
 | none=>none
theorem fn_of {P:Program} {f:FuncId} {q:Nat→List Nat} {ac:ACode} {rs:List ARet} {nt:Nat} (hc:zO P f q=some (ac.strip,rs,nt)) {args:List AV} {H:AH} {nx:Nat} {Post:AV→AH→Nat→Prop} (hn:args.length≤nt)
  (h:awp P nx ac (retK rs Post) (zlx 0 args) H nx):zU P f args H nx Post:=by
 unfold zO at hc;split at hc
 ·
  rename_i fn hf;split at hc
  ·
   rename_i c hb;split at hc
   · rename_i a r h1 h2;cases hc;exact fn_ok hf hb h1 h2 hn h
   · cases hc
  · cases hc
 · cases hc
inductive Vw(H H2:AH)(σ:Nat→Nat→Option (Nat × Nat × Nat))(D:Nat→Nat→Prop):Bool→AV→AV→Prop
 | undef (t a):Vw H H2 σ D t a .undef
 | int (t k n):Vw H H2 σ D t (.int k n) (.int k n)
 | bool (t b):Vw H H2 σ D t (.bool b) (.bool b)
 | str (t s):Vw H H2 σ D t (.str s) (.str s)
 | nilp (t):Vw H H2 σ D t .nilp .nilp
 | nilfn (t):Vw H H2 σ D t .nilfn .nilfn
 | cut (t):Vw H H2 σ D t .cut .cut
 | nilsl (t):Vw H H2 σ D t .nilsl .nilsl
 | iptr (t n c):Vw H H2 σ D t (.iptr n c) (.iptr n c)
 | sl (t sz n f):Vw H H2 σ D t (.sl sz n f) (.sl sz n f)
 | nil0 (t sz f):Vw H H2 σ D t .nilsl (.sl sz 0 f)
 | slf (t sz n f f') (h:∀i j,i < n→j < sz→Vw H H2 σ D false (f i j) (f' i j)):Vw H H2 σ D t (.sl sz n f) (.sl sz n f')
 | iptrf (t n c c') (h:∀j,j < n→Vw H H2 σ D false (c j) (c' j)):Vw H H2 σ D t (.iptr n c) (.iptr n c')
 | mp (r q r' q') (hs:σ r' q'=some (r,q,0)):Vw H H2 σ D true (.mp r q) (.mp r' q')
 | nilmp (t):Vw H H2 σ D t .nilmp .nilmp
 | it (r r') (hs:σ r' 0=some (r,0,0)):Vw H H2 σ D true (.it r) (.it r')
 | own (r q g d off n r' q' g') (hs:σ r' q'=some (r,q,d)) (hg:g=g'+d):Vw H H2 σ D true (.own r q g off n) (.own r' q' g' off n)
 | ptr (r q g d i f r' q' g') (hs:σ r' q'=some (r,q,d)) (hg:g=g'+d):Vw H H2 σ D true (.ptr r q g i f) (.ptr r' q' g' i f)
 | new (r' q' sz) (hs:σ r' q'=none) (hg:H2.get r' q'=some (.row sz [] 0)):Vw H H2 σ D true .nilsl (.own r' q' 0 0 0)
 | frz (t r q g off n sz els f) (hD:D r q) (hg:H.get r q=some (.row sz els g)) (hb:n≤big) (hl:off+n≤els.length)
   (h:∀i j,i < n→j < sz→Vw H H2 σ D false ((els.getD (off+i) []).getD j .undef) (f i j)):Vw H H2 σ D t (.own r q g off n) (.sl sz n f)
 | frzp (t r q g i o n sz els c) (hD:D r q) (hg:H.get r q=some (.row sz els g)) (hi:i < els.length) (hl:o+n≤sz)
   (h:∀j,j < n→Vw H H2 σ D false ((els.getD i []).getD (o+j) .undef) (c j)):Vw H H2 σ D t (.ptr r q g i o) (.iptr n c)
 | fn (t f asv bs) (hl:asv.length=bs.length) (h:∀(i:Nat)(a b:AV),asv[i]? = some a→bs[i]? = some b→Vw H H2 σ D t a b):Vw H H2 σ D t (.fn f asv) (.fn f bs)
 | agg (t asv bs) (hl:asv.length=bs.length) (h:∀(i:Nat)(a b:AV),asv[i]? = some a→bs[i]? = some b→Vw H H2 σ D t a b):Vw H H2 σ D t (.agg asv) (.agg bs)
 | tup (t asv bs) (hl:asv.length=bs.length) (h:∀(i:Nat)(a b:AV),asv[i]? = some a→bs[i]? = some b→Vw H H2 σ D t a b):Vw H H2 σ D t (.tup asv) (.tup bs)
def zfX(H2:AH)(σ:Nat→Nat→Option (Nat × Nat × Nat))(ι:Inj):Inj:=fun r' q' g' =>
 match σ r' q' with
 | some (r,q,d)=>ι r q (g'+d)
 |
  none=>match H2.get r' q' with
  | some (.row sz [] 0)=>bif Nat.beq g' 0 then some ⟨0,0,0,sz⟩ else none
  | _=>none
theorem add_add(a:Addr)(h:a.spot=none)(m n:Nat):(a.add m).add n=⟨a.block,a.off+m+n,none⟩:=by
 obtain⟨b,o,s⟩:=a;simp only at h;subst h;unfold Addr.add
 split<;>split<;>simp_all
theorem Vw.sound {H H2:AH} {σ:Nat→Nat→Option (Nat × Nat × Nat)} {D:Nat→Nat→Prop} {w:World} {L M:Nat→Prop} {ι:Inj} {nx:Nat} (rel:RelH w L ι H nx)
  (hM:∀b,M b→Lt L ι H b) (hMD:∀r q sz els g l,D r q→H.get r q=some (.row sz els g)→ι r q g=some l→0 < l.cap * l.sz→¬M l.block) {t:Bool} {a a':AV} (h:Vw H H2 σ D t a a') :
  ∀v,VR w (Lt L ι H) ι v a→VR w M (bif t then zfX H2 σ ι else noI) v a':=by
 induction h with
 | undef=>intro v _;exact .undef _ _
 | int=>intro v h;cases h;exact .int _ _ _ ‹_›
 | bool=>intro v h;cases h;exact .bool _ _
 | str=>intro v h;cases h;exact .str _ _ ‹_›
 | nilp=>intro v h;cases h;exact .nilp _
 | nilfn=>intro v h;cases h;exact .nilfn _
 | cut=>intro v h;cases h;exact .cut _ _
 | mp r q r' q' hs=>intro v h;cases h with|mp _ _ _ l h hm=>exact .mp _ _ _ l (by simp only[cond_true,zfX,hs];exact h) hm
 | nilmp=>intro v h;cases h;exact .nilmp _
 | it r r' hs=>intro v h;cases h with|it _ _ l h hm=>exact .it _ _ l (by simp only[cond_true,zfX,hs];exact h) hm
 | nilsl=>intro v h;cases h;exact .nilsl _
 | nil0=>intro v h;cases h;exact .sl0 _ _ _
 |
  iptr t n c =>
  intro v h
  cases h with
  | iptr _ a n c V hc hL hv=>exact .iptr _ a n c V hc (fun hn hb=>hL hn (hM _ hb)) (fun j hj=>(hv j hj).anti hM)
 |
  sl t sz n f =>
  intro v h
  cases h with
  | sl _ a sz n cap f V hn hb hc hL hv=>exact .sl _ a sz n cap f V hn hb hc (fun hn hb=>hL hn (hM _ hb)) (fun i j hi hj=>(hv i j hi hj).anti hM)
  | sl0=>exact .sl0 _ _ _
 |
  iptrf t n c c' h ih =>
  intro v h
  cases h with
  | iptr _ a n c V hc hL hv=>exact .iptr _ a n c' V hc (fun hn hb=>hL hn (hM _ hb)) (fun j hj=>ih j hj _ ((hv j hj).mono (fun b _ hb=>⟨rfl,hb⟩) (fun _ _ _ _ h=>by cases h)))
 |
  slf t sz n f f' h ih =>
  intro v h
  cases h with
  | sl _ a sz n cap f V hn hb hc hL hv=>exact .sl _ a sz n cap f' V hn hb hc (fun hn hb=>hL hn (hM _ hb)) (fun i j hi hj=>ih i j hi hj _ ((hv i j hi hj).mono (fun b _ hb=>⟨rfl,hb⟩) (fun _ _ _ _ h=>by cases h)))
  | sl0=>exact .sl0 _ _ _
 |
  own r q g d off n r' q' g' hs hg =>
  intro v h;subst hg
  cases h with
  | own _ _ _ _ _ _ a c l h hm hn hc ha=>exact .own _ _ _ _ _ _ _ _ l (by simp only[cond_true,zfX,hs];exact h) hm hn hc ha
 |
  ptr r q g d i f r' q' g' hs hg =>
  intro v h;subst hg
  cases h with
  | ptr _ _ _ _ _ _ l h hm=>exact .ptr _ _ _ _ _ _ l (by simp only[cond_true,zfX,hs];exact h) hm
 |
  new r' q' sz hs hg =>
  intro v h;cases h;refine .own _ _ _ _ _ _ _ _ ⟨0,0,0,sz⟩ (by simp[zfX,hs,hg]) (WI _) (Wf _) (Wf _) (fun h=>by omega)
 |
  frz t r q g off n sz els f hD hg hb hl h ih =>
  intro v h
  cases h with
  |
   own _ _ _ _ _ _ a c l h hm hn hc ha =>
   obtain⟨l',h1,ok⟩:=rel.row _ _ _ _ _ hg;rw[h] at h1;cases h1;have hsz:=ok.hsz
   cases a with
   |
    none =>
    have:c=0:=by
     rcases Ws c with h0|h0
     · exact h0
     · have:=ha h0;cases this
    subst this
    obtain rfl:n=0:=by omega
    exact .sl0 _ _ _
   |
    some a =>
    have cell:∀i j,i < n→j < sz→∃v,w.cell? ((a.add (i * sz)).add j)=some v∧v.oneCell'=true∧VR w M noI v (f i j):=by
     intro i j hi hj
     have h0:off+i < els.length:=by omega
     have hw:=ok.wide (off+i) _ (Wd h0);obtain⟨v,h2,h3,h4⟩:=ok.holds hm (off+i) _ j _ (Wd h0) (Wd (by rw[hw];exact hj));refine⟨v,?_,h3,ih i j hi hj v ?_⟩
     ·
      have:=ha (by omega);cases this;rw[add_add _ rfl,←h2,hsz]
      congr 2
      show l.off+off * sz+i * sz+j=_;rw[Nat.add_mul];omega
     · simpa [Wm,Wd h0,Wd (show j < els[off+i].length by rw[hw];exact hj)] using h4
    refine .sl _ a sz n c f (fun i j=>(w.cell? ((a.add (i * sz)).add j)).getD Go.undef) hn hb (fun i j hi hj=>?_) (fun hp=>?_) (fun i j hi hj=>?_)
    · obtain⟨v,h2,h3,_⟩:=cell i j hi hj;rw[h2];exact⟨rfl,h3⟩
    ·
     have hn0:0 < n:=by
      rcases Ws n with h0|h0
      · subst h0;simp at hp
      · exact h0
     have hs0:0 < sz:=by
      rcases Ws sz with h0|h0
      · subst h0;simp at hp
      · exact h0
     have:=ha (by omega);cases this;exact hMD _ _ _ _ _ _ hD hg h (by rw[hsz];exact Nat.mul_pos (by omega) hs0)
    ·
     obtain⟨v,h2,_,h4⟩:=cell i j hi hj
     simpa [h2] using h4
 |
  frzp t r q g i o n sz els c hD hg hi hl h ih =>
  intro v h
  cases h with
  |
   ptr _ _ _ _ _ _ l h hm =>
   obtain⟨l',h1,ok⟩:=rel.row _ _ _ _ _ hg;rw[h] at h1;cases h1;have hsz:=ok.hsz;have hw:=ok.wide i _ (Wd hi)
   have cell:∀j,j < n→∃v,w.cell? ((⟨l.block,l.off+i * l.sz+o,none⟩:Addr).add j)=some v∧v.oneCell'=true∧VR w M noI v (c j):=by
    intro j hj;obtain⟨v,h2,h3,h4⟩:=ok.holds hm i _ (o+j) _ (Wd hi) (Wd (by rw[hw];omega));refine⟨v,?_,h3,ih j hj v ?_⟩
    ·
     rw[←h2,hsz];have:=add_add ⟨l.block,l.off+i * sz+o,none⟩ rfl j 0;simp only[Addr.add,if_true] at this ⊢;split
     · rename_i h0;subst h0;rfl
     · simp only[Nat.add_assoc]
    · simpa [Wm,Wd hi,Wd (show o+j < els[i].length by rw[hw];omega)] using h4
   refine .iptr _ _ n c (fun j=>(w.cell? ((⟨l.block,l.off+i * l.sz+o,none⟩:Addr).add j)).getD Go.undef) (fun j hj=>?_) (fun hp=>?_) (fun j hj=>?_)
   · obtain⟨v,h2,h3,_⟩:=cell j hj;rw[h2];exact⟨rfl,h3⟩
   · exact hMD _ _ _ _ _ _ hD hg h (by rw[hsz];exact Nat.mul_pos (Wj (by omega) (ok.plain hm).len) (by omega))
   ·
    obtain⟨v,h2,_,h4⟩:=cell j hj
    simpa [h2] using h4
 |
  fn t f asv bs hl h ih =>
  intro v h
  cases h with
  |
   fn _ _ cs _ hs hv =>
   refine .fn _ _ _ _ (hs.trans hl) (fun i v b h1 h2=>?_)
   have hi:i < asv.length:=by rw[hl];exact(WJ.1 h2).1
   exact ih i _ b (Wd hi) h2 v (hv i v _ h1 (Wd hi))
 |
  agg t asv bs hl h ih =>
  intro v h
  cases h with
  |
   agg _ cs _ hs h1 hv =>
   refine .agg _ _ _ (hs.trans hl) h1 (fun i v b h1 h2=>?_)
   have hi:i < asv.length:=by rw[hl];exact(WJ.1 h2).1
   exact ih i _ b (Wd hi) h2 v (hv i v _ h1 (Wd hi))
 |
  tup t asv bs hl h ih =>
  intro v h
  cases h with
  |
   tup _ cs _ hs hv =>
   refine .tup _ _ _ (hs.trans hl) (fun i v b h1 h2=>?_)
   have hi:i < asv.length:=by rw[hl];exact(WJ.1 h2).1
   exact ih i _ b (Wd hi) h2 v (hv i v _ h1 (Wd hi))
def RowV(H H2:AH)(σ:Nat→Nat→Option (Nat × Nat × Nat))(D:Nat→Nat→Prop)(els els2:List (List AV)):Prop :=
 els2.length=els.length∧∀(i:Nat)(c2:List AV),els2[i]? = some c2→∃c,els[i]? = some c∧c2.length=c.length∧∀(j:Nat)(a b:AV),c[j]? = some a→c2[j]? = some b→Vw H H2 σ D true a b
structure View(B:Nat)(H:AH)(H2:AH)(nx2:Nat)(σ:Nat→Nat→Option (Nat × Nat × Nat))(D:Nat→Nat→Prop):Prop where
 le:B≤nx2
 base:∀r q,r < B→σ r q=some (r,q,0)
 inj:∀r1 q1 r2 q2 r q d1 d2,σ r1 q1=some (r,q,d1)→σ r2 q2=some (r,q,d2)→r1=r2∧q1=q2
 apart:∀r' q' r q d,σ r' q'=some (r,q,d)→¬D r q
 idx:∀r' q' x,σ r' q'=some x→r' < nx2
 dom:∀r o,H2.look r=some o→r < nx2
 row:∀r' q' sz els2 g2,H2.get r' q'=some (.row sz els2 g2)→(∃r q d els,σ r' q'=some (r,q,d)∧H.get r q=some (.row sz els (g2+d))∧RowV H H2 σ D els els2)∨(σ r' q'=none∧els2=[]∧g2=0)
section
variable {B:Nat} {H H2:AH} {nx nx2:Nat} {σ:Nat→Nat→Option (Nat × Nat × Nat)} {D:Nat→Nat→Prop} {w:World} {L:Nat→Prop} {ι:Inj}
theorem View.live(vw:View B H H2 nx2 σ D){b:Nat}(h:live (zfX H2 σ ι) H2 b):∃r' q' r q d sz els els2 g l,σ r' q'=some (r,q,d)∧H2.get r' q'=some (.row sz els2 g)∧H.get r q=some (.row sz els (g+d))∧ι r q (g+d)=some l∧0 < l.cap * l.sz∧l.block=b:=by
 obtain⟨r',q',sz,els2,g,l,h1,h2,h3,rfl⟩:=h
 rcases vw.row _ _ _ _ _ h1 with ⟨r,q,d,els,a1,a2,a3⟩ | ⟨a1,a2,a3⟩
 · simp only[zfX,a1] at h2;exact⟨r',q',r,q,d,sz,els,els2,g,l,a1,h1,a2,h2,h3,rfl⟩
 · subst a2 a3;simp[zfX,a1,h1] at h2;subst h2;simp at h3
theorem View.lv(vw:View B H H2 nx2 σ D){b:Nat}(h:Go.Ab.live (zfX H2 σ ι) H2 b):Go.Ab.live ι H b:=by obtain⟨r',q',r,q,d,sz,els,els2,g,l,h1,h2,h3,h4,h5,h6⟩:=vw.live h;exact⟨r,q,sz,els,g+d,l,h3,h4,h5,h6⟩
theorem View.lt(vw:View B H H2 nx2 σ D):∀b,Lt L (zfX H2 σ ι) H2 b→Lt L ι H b:=by
 rintro b (h|h)
 · exact .inl h
 · exact .inr (vw.lv h)
theorem View.off(vw:View B H H2 nx2 σ D)(rel:RelH w L ι H nx):∀r q sz els g l,D r q→H.get r q=some (.row sz els g)→ι r q g=some l→0 < l.cap * l.sz→¬Lt L (zfX H2 σ ι) H2 l.block:=by
 intro r q sz els g l hD h1 h2 h3 h4
 rcases h4 with h4|h4
 · exact rel.out _ ⟨r,q,sz,els,g,l,h1,h2,h3,rfl⟩ h4
 · obtain⟨r',q',r1,q1,d,sz1,els1,els2,g1,l1,a1,a2,a3,a4,a5,a6⟩:=vw.live h4;obtain⟨rfl,rfl⟩:=rel.apart _ _ _ _ _ _ _ _ _ _ _ _ h1 a3 h2 a4 h3 a5 a6.symm;exact vw.apart _ _ _ _ _ a1 hD
theorem View.vr(vw:View B H H2 nx2 σ D)(rel:RelH w L ι H nx){t:Bool}{a b:AV}(h:Vw H H2 σ D t a b){v:Value}(hv:VR w (Lt L ι H) ι v a):VR w (Lt L (zfX H2 σ ι) H2) (bif t then zfX H2 σ ι else noI) v b :=
 h.sound rel vw.lt (vw.off rel) v hv
theorem View.rel(vw:View B H H2 nx2 σ D)(rel:RelH w L ι H nx):RelH w L (zfX H2 σ ι) H2 nx2:=by
 constructor
 ·
  intro r' q' sz els2 g h
  rcases vw.row _ _ _ _ _ h with ⟨r,q,d,els,a1,a2,a3⟩ | ⟨a1,rfl,rfl⟩
  · obtain⟨l,h1,ok⟩:=rel.row _ _ _ _ _ a2;refine⟨l,by simp only[zfX,a1];exact h1,ok.view (fun _=>rfl) a3.1 (fun i c' hi=>?_)⟩;obtain⟨c1,hc,hl,hv⟩:=a3.2 i c' hi;exact⟨c1,hc,hl,fun j a a' hj hj' v h4=>vw.vr rel (hv j a a' hj hj') h4⟩
  · refine⟨⟨0,0,0,sz⟩,by simp[zfX,a1,h],.mk' rfl (Wf _) (WI _) (fun k hk=>by simp at hk) (fun h=>by simp at h) (fun i c hi=>by simp at hi) (fun i c j a hi=>by simp at hi)⟩
 ·
  intro r1 q1 r2 q2 s1 e1 g1 l1 s2 e2 g2 l2 h1 h2 h3 h4 h5 h6 h7
  have key:∀r' q' s e g l,H2.get r' q'=some (.row s e g)→zfX H2 σ ι r' q' g=some l→0 < l.cap * l.sz→∃r q d els,σ r' q'=some (r,q,d)∧H.get r q=some (.row s els (g+d))∧ι r q (g+d)=some l:=by
   intro r' q' s e g l a1 a2 a3
   rcases vw.row _ _ _ _ _ a1 with ⟨r,q,d,els,b1,b2,b3⟩ | ⟨b1,rfl,rfl⟩
   · simp only[zfX,b1] at a2;exact⟨r,q,d,els,b1,b2,a2⟩
   · simp[zfX,b1,a1] at a2;subst a2;simp at a3
  obtain⟨x1,y1,d1,z1,a1,a2,a3⟩:=key _ _ _ _ _ _ h1 h3 h5;obtain⟨x2,y2,d2,z2,b1,b2,b3⟩:=key _ _ _ _ _ _ h2 h4 h6;obtain⟨rfl,rfl⟩:=rel.apart _ _ _ _ _ _ _ _ _ _ _ _ a2 b2 a3 b3 h5 h6 h7;exact vw.inj _ _ _ _ _ _ _ _ a1 b1
 · intro b hb;exact rel.out b (vw.lv hb)
 ·
  intro r' q' g l h;unfold zfX at h;split at h
  · rename_i hs;exact vw.idx _ _ _ hs
  ·
   split at h
   ·
    rename_i hg;unfold AH.get at hg
    cases hl:H2.look r' with
    | none=>rw[hl] at hg;cases hg
    | some o=>exact vw.dom _ _ hl
   · cases h
 · exact vw.dom
 ·
  intro r' q' sz els g h g2 l h2
  rcases vw.row _ _ _ _ _ h with ⟨r,q,d,els1,a1,a2,a3⟩ | ⟨a1,rfl,rfl⟩
  · simp only[zfX,a1] at h2;have:=rel.gen _ _ _ _ _ a2 _ _ h2;omega
  ·
   simp only[zfX,a1,h] at h2
   cases hb:Nat.beq g2 0 with
   | true=>rw[zF hb];exact Wf _
   | false=>rw[hb] at h2;cases h2
 · exact rel.Lsz
theorem Ent.view{K K2:Kn}(σ:Nat→Nat→Option (Nat × Nat × Nat))(D:Nat→Nat→Prop)(vw:View B H H2 nx2 σ D)(hK:∀i,Vw H H2 σ D true (K.get i) (K2.get i)):Ent B K H nx K2 H2 nx2:=by refine⟨vw.le,fun w L ι tmps rel hk=>⟨zfX H2 σ ι,vw.rel rel,fun i=>vw.vr rel (hK i) (hk i),fun b hb=>vw.lv hb,fun r q g l hr h=>?_⟩⟩;simp only[zfX,vw.base r q hr];exact h
end
end Go.Ab
