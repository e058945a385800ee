/-
  Part 3 of the proof: how the calls of this program run, over values instead of memory, and what each function computes.
-/
import Derived.Sort.LoopGhostIn
import Derived.OrdersIn
import Derived.TacticsIn
import Derived.RangeFuncCalls
import Derived.RangeFuncBound
import Derived.RangeFuncRecord
import Derived.RangeFuncLeaves
import Derived.Deep.LoopGhost
import Derived.Scope
import Derived.ScopeJumps
import Derived.Test.YtmlhipilbnjhiaaGreatQb
set_option maxRecDepth 100000
set_option linter.unusedVariables false
set_option linter.unusedSimpArgs false
set_option linter.unnecessarySimpa false
set_option linter.unusedSectionVars false
open Go.Ab.ACode renaming strip->Xa
open Go.Ab.AOp renaming tmps->Xb
open Go.Ab.AH renaming get->Xc,upto->Xl,get_low->Xo,look_low->Xs
open Go.Sem renaming run_bind->Xd,run_pure->Xp,run->Xq
open Go.Fence renaming wide->Xe
open Go.Oper renaming wp->Xf,upon->Xm,wpIn_mono->Xr
open Ne renaming symm->Xg
open Go.World renaming putObj_size->Xh,putObj_heap_other->Xi,putObj_heap_same->Xn,alloc_heap_new->Xt
open Go.Region renaming wanted->Xj,ready->Xu
open Go.Result renaming andThen_ok->Xk
open Option renaming bind_eq_some_iff→Wa,bind_eq_bind→Wc,map_eq_some_iff→Wi,bind_some→WK
open List renaming getElem?_eq_getElem→Wd,mem_of_getElem?→Wk,getD→Wm,mem_filter→Wp,getD_cons_succ→Wq,getD_cons_zero→Wr,replicate→Wt,mem_append→Wu,mem_cons_of_mem→Ww,all_eq_true→Wx,range→Wz,mem_range→WA,getElem_mem→WB,getElem_of_mem→WC,getElem?_cons_succ→WD,mem_cons→WE,getElem?_map→WF,flatMap_cons→WG,mapM_cons→WH,getElem?_eq_some_iff→WJ,eq_nil_iff_forall_not_mem→WO,getElem?_append_left→WQ,getElem?_append_right→WR
open Option.some renaming injEq→We
open Nat renaming le_refl→Wf,le_trans→Wh,lt_of_lt_of_le→Wj,eq_zero_or_pos→Ws,not_lt→Wy,zero_le→WI
open Bool renaming and_eq_true→Wg,not_eq_true'→Wl
open Array renaming getD_eq_getD_getElem?→Wn,getElem?_eq_getElem→Wo,getElem?_eq_some_iff→Wv,toArray_toList→WL,getElem_mem→WM,getElem_of_mem→WN,mem_filter→WP
namespace Go.Ab
open Go.RowKit
section
variable {P:Program}{w:World}{L:Nat->Prop}{ι:Inj}{H:AH}{nx:Nat}{M:Nat->Prop}
theorem zKO(x)(l):nx<=(xopR x l H nx).nx:=by unfold xopR;split<;>(try unfold zAT)<;>simp only[zr4,zok,seqR,zwK,b2sR,s2bR,zqU,minR,eqsR,sl3R,zjn,znK,zsv,zrR,zhA,zz2,zvD,zmK,zzy,apzR,bad]<;>(repeat' split)<;>simp
theorem zz3{o}{a}(h:zDq P o=some a):(∃x d,a=.xop x d)\/(∃x,a=.mnext x)\/∃z c,a=.build z c:=by
 unfold zDq at h
 cases b:o.op<;>rw[b]at h<;>(try(cases h;done))<;>simp only at h<;>(repeat' split at h) <;>
  first
  |(cases h;done)
  |(obtain⟨_,_,rfl⟩:=Wi.1 h;first|exact .inl ⟨_,_,rfl⟩|exact .inr (.inl ⟨_,rfl⟩))
  |(simp only[Wc,Wa,We]at h;obtain⟨_,_,rfl⟩:=h;exact .inr (.inr ⟨_,_,rfl⟩))
  |(simp only[Wc,Wa,We]at h;obtain⟨_,_,_,_,rfl⟩:=h;exact .inl ⟨_,_,rfl⟩)
  |(simp only[Wc,Wa,We]at h;obtain⟨_,_,_,_,_,_,rfl⟩:=h;exact .inl ⟨_,_,rfl⟩)
theorem zDu{o}{a}(h:cyop P o=some a):(∃x d,a=.xop x d)\/(∃x,a=.mnext x)\/∃z c,a=.build z c:=by
 unfold cyop at h;split at h
 .rename_i a0 b;cases h;exact zz3 b
 .cases h;exact .inl ⟨_,_,rfl⟩
theorem zmw{o}{a}(h:cop P o=some a)(b:(∃x e,a=.xop x e)\/(∃x,a=.mnext x)\/(∃z d,a=.build z d)->False):cop0 P o=some a:=by
 unfold cop at h;split at h
 .rename_i a0 c;rw[c];exact h
 .split at h
  .cases h;exact(b (.inl ⟨_,_,rfl⟩)).elim
  .exact(b (zDu h)).elim
theorem zE2(o)(ρ):nx<=(aop o ρ H nx).nx:=by
 cases o<;>simp only[aop,zlL,zlu,zd5,zfu,idxR,zcO,fldR,lenR,zte,binI,eqB,unR,zmt,zg3,zcM,boxR,zoC,zbu,zjz,zlz,zfY,cutR,ze8,ziF,extR,bad]<;>(try exact zKO _ _) <;>
  (repeat' split)<;>simp
def zvs(m:Nat):Deferred:={ target:=.collected m,args:=#[] }
def zoF(d:Nat)(w:World)(X:Nat->Prop)(c:List Deferred):Prop :=
 ∃b:List Nat,c=b.map zvs/\b.Nodup/\∀m∈b,d<=m/\w.heap[m]?=some (.deferred (some []))/\¬X m
theorem zoF.nil{n0}{w}{X}:zoF n0 w X []:=⟨[],rfl,.nil,λ_ h=>by cases h⟩
theorem zoF.less{n0}{w}{X X'}{e:List Deferred}(h:zoF n0 w X e)(n:∀b,X' b->X b):zoF n0 w X' e :=
 let ⟨o,g,j,c⟩:=h;⟨o,g,j,λm d=>⟨(c m d).1,(c m d).2.1,λk=>(c m d).2.2 (n m k)⟩⟩
theorem zoF.go{n0}{w w'}{X X'}{c:List Deferred}(h:zoF n0 w X c)(s:∀b,b<w.heap.size->¬X b->w'.heap[b]?=w.heap[b]? /\ ¬X' b):zoF n0 w' X' c:=by obtain⟨t,e,g,j⟩:=h;refine⟨t,e,g,λm q=>?_⟩;obtain⟨k,d,n⟩:=j m q;obtain⟨o,p⟩:=s m (Wv.1 d).1 n;exact⟨k,o.trans d,p⟩
theorem zoF.step{n0}{w w'}{L}{ι ι'}{H H'}{nx nx'}{e:List Deferred}(h:zoF n0 w (Lt L ι H) e)(s:Step w L ι H nx w' ι' H' nx'):zoF n0 w' (Lt L ι' H') e :=
 h.go λb g d=>⟨s.ext.block b g (λj=>d (.inr j)),λc=>by
  rcases c with c|c
  .exact d (.inl c)
  .rcases s.lv b c with h|h
   .exact d (.inr h)
   .omega⟩
structure In(nt n0:Nat)(w0:World)(L:Nat->Prop)(ι0:Inj)(H0:AH)(B:Nat)(w:World)(ι:Inj)(ρ:Nat->AV)(H:AH)(nx:Nat)(a:Act):Prop where
 size:a.tmps.size=nt
 defers:zoF n0 w (Lt L ι H) a.defers
 st:Step w0 L ι0 H0 B w ι H nx
 le:B<=nx
 kn:KOk w (Lt L ι H) ι a.tmps ρ
def upd(ρ:Nat->AV):Option Nat->AV->Nat->AV
 |none,_=>ρ
 |some d,v=>λi=>if i=d then v else ρ i
theorem zpm(K)(d)(v):(setO K d v).get=upd K.get d v:=by
 funext i
 cases d with
 |none=>rfl
 |some d=>exact Kn.get_set K d v i
variable {nt n0:Nat}{w0:World}{ι0:Inj}{H0:AH}{B:Nat}{ρ:Nat->AV}{a:Act}
theorem zA0{tmps:Array Value}{d i:Nat}{v:Value}(hd:d<tmps.size):(tmps.setIfInBounds d v).getD i undef=if i=d then v else tmps.getD i undef:=by
 simp only[Wn];by_cases h:i=d
 .subst h;simp[hd]
 .rw[if_neg h,Array.getElem?_setIfInBounds_ne (Xg h)]
theorem In.put{d}(hd:zHa nt d=true)(b:In nt n0 w0 L ι0 H0 B w ι ρ H nx a){w'}{ι'}{H'}{nx'}(c:Step w L ι H nx w' ι' H' nx')(e:nx<=nx'){v}{av}(h:VR w' (Lt L ι' H') ι' v av):In nt n0 w0 L ι0 H0 B w' ι' (upd ρ d av) H' nx' (a.put d v):=by
 cases d with
 |none=>exact⟨b.size,b.defers.step c,b.st.trans c,Wh b.le e,λi=>c.vr (b.kn i)⟩
 |some d=>
  have g:d<a.tmps.size:=by rw[b.size];simpa [zHa]using hd
  refine⟨by simp[Act.put,b.size],b.defers.step c,b.st.trans c,Wh b.le e,λi=>?_⟩;show VR w' (Lt L ι' H') ι' ((a.tmps.setIfInBounds d v).getD i undef) (if i=d then av else ρ i);rw[zA0 g];split
  .exact h
  .exact c.vr (b.kn i)
structure OpRel(P:Program)(nt:Nat)(ops:Array Oper)(o:Oper)(ao:AOper):Prop where
 dst:ao.dst=o.dst
 ok:zHa nt o.dst=true
 guard:match o.guard with
  |none=>ao.guard=none
  |some (j,want)=>∃t,(ops[j]?).bind (·.dst)=some t/\ao.guard=some (t,want)
 op:∃op0,cop P o=some op0/\(ao.op=op0\/(∃f xs,op0=.call f xs/\ao.op=.callq f xs)\/(∃x,op0=.box x/\ao.op=.rbox x)\/(∃s l z ps,op0=.buildSl s l z ps/\ao.op=.rbuildSl s l z ps)\/∃s b x y,op0=.append s b x y/\ao.op=.append2 s b x y)
theorem zFI{ops}{o}{ao}(h:zFa P nt ops o=some ao):OpRel P nt ops o ao:=by
 unfold zFa at h;split at h
 .rename_i hd;split at h
  .rename_i c b;split at h
   .rename_i d;cases h;exact⟨rfl,hd,by rw[d],c,b,.inl rfl⟩
   .rename_i j e d;split at h
    .rename_i t g;cases h;exact⟨rfl,hd,by rw[d];exact⟨t,g,rfl⟩,c,b,.inl rfl⟩
    .cases h
  .cases h
 .cases h
theorem OpRel.quiet{ops}{o}{ao}(h:OpRel P nt ops o ao):OpRel P nt ops o ao.quiet:=by
 unfold AOper.quiet;split
 .rename_i f k b;obtain⟨g,j,d⟩:=h.op;refine⟨h.dst,h.ok,h.guard,g,j,.inr (.inl ⟨f,k,?_,rfl⟩)⟩;rcases d with d|⟨n,m,e,c⟩|⟨x,e,c⟩|⟨_,_,_,_,e,c⟩|⟨_,_,_,_,e,c⟩
  .rw[<-d,b]
  .rw[c]at b;cases b
  .rw[c]at b;cases b
  .rw[c]at b;cases b
  .rw[c]at b;cases b
 .exact h
theorem zEl{ops:Array Oper}{o:Oper}{x:AOper}(h:OpRel P nt ops o x)(z:KOk w M ι a.tmps ρ):
  match x.guard with
  |none=>Xj o (yielded ops a.tmps)=true
  |some (t,g)=>∀r,grd g (ρ t)=some r->Xj o (yielded ops a.tmps)=r:=by
 have k:=h.guard
 cases e:o.guard with
 |none=>rw[e]at k;rw[k];simp[Xj,e]
 |some p=>
  obtain⟨j,g⟩:=p;rw[e]at k;obtain⟨t,y,k⟩:=k;rw[k];intro r n;have m:=z t;cases v:ρ t<;>rw[v]at n<;>try(cases n;done)
  rotate_left
  .rename_i s
   cases s with
   |cons _ _=>cases n
   |nil=>
    cases n;rw[v]at m
    have c:a.tmps.getD t undef=.tuple #[]:=by
     generalize a.tmps.getD t undef=u at m
     cases m with
     |tup _ s _ hs _=>have:s=#[]:=Array.eq_empty_of_size_eq_zero (by simpa using hs);rw[this]
    have d:a.tmps[t]?=some (.tuple #[])\/a.tmps[t]?=none:=by
     rw[Wn]at c
     cases q:a.tmps[t]? with
     |none=>exact .inr rfl
     |some u=>rw[q]at c;simp at c;exact .inl (by rw[c])
    rcases d with d|d<;>simp only[Xj,e,yielded,y,WK,d]<;>rfl
  rename_i b;cases n;rw[v]at m;have c:a.tmps.getD t undef=.bool b:=by generalize a.tmps.getD t undef=u at m;cases m;rfl
  have d:a.tmps[t]?=some (.bool b):=by
   rw[Wn]at c
   cases q:a.tmps[t]? with
   |none=>rw[q]at c;simp[undef]at c
   |some u=>rw[q]at c;simp at c;rw[c]
  simp only[Xj,e,yielded,y,WK,d];cases b<;>cases g<;>rfl
theorem zq6{f}(b:zfd P f=true)(args)(w):(callFunc f args).run P w=.ok (.enter f args) w:=by
 unfold zfd at b;split at b
 ·
  rename_i fn d;simp only[Wg,Wl]at b
  have e:¬fn.body=none:=by intro c;rw[c]at b;simp at b
  have g:¬fn.name="runtime.NumGoroutine":=by intro c;rw[c]at b;simp at b
  simp[callFunc,Xd,d,g,e]
 · cases b
theorem znS{o}{c:Call}{x}{f}{caps}(e:o.op=.call c)(b:c.callee=.value x)(g:a.eval x=.func (.func f) #[] caps)(d:zfd P f=true):
  (execOp a.eval o).run P w=.ok (.enter f (c.args.map a.eval++caps)) w:=by
 simp[execOp,e,resolve,b,g,Deferred.ofValue,Xd,invoke,zq6 d]
theorem zpQ.mono{x}{k k'}(b:∀v H nx,k v H nx->k' v H nx)(h:zpQ x H nx k):zpQ x H nx k':=by
 unfold zpQ at *;split at h
 .split at h
  .split at h
   .exact⟨h.1,λe=>b _ _ _ (h.2.1 e),λe c=>b _ _ _ (h.2.2 e c)⟩
   .exact h
  .exact⟨h.1,b _ _ _ h.2⟩
  .exact h
 .exact h
theorem zcV{fx}{op}{k k'}(j:∀v H nx,k v H nx->k' v H nx)(h:zcK P fx op ρ H nx k):zcK P fx op ρ H nx k':=by
 have c:∀f args,zS P f args H nx (λv m d=>(bif fx then v.wf else True)->k v m d)->zS P f args H nx (λv m d=>(bif fx then v.wf else True)->k' v m d):=by intro f args h w L ι J o q;exact(h w L ι J o q).mono λe N ⟨v,s,m,d,a,u,z,A,C,D⟩=>⟨v,s,m,d,a,u,z,A,C,λI=>j _ _ _ (D I)⟩
 unfold zcK at *
 cases op with
 |call f args=>exact c _ _ h
 |callq f args=>exact let ⟨a,o,q⟩:=h;⟨a,o,j _ _ _ q⟩
 |mnext x=>exact zpQ.mono j h
 |append2 K b x y=>exact zo6.mono j h
 |isnil n p x=>
  simp only at h⊢;split at h
  .exact j _ _ _ h
  .exact λb=>j _ _ _ (h b)
  .exact h
 |callv x args=>
  simp only at h⊢
  cases t:ev ρ x with
  |fn g caps=>rw[t]at h;cases g<;>first|exact⟨h.1,c _ _ h.2⟩|exact h
  |_=>rw[t]at h;exact h
 |_=>exact⟨h.1,λF=>j _ _ _ (h.2 F)⟩
def ExF(P:Program)(fx:Bool)(o:AOper)(ρ:Nat->AV)(H:AH)(nx:Nat)(k:(Nat->AV)->AH->Nat->Prop):Prop :=
 match o.guard with
 |none=>zcK P fx o.op ρ H nx (λv c b=>k (upd ρ o.dst v) c b)
 |
  some (t,want)=>match grd want (ρ t)with
  |some r=>zhj r (zcK P fx o.op ρ H nx (λv c b=>k (upd ρ o.dst v) c b)) (k (upd ρ o.dst (.tup [])) H nx)
  |none=>False
theorem zwa{fx}{o}{K}{k}{k'}(m:∀K H nx,k K H nx->k' K.get H nx)(h:ExK P fx o K H nx k):ExF P fx o K.get H nx k':=by
 have key:zcK P fx o.op K.get H nx (λv g c=>k (setO K o.dst v) g c)->zcK P fx o.op K.get H nx (λv g c=>k' (upd K.get o.dst v) g c) :=
  zcV λv H nx h=>by rw[<-zpm];exact m _ _ _ h
 unfold ExK at h;unfold ExF
 cases j:o.guard with
 |none=>rw[j]at h;exact key h
 |some p=>
  obtain⟨t,d⟩:=p;rw[j]at h;simp only at h⊢
  cases n:grd d (K.get t)with
  |some b=>rw[n]at h;exact⟨λe=>key (h.1 e),λe=>by rw[<-zpm];exact m _ _ _ (h.2 e)⟩
  |none=>rw[n]at h;exact h
theorem zBB{o}{f}{xs}(h:cop P o=some (.call f xs)):∃c,o.op=.call c/\c.callee=.value (.func f)/\c.args.toList.mapM copd=some xs/\zfd P f=true:=by
 replace h:=zmw h (by rintro(⟨_,_,e⟩|⟨_,e⟩|⟨_,_,e⟩)<;>cases e);unfold cop0 at h
 cases g:o.op with
 |call c=>
  rw[g]at h;simp only at h;split at h
  .rename_i b s;exfalso;unfold zfD at h
   (repeat' split at h)<;>first|(cases h;done)|(simp at h;done)|(simp[Wa]at h;done)
  .rename_i q n;split at h
   .rename_i fn k;split at h
    .rename_i d;obtain⟨p,m,j⟩:=Wi.1 h;cases j;refine⟨c,rfl,n,m,?_⟩;simp[zfd,k,d.1,d.2]
    .cases h
   .cases h
  .obtain⟨p,m,j⟩:=Wi.1 h;cases j
  .cases h
 |_=>
  rw[g]at h;simp only at h;exfalso
  (repeat' split at h)<;>first|(cases h;done)|(simp at h;done)|(simp[Wa]at h;done)|(simp only[Wc,Wa]at h;obtain⟨_,_,_,_,_,_,h⟩:=h;split at h<;>simp[Wa]at h;done)
theorem zFX{o}{x}{xs}(h:cop P o=some (.callv x xs)):∃c t,o.op=.call c/\c.callee=.value (.tmp t)/\c.args.toList.mapM copd=some xs/\x=.t t:=by
 replace h:=zmw h (by rintro(⟨_,_,e⟩|⟨_,e⟩|⟨_,_,e⟩)<;>cases e);unfold cop0 at h
 cases d:o.op with
 |call c=>
  rw[d]at h;simp only at h;split at h
  .rename_i b n;exfalso;unfold zfD at h
   (repeat' split at h)<;>first|(cases h;done)|(simp at h;done)|(simp[Wa]at h;done)
  .split at h
   .split at h
    .obtain⟨m,j,g⟩:=Wi.1 h;cases g
    .cases h
   .cases h
  .rename_i t k;obtain⟨m,j,g⟩:=Wi.1 h;cases g;exact⟨c,t,rfl,k,j,rfl⟩
  .cases h
 |_=>
  rw[d]at h;simp only at h;exfalso
  (repeat' split at h)<;>first|(cases h;done)|(simp at h;done)|(simp[Wa]at h;done)|(simp only[Wc,Wa]at h;obtain⟨_,_,_,_,_,_,h⟩:=h;split at h<;>simp[Wa]at h;done)
theorem zFf{o}{f}{xs}(h:cop P o=some (.callq f xs)):False:=by
 replace h:=zmw h (by rintro(⟨_,_,e⟩|⟨_,e⟩|⟨_,_,e⟩)<;>cases e);unfold cop0 at h
 cases b:o.op with
 |call c=>
  rw[b]at h;simp only at h;split at h
  .unfold zfD at h
   (repeat' split at h)<;>first|(cases h;done)|(simp at h;done)|(simp[Wa]at h;done)
  ·(repeat' split at h)<;>first|(cases h;done)|(simp at h;done)
  .simp at h
  .cases h
 |_=>
  rw[b]at h;simp only at h
  (repeat' split at h)<;>first|(cases h;done)|(simp at h;done)|(simp[Wa]at h;done)|(simp only[Wc,Wa]at h;obtain⟨_,_,_,_,_,_,h⟩:=h;split at h<;>simp[Wa]at h;done)
theorem zzE{o}{s b}{x y}(h:cop P o=some (.append2 s b x y)):False:=by
 replace h:=zmw h (by rintro(⟨_,_,e⟩|⟨_,e⟩|⟨_,_,e⟩)<;>cases e);unfold cop0 at h
 cases d:o.op with
 |call c=>
  rw[d]at h;simp only at h;split at h
  .unfold zfD at h
   (repeat' split at h)<;>first|(cases h;done)|(simp at h;done)|(simp[Wa]at h;done)
  ·(repeat' split at h)<;>first|(cases h;done)|(simp at h;done)
  .simp at h
  .cases h
 |_=>
  rw[d]at h;simp only at h
  (repeat' split at h)<;>first|(cases h;done)|(simp at h;done)|(simp[Wa]at h;done)|(simp only[Wc,Wa]at h;obtain⟨_,_,_,_,_,_,h⟩:=h;split at h<;>simp[Wa]at h;done)
theorem zCB{o}{s b}{x y}(h:cop P o=some (.append s b x y)):∃c t u g j e k i z,o.op=.call c/\c.callee=.builtin .append/\c.argTypes=#[t,u]/\c.args=#[g,j] /\
  P.underlying t=some (.slice e)/\P.underlying u=some (.slice k)/\P.info? e=some i/\zhC P e=some z/\s=i.size/\b=i.bytes/\0<i.size/\0<i.bytes/\copd g=some x/\copd j=some y:=by
 replace h:=zmw h (by rintro(⟨_,_,e⟩|⟨_,e⟩|⟨_,_,e⟩)<;>cases e);unfold cop0 at h
 cases d:o.op with
 |call c=>
  rw[d]at h;simp only at h;split at h
  .rename_i O C;unfold zfD at h;split at h
   .exfalso
    (repeat' split at h)<;>first|(cases h;done)|(simp at h;done)|(simp[Wa]at h;done)
   .rename_i t u g j I K;have m:c.argTypes=#[t,u]:=by rw[<-WL (xs:=c.argTypes),I]
    have n:c.args=#[g,j]:=by rw[<-WL (xs:=c.args),K]
    split at h
    .rename_i e k J p;split at h
     .rename_i i z F N;split at h
      .rename_i A;simp only[Wc,Wa,We]at h;obtain⟨Q,q,R,v,D⟩:=h;cases D;exact⟨c,t,u,g,j,e,k,i,z,rfl,C,m,n,J,p,F,N,rfl,rfl,A.2.1,A.2.2,q,v⟩
      .cases h
     .cases h
    .cases h
   .exfalso
    (repeat' split at h)<;>first|(cases h;done)|(simp at h;done)|(simp[Wa]at h;done)
   .cases h
  .exfalso
   (repeat' split at h)<;>first|(cases h;done)|(simp at h;done)
  .exfalso;simp at h
  .cases h
 |_=>
  rw[d]at h;exfalso;simp only at h
  (repeat' split at h)<;>first|(cases h;done)|(simp at h;done)|(simp[Wa]at h;done)|(simp only[Wc,Wa]at h;obtain⟨_,_,_,_,_,_,h⟩:=h;split at h<;>simp[Wa]at h;done)
theorem zFr{o}{neg p}{x}(h:cop P o=some (.isnil neg p x)):∃t n q,o.op=.binOp (bif neg then .neq else .eql) t n (.const (bif p then .pointer none else .slice none 0 0)) q/\copd n=some x /\
  ∃d,P.underlying t=some d/\(bif p then ∃e,d=.pointer e else ∃e,d=.slice e):=by
 replace h:=zmw h (by rintro(⟨_,_,e⟩|⟨_,e⟩|⟨_,_,e⟩)<;>cases e);unfold cop0 at h
 cases g:o.op with
 |call c=>
  rw[g]at h;simp only at h;split at h
  .unfold zfD at h
   (repeat' split at h)<;>first|(cases h;done)|(simp at h;done)|(simp[Wa]at h;done)
  ·(repeat' split at h)<;>first|(cases h;done)|(simp at h;done)
  .simp at h
  .cases h
 |binOp op t a b q=>
  rw[g]at h;simp only at h;split at h
  .simp[Wa]at h
  ·(repeat' split at h)<;>first|(cases h;done)|(simp[Wa]at h;done)
  .rename_i e k;split at h
   .split at h<;>first|(cases h;done)|skip
    all_goals
     obtain⟨s,m,j⟩:=Wi.1 h;cases j;exact⟨_,_,_,rfl,m,_,k,_,rfl⟩
   .cases h
  .rename_i e k;split at h
   .split at h<;>first|(cases h;done)|skip
    all_goals
     obtain⟨s,m,j⟩:=Wi.1 h;cases j;exact⟨_,_,_,rfl,m,_,k,_,rfl⟩
   .cases h
  .cases h
 |_=>
  rw[g]at h;simp only at h;exfalso
  (repeat' split at h)<;>first|(cases h;done)|(simp at h;done)|(simp[Wa]at h;done)|(simp only[Wc,Wa]at h;obtain⟨_,_,_,_,_,_,h⟩:=h;split at h<;>simp[Wa]at h;done)
theorem zvB{t}{d:TypeDesc}{p}(z:P.underlying t=some d)(hd:bif p then ∃e,d=.pointer e else ∃e,d=.slice e){v}{a}(y:VR w M ι v a){r}(o:nilB p a=some r):
  ∃b,(∀c,r=some c->b=c)/\(Op.equal t v (bif p then .pointer none else .slice none 0 0)).run P w=.ok b w/\(∀k n,v≠.int k n)/\(∀s,v≠.string s)/\(∀k n,v≠.float k n)/\(∀k n m,v≠.complex k n m)/\v≠.nilIface/\(∀c,v≠.agg c):=by
 cases p with
 |false=>
  obtain⟨e,rfl⟩:=hd;have key:∀(x:Option Addr)(n c:Nat),(Op.equal t (.slice x n c) (.slice none 0 0)).run P w=.ok x.isNone w:=by intro x n c;show(Op.equalIn (Op.maxDepth-1+1) t _ _).run P w=_;cases x<;>simp only[Op.equalIn,Xd,run_underlying z,Xk]<;>rfl
  cases y<;>first|(cases o;done)|skip
  case sl=>rename_i a K n cap f V C I j F y;exact⟨false,λc j=>by subst j;cases n with|zero=>cases o|succ n=>cases o;rfl,key _ _ _,by simp⟩
  case sl0=>exact⟨true,λc j=>by subst j;simp[nilB]at o,key _ _ _,by simp⟩
  case nilsl=>exact⟨true,λc j=>by subst j;cases o;rfl,key _ _ _,by simp⟩
  case cut=>rename_i a;exact⟨_,λc j=>by subst j;simp[nilB]at o,key a _ _,by simp⟩
  case own=>
   rename_i r q g off n a c l J C j A h;refine⟨_,λD u=>?_,key a _ _,by simp⟩;subst u
   cases n with
   |zero=>simp[nilB]at o
   |succ n=>cases o;rw[A (by omega)];rfl
 |true=>
  obtain⟨e,rfl⟩:=hd;have key:∀(x:Option Addr),(Op.equal t (.pointer x) (.pointer none)).run P w=.ok x.isNone w:=by intro x;show(Op.equalIn (Op.maxDepth-1+1) t _ _).run P w=_;cases x<;>simp only[Op.equalIn,Xd,run_underlying z,Xk]<;>rfl
  cases y<;>first|(cases o;done)|skip
  case nilp=>exact⟨true,λc j=>by subst j;cases o;rfl,key _,by simp⟩
  case ptr=>exact⟨false,λc j=>by subst j;cases o;rfl,key _,by simp⟩
  case iptr=>exact⟨false,λc j=>by subst j;cases o;rfl,key _,by simp⟩
theorem zJJ{o}{x}(h:cop P o=some (.box x)):∃e d,o.op=.box e d/\copd d=some x:=by
 replace h:=zmw h (by rintro(⟨_,_,e⟩|⟨_,e⟩|⟨_,_,e⟩)<;>cases e);unfold cop0 at h
 cases b:o.op with
 |box e d=>rw[b]at h;obtain⟨k,j,g⟩:=Wi.1 h;cases g;exact⟨e,d,rfl,j⟩
 |call c=>
  rw[b]at h;exfalso;simp only[zfD]at h
  (repeat' split at h)<;>first|(cases h;done)|(simp at h;done)|(simp[Wa]at h;done)
 |_=>
  rw[b]at h;exfalso;simp only at h
  (repeat' split at h)<;>first|(cases h;done)|(simp at h;done)|(simp[Wa]at h;done)|(simp only[Wc,Wa]at h;obtain⟨_,_,_,_,_,_,h⟩:=h;split at h<;>simp[Wa]at h;done)
theorem zGd{xv}{x}{ty}{k}(rel:RelH w L ι H nx)(hx:VR w (Lt L ι H) ι xv x)(h:zpQ x H nx k):
  ∃v w' ι' a H',(Instr.next xv false ty).run P w=.ok v w'/\Step w L ι H nx w' ι' H' nx/\VR w' (Lt L ι' H') ι' v a/\k a H' nx:=by
 have Y:∀(w:World)(M:Nat->Prop)(ι:Inj),VR w M ι (.tuple #[.bool false]) (.tup [.bool false]):=λw M ι=>.tup _ _ _ rfl (λi v a z R=>by
  match i with
  |0=>cases z;cases R;exact .bool _ _
  |i+1=>cases R)
 cases hx with
 |it _ r l hl t=>
  unfold zpQ at h;simp only at h;split at h
  .rename_i sz rm qm Q st seen g hg;split at h
   .rename_i sz2 c u u' V g2 hg2;obtain⟨⟨rfl,rfl,rfl,rfl,hst,C,hseen⟩,hnone,hsome⟩:=h;obtain⟨l',J,y⟩:=rel.row _ _ _ _ _ hg;rw[hl]at J;cases J;have t:=y.noBox (by simp) t;obtain⟨m,sn,A,stp,hb,O,hh⟩:=y.iter t;obtain⟨v0,e0,r0⟩:=hh 0 (.mp rm qm) rfl;cases e0
    cases r0 with
    |mp _ _ _ lm hlm hcm=>
     obtain⟨v1,e1,r1⟩:=hh 1 (.int .i64 Q) rfl;cases e1;have hsi:Q=(sn:Int):=by cases r1;rfl
     subst hsi;obtain⟨v2,e2,r2⟩:=hh 2 (.int .i64 st) rfl;cases e2;have hsi:st=(stp:Int):=by cases r2;rfl
     subst hsi;obtain⟨l'',W,okm⟩:=rel.row _ _ _ _ _ hg2;rw[hlm]at W;cases W;obtain⟨T,clock,hbm,hszm,D⟩:=okm.map hcm;have hms:T.size=V.length:=by simpa using hszm
     have hc:c=(clock:Int):=by obtain⟨v3,U,r3⟩:=D 0 0 _ _ rfl rfl;cases U;cases r3;rfl
     subst hc;have hcr:InR .i64 (clock:Int):=by obtain⟨v3,U,r3⟩:=D 0 0 _ _ rfl rfl;cases U;cases r3;assumption
     have K:∀(i:Nat)(e:MapEntry)(cs:List AV),T[i]?=some e->V[i]?=some cs->∃(X Z:AV) (b:Nat),cs=[X,Z,.int .i64 (b:Int)]/\e.born=b/\VR w (Lt L ι H) ι e.key X/\VR w (Lt L ι H) ι e.val Z/\InR .i64 (b:Int):=by
      intro i e cs he n;have hwid:=okm.wide (i+1) cs (by simpa using n)
      obtain⟨X,Z,bb,rfl⟩:∃a b c,cs=[a,b,c]:=by
       match cs,hwid with
       |[a,b,c],_=>exact⟨a,b,c,rfl⟩
      obtain⟨b,p,_⟩:=C _ (Wk n);simp only[Wq,Wr]at p;subst p;obtain⟨f1,f2,f3⟩:=zdd (clock:=clock) he;obtain⟨w1,g1,q1⟩:=D (i+1) 0 _ X (by simpa using n) rfl;obtain⟨w2,g2,q2⟩:=D (i+1) 1 _ Z (by simpa using n) rfl;obtain⟨w3,g3,q3⟩:=D (i+1) 2 _ _ (by simpa using n) rfl;rw[f1]at g1;cases g1;rw[f2]at g2;cases g2;rw[f3]at g3;cases g3
      cases q3 with
      |int _ _ _ hr=>exact⟨X,Z,e.born,rfl,rfl,q1,q2,hr⟩
     have hsv:∀(i:Nat)(b:Nat),A[i]?=some b->seen[i]?=some [.int .i64 (b:Int)]:=by
      intro i b d;have j:i<seen.length:=by have:=(Wv.1 d).1;simp at O;omega
      obtain⟨b',hb'⟩:=hseen _ (WB j);obtain⟨v3,U,r3⟩:=hh (i+3) (.int .i64 b') (by simp[Wd j,hb']);rw[zqY d]at U;cases U;rw[Wd j,hb'];cases r3;rfl
     have hin:∀b:Nat,zEz (.int .i64 (b:Int)) seen=A.contains b:=by
      intro b;rw[Bool.eq_iff_iff,Array.contains_iff_mem];unfold zEz;rw[List.any_eq_true];constructor
      .rintro⟨s,hs,hd⟩;obtain⟨i,d,o⟩:=WC hs;have j:i<A.size:=by simp at O;omega
       have z:=hsv i _ (Wo j);rw[Wd d,o]at z;cases z;simp only[decide_eq_true_eq]at hd;have:A[i]=b:=by omega
       rw[<-this];exact WM j
      .intro hm;obtain⟨i,d,o⟩:=WN hm;have z:=hsv i _ (Wo d);rw[o]at z;exact⟨_,Wk z,by simp⟩
     have hold:∀x∈T.toList,x.born<sn:=by
      intro x hx;obtain⟨i,d,o⟩:=WC hx;have F:i<V.length:=by simp at d;omega
      have hxi:T[i]?=some x:=by rw[<-Array.getElem?_toList,Wd d,o]
      obtain⟨X,Z,b,n,p,_⟩:=K i x _ hxi (Wd F);obtain⟨b',hb2,hb3⟩:=C _ (WB F);rw[n]at hb2;simp only[Wq,Wr]at hb2;cases hb2;omega
     rcases Go.run_next_at (P:=P) w ty l.block lm.block sn stp A T clock hb hbm hold (by omega)with ⟨hz,N⟩|⟨e,hmem,w1,hw1,N⟩
     .refine⟨_,w,ι,.tup [.bool false],H,?_,.refl rel,Y _ _ _,hnone ?_⟩
      .exact N
      .rw[WO];intro cs n;unfold zFw at n;obtain⟨z,R⟩:=Wp.1 n;obtain⟨i,d,o⟩:=WC z;have j:i<T.size:=by omega
       obtain⟨X,Z,b,S,p,_⟩:=K i _ _ (Wo j) (by rw[Wd d,o]);subst S;simp only[Wq,Wr,hin,Wl]at R;have hm:T[i]∈leftOf T A:=by unfold leftOf;rw[WP];exact⟨WM j,by rw[p,R];rfl⟩
       have:=Array.size_pos_of_mem hm;omega
     .have hm0:e∈leftOf T A:=by simpa using hmem
      unfold leftOf at hm0;rw[WP]at hm0;obtain⟨hm1,hm2⟩:=hm0;obtain⟨i,d,o⟩:=WN hm1;have F:i<V.length:=by omega
      have hei:V[i]?=some V[i]:=Wd F;obtain⟨X,Z,b,S,p,hk1,hv1,hbr⟩:=K i e _ (by rw[Wo d,o]) hei;have hleft:V[i]∈zFw seen V:=by unfold zFw;rw[Wp];refine⟨WB F,?_⟩;rw[S];simp only[Wq,Wr,hin];rw[<-p];exact hm2
      have hk:=hsome _ hleft;rw[S]at hk;simp only[Wq,Wr]at hk
      have st:=Step.itset (seen':=A.push e.born) (st':=clock) (els':=[.mp rm qm]::[.int .i64 (sn:Int)]::[.int .i64 (clock:Int)]::(seen++[[.int .i64 (b:Int)]])) rel hw1 hg hl t y hb (by simp at O⊢;omega) (λi c d=>by
       match i with
       |0=>cases d;rfl
       |1=>cases d;rfl
       |2=>cases d;rfl
       |i+3=>
        simp only[WD]at d;by_cases j:i<seen.length
        .rw[WQ j]at d;exact y.wide (i+3) c (by simpa using d)
        .rw[WR (by omega)]at d
         cases I:i-seen.length with
         |zero=>rw[I]at d;cases d;rfl
         |succ q=>rw[I]at d;cases d) (λi a d=>by
       match i with
       |0=>cases d;exact⟨_,rfl,.mp _ _ _ _ hlm hcm⟩
       |1=>cases d;exact⟨_,rfl,r1⟩
       |2=>cases d;exact⟨_,rfl,.int _ _ _ hcr⟩
       |i+3=>
        simp only[WD]at d;have hsl:A.size=seen.length:=by simp at O;omega
        by_cases j:i<seen.length
        .rw[WQ j]at d;obtain⟨v3,U,r3⟩:=hh (i+3) a (by simpa using d);refine⟨v3,?_,r3⟩;rw[<-U];exact zy0 (by rw[Array.getElem?_push,if_neg (show i≠A.size by omega)])
        .rw[WR (by omega)]at d
         cases I:i-seen.length with
         |succ q=>rw[I]at d;cases d
         |zero=>
          rw[I]at d;cases d;have hlt2:i=A.size:=by omega
          subst hlt2;refine⟨.int .i64 (e.born:Int),?_,?_⟩
          .exact zqY (by simp)
          .rw[p]
           exact .int _ _ _ hbr)
      refine⟨_,_,_,_,_,N,st,?_,hk⟩;refine .tup _ _ _ rfl (λi v a z R=>?_)
      match i with
      |0=>cases z;cases R;exact .bool _ _
      |1=>cases z;cases R;exact st.vr hk1
      |2=>cases z;cases R;exact st.vr hv1
      |i+3=>cases R
   .exact h.elim
  .rename_i sz seen g hg;obtain⟨⟨rfl,rfl⟩,hk⟩:=h;obtain⟨l',J,y⟩:=rel.row _ _ _ _ _ hg;rw[hl]at J;cases J;obtain⟨m,sn,A,stp,hb,O,hh⟩:=y.iter (y.noBox (by simp) t);obtain⟨v0,e0,r0⟩:=hh 0 .nilmp rfl;cases e0;cases r0;refine⟨_,w,ι,.tup [.bool false],H,?_,.refl rel,Y _ _ _,hk⟩;simp[Instr.next,getObj,Xd,Xq,hb,Result.andThen]
  .exact h.elim
 |_=>exact h.elim
theorem OpRel.ro{ops}{o}{ao}{l}(h:OpRel P nt ops o ao):OpRel P nt ops o (ao.ro l):=by
 unfold AOper.ro;split
 .rename_i x d c hd
  cases s:memN l d with
  |false=>exact h
  |true=>
   obtain⟨k,m,g⟩:=h.op;refine⟨h.dst,h.ok,h.guard,k,m,.inr (.inr (.inl ⟨x,?_,rfl⟩))⟩;rcases g with g|⟨q,n,j,e⟩|⟨t,j,e⟩|⟨_,_,_,_,j,e⟩|⟨_,_,_,_,j,e⟩
   .rw[<-g,c]
   .rw[e]at c;cases c
   .rw[e]at c;cases c
   .rw[e]at c;cases c
   .rw[e]at c;cases c
 .rename_i p len z u d c hd
  cases s:memN l d with
  |false=>exact h
  |true=>
   obtain⟨k,m,g⟩:=h.op;refine⟨h.dst,h.ok,h.guard,k,m,.inr (.inr (.inr (.inl ⟨p,len,z,u,?_,rfl⟩)))⟩;rcases g with g|⟨q,n,j,e⟩|⟨t,j,e⟩|⟨_,_,_,_,j,e⟩|⟨_,_,_,_,j,e⟩
   .rw[<-g,c]
   .rw[e]at c;cases c
   .rw[e]at c;cases c
   .rw[e]at c;cases c
   .rw[e]at c;cases c
 .rename_i p b x y d c hd
  cases s:memN l (d+1000)with
  |false=>exact h
  |true=>
   obtain⟨k,m,g⟩:=h.op;refine⟨h.dst,h.ok,h.guard,k,m,.inr (.inr (.inr (.inr ⟨p,b,x,y,?_,rfl⟩)))⟩;rcases g with g|⟨q,n,j,e⟩|⟨t,j,e⟩|⟨_,_,_,_,j,e⟩|⟨_,_,_,_,j,e⟩
   .rw[<-g,c]
   .rw[e]at c;cases c
   .rw[e]at c;cases c
   .rw[e]at c;cases c
   .rw[e]at c;cases c
 .exact h
theorem zza{o}{sz len}{z}{ps}(h:cop P o=some (.buildSl sz len z ps)):
  ∃t parts e i,o.op=.buildSlice t len parts/\P.underlying t=some (.slice e)/\P.info? e=some i/\zhC P e=some z/\len*i.size<=16777216/\0<i.size/\sz=i.size/\(parts.toList.mapM λp=>do some (p.1,(<-copd p.2)))=some ps:=by
 replace h:=zmw h (by rintro(⟨_,_,e⟩|⟨_,e⟩|⟨_,_,e⟩)<;>cases e);unfold cop0 at h
 cases b:o.op with
 |buildSlice t l parts=>
  rw[b]at h;simp only at h;split at h
  .rename_i e m;split at h
   .rename_i i s k n;split at h
    .rename_i g;simp only[Wc,Wa,We]at h;obtain⟨q,d,j⟩:=h;cases j;exact⟨t,parts,e,i,rfl,m,k,n,g.1,g.2,rfl,by simpa using d⟩
    .cases h
   .cases h
  .cases h
 |call c=>
  rw[b]at h;exfalso;simp only[zfD]at h
  (repeat' split at h)<;>first|(cases h;done)|(simp at h;done)|(simp[Wa]at h;done)
 |_=>
  rw[b]at h;exfalso;simp only at h
  (repeat' split at h)<;>first|(cases h;done)|(simp at h;done)|(simp[Wa]at h;done)|(simp only[Wc,Wa]at h;obtain⟨_,_,_,_,_,_,h⟩:=h;split at h<;>simp[Wa]at h;done)
theorem zEq{o}{x}(h:cop P o=some (.mnext x)):∃e,o.op=.next e false/\copd e=some x:=by
 unfold cop at h;split at h
 .rename_i a0 b;cases h;exfalso;unfold cop0 at b
  cases d:o.op with
  |call c=>
   rw[d]at b;simp only[zfD]at b
   (repeat' split at b)<;>first|(cases b;done)|(simp at b;done)|(simp[Wa]at b;done)
  |_=>
   rw[d]at b;simp only at b
   (repeat' split at b)<;>first|(cases b;done)|(simp at b;done)|(simp[Wa]at b;done)|(simp only[Wc,Wa]at b;obtain⟨_,_,_,_,_,_,b⟩:=b;split at b<;>simp[Wa]at b;done)
 .split at h
  .cases h
  .unfold cyop at h;split at h
   rotate_left
   .cases h
   rename_i n g;cases h;replace h:=g;unfold zDq at h
   cases d:o.op with
   |next y s=>
    rw[d]at h;simp only at h;split at h
    .rename_i k;subst k;obtain⟨p,m,j⟩:=Wi.1 h;cases j;exact⟨y,rfl,m⟩
    .cases h
   |_=>
    rw[d]at h;exfalso;simp only at h
    (repeat' split at h)<;>first|(cases h;done)|(simp at h;done)|(simp[Wa]at h;done)
theorem zp0{fx:Bool}{ops:Array Oper}{o:Oper}{ao:AOper}(J:OpRel P nt ops o ao)(m:In nt n0 w0 L ι0 H0 B w ι ρ H nx a){k:(Nat->AV)->AH->Nat->Prop}(F:ExF P fx ao ρ H nx k){Kc:Act->World->Prop}{Qc:Exit->Act->World->Prop}(hk:∀Z X ρ' H' I a',In nt n0 w0 L ι0 H0 B Z X ρ' H' I a'->k ρ' H' I->Kc a' Z) :
  if Xj o (yielded ops a.tmps)then o.wp P a w Kc Qc else Kc (a.put o.dst undef) w:=by
 have C:=m.st.rel
 have skip:k (upd ρ ao.dst (.tup [])) H nx->Kc (a.put o.dst undef) w:=λh=>
  hk _ _ _ _ _ _ (m.put J.ok (.refl C) (Wf _) (VR.tup _ #[] [] rfl (λi v a h=>by simp at h))) (by rw[<-J.dst];exact h)
 have Y:∀(c:Call)(x:Operand)(f:FuncId)(T:Array Value)(args caps:List AV),o.op=.call c->c.callee=.value x->a.eval x=.func (.func f) #[] T->zfd P f=true ->
   VRs w (Lt L ι H) ι (c.args.toList.map a.eval) args->VRs w (Lt L ι H) ι T.toList caps->zS P f (args++caps) H nx (λv H' I=>(bif fx then v.wf else True)->k (upd ρ ao.dst v) H' I)->o.wp P a w Kc Qc:=by
  intro c x f T args caps ho hc hx hf U hcaps D;unfold Xf;rw[znS ho hc hx hf];simp only[Xm];refine(D w L ι _ C (by simpa using U.append hcaps)).mono λe Z ⟨v,X,H',I,av,he,K,Q,S,h4⟩=>?_
  subst he;refine hk _ _ _ _ _ _ (m.put J.ok K Q S) ?_;rw[<-J.dst];refine h4 ?_;cases fx
  .trivial
  .exact S.wf
 have callFix:∀(c:Call)(f:FuncId)(args:List AV)(av:AV),o.op=.call c->c.callee=.value (.func f)->zfd P f=true ->
   VRs w (Lt L ι H) ι (c.args.toList.map a.eval) args->zdx P f args H nx av->k (upd ρ ao.dst av) H nx->o.wp P a w Kc Qc:=by
  intro c f args av ho hc hf U D hkk;unfold Xf;rw[znS (caps:=#[]) ho hc rfl hf];simp only[Xm];refine(D w L ι _ C (by simpa using U)).mono λe Z ⟨v,he,K,S⟩=>?_
  subst he;exact hk _ _ _ _ _ _ (m.put J.ok K (Wf _) S) (by rw[<-J.dst];exact hkk)
 have body:zcK P fx ao.op ρ H nx (λv H' I=>k (upd ρ ao.dst v) H' I)->o.wp P a w Kc Qc:=by
  intro j;obtain⟨op0,q,V⟩:=J.op;rcases V with V|⟨f,xs,rfl,K⟩|⟨x,rfl,K⟩|⟨sz,len,z,ps,rfl,K⟩|⟨sz,b,x,y,rfl,K⟩
  .rw[<-V]at q
   have plain:ao.op.isCall=false->znW fx (aop ao.op ρ H nx) (λv H' I=>k (upd ρ ao.dst v) H' I)->o.wp P a w Kc Qc:=by
    intro D ⟨hs,hf⟩;obtain⟨n,v,Z,X,s,hn,O,R,W,_⟩:=cop_ok q D C m.kn hs;unfold Xf;rw[s];have hfin:=hk _ _ _ _ _ _ (m.put J.ok O (zE2 _ _) R) (by rw[<-J.dst];exact hf (by cases fx;trivial;exact W));rcases hn with rfl|⟨rfl,rfl⟩
    .exact hfin
    .exact hfin
   unfold zcK at j
   cases N:ao.op with
   |call f xs=>rw[N]at j q;obtain⟨c,K,Q,S,h4⟩:=zBB q;exact Y c _ f #[] (evs ρ xs) [] K Q rfl h4 (zpd m.kn S) .nil (by simpa using j)
   |callq f xs=>rw[N]at q;exact(zFf q).elim
   |append2 sz b x y=>rw[N]at q;exact(zzE q).elim
   |mnext x=>
    rw[N]at j q;obtain⟨xo,K,Q⟩:=zEq q;obtain⟨v,Z,X,av,H',s,O,R,hkk⟩:=zGd (P:=P) (ty:=o.type) C (zt m.kn Q) j;unfold Xf;have A:(execOp a.eval o).run P w=.ok (.value v) Z:=by unfold execOp;rw[K];exact zGh s
    rw[A];exact hk _ _ _ _ _ _ (m.put J.ok O (Wf _) R) (by rw[<-J.dst];exact hkk)
   |isnil neg p x=>
    rw[N]at j q;obtain⟨t,xo,yt,K,Q,d,S,h4⟩:=zFr q;simp only at j
    cases hn:nilB p (ev ρ x)with
    |none=>rw[hn]at j;exact j.elim
    |some r=>
     obtain⟨b,h5,h6,h7⟩:=zvB S h4 (zt m.kn Q) hn
     have s:(execOp a.eval o).run P w=.ok (.value (.bool (b != neg))) w:=by
      simp only[execOp,K];have hy:a.eval (.const (bif p then .pointer none else .slice none 0 0))=(bif p then .pointer none else .slice none 0 0):=rfl;rw[hy];generalize a.eval xo=v at h6 h7;obtain⟨i1,i2,i3,i4,i5,i6⟩:=h7
      cases neg<;>cases p<;>cases v<;>first
       |exact absurd rfl (i1 _ _)
       |exact absurd rfl (i2 _)
       |exact absurd rfl (i3 _ _)
       |exact absurd rfl (i4 _ _ _)
       |exact absurd rfl i5
       |exact absurd rfl (i6 _)
       |(
         simp only[cond_true,cond_false]at h6
         simp[Xd,eqGuard,binOp,h6])
     unfold Xf;rw[s];refine hk _ _ _ _ _ _ (m.put J.ok (.refl C) (Wf _) (.bool _ (b != neg))) ?_;rw[<-J.dst];rw[hn]at j
     cases r with
     |none=>exact j (b != neg)
     |some c=>rw[h5 c rfl];exact j
   |callv x xs=>
    rw[N]at j q;obtain⟨c,t,K,Q,S,rfl⟩:=zFX q;simp only[ev]at j
    cases hx:ρ t with
    |fn g caps=>
     rw[hx]at j
     cases g with
     |func f=>
      have R:=m.kn t;rw[hx]at R;generalize hu:a.tmps.getD t undef=u at R
      cases R with
      |fn _ _ cs _ hs hvv=>exact Y c _ f cs (evs ρ xs) caps K Q hu j.1 (zpd m.kn S) (.ofGet _ _ (by simpa using hs) (λi v b h5 h6=>hvv i v b (by simpa using h5) h6)) j.2
     |_=>exact j.elim
    |_=>rw[hx]at j;exact j.elim
   |_=>rw[N]at j;exact plain (by rw[N];rfl) (by rw[N];exact j)
  .unfold zcK at j;rw[K]at j;obtain⟨c,Q,S,h4,h5⟩:=zBB q;obtain⟨av,h6,h7⟩:=j;exact callFix c f _ av Q S h5 (zpd m.kn h4) h6 h7
  .unfold zcK at j;rw[K]at j;obtain⟨hs,hf⟩:=j;obtain⟨e,xo,Q,S⟩:=zJJ q;obtain⟨v,Z,X,s,O,R,W⟩:=zG3 (P:=P) (e:=e) C (zt m.kn S) hs;unfold Xf;have A:(execOp a.eval o).run P w=.ok (.value v) Z:=by unfold execOp;rw[Q];exact zGh s
   rw[A];exact hk _ _ _ _ _ _ (m.put J.ok O (zE2 (.rbox x) _) R) (by rw[<-J.dst];exact hf (by cases fx<;>trivial))
  .unfold zcK at j;rw[K]at j;obtain⟨hs,hf⟩:=j;obtain⟨t,parts,e,i,Q,hu,hi,hz,hb,hpos,rfl,hps⟩:=zza q;have hel:=ziD m.kn (by simpa using hps);have hmap:(parts.map λ(p:Nat×Operand)=>(p.1,a.eval p.2)).toList=parts.toList.map λp=>(p.1,a.eval p.2):=by simp
   obtain⟨v,Z,X,s,O,R,W⟩:=zw1 (P:=P) (parts:=parts.map λ(p:Nat×Operand)=>(p.1,a.eval p.2)) C hu hi hz hb hpos (by rw[hmap];exact hel) hs;unfold Xf;have A:(execOp a.eval o).run P w=.ok (.value v) Z:=by unfold execOp;rw[Q];exact zGh s
   rw[A];exact hk _ _ _ _ _ _ (m.put J.ok O (zE2 (.rbuildSl i.size len z ps) _) R) (by rw[<-J.dst];exact hf (by cases fx<;>trivial))
  .unfold zcK at j;rw[K]at j;obtain⟨c,t,u,xo,yo,e,e',i,z,Q,S,h4,h5,hu,hu',hi,hz,rfl,rfl,hpos,hby,hx,hy⟩:=zCB q;obtain⟨v,Z,X,av,H',I,s,O,hle,R,hkk⟩:=zLk (P:=P) (ty:=o.type) C hu hu' hi hz hpos hby (zt m.kn hx) (zt m.kn hy) j;unfold Xf;have A:(execOp a.eval o).run P w=.ok (.value v) Z:=by unfold execOp;rw[Q];simp[resolve,S,h4,h5,invoke,builtin,s]
   rw[A];exact hk _ _ _ _ _ _ (m.put J.ok O hle R) (by rw[<-J.dst];exact hkk)
 have hw:=zEl J m.kn;unfold ExF at F
 cases hg:ao.guard with
 |none=>rw[hg]at F hw;rw[if_pos hw];exact body F
 |some p=>
  obtain⟨t,want⟩:=p;rw[hg]at F hw;simp only at F hw
  cases R:grd want (ρ t)with
  |some r=>
   rw[R]at F;simp only at F;rw[hw r R]
   cases r with
   |true=>rw[if_pos rfl];exact body (F.1 rfl)
   |false=>rw[if_neg (by simp)];exact skip (F.2 rfl)
  |none=>rw[R]at F;exact F.elim
end
def zgG(F:Fence):Prop:=F=Xe\/∃l,F=Fence.wide.inRound l
theorem zgG.fn{F:Fence}(h:zgG F)(f):F.fn f:=by rcases h with rfl|⟨l,rfl⟩<;>trivial
theorem zgG.depth{F:Fence}(h:zgG F):F.depth.isSome=true->False:=by rcases h with rfl|⟨l,rfl⟩<;>(intro h;cases h)
theorem zgG.calls{F:Fence}(h:zgG F){n}{P}{f}{args}{w}{R:Ending->World->Prop}(b:Calls P f args w R):CallsIn F n P f args w R:=by
 rcases h with rfl|⟨l,rfl⟩
 .exact callsIn_wide.2 b
 .exact CallsIn.inRound l (callsIn_wide.2 b)
theorem zgG.rows{F:Fence}(h:zgG F){n}{P}{row}{args}{w}{R}(e:Rows P row args w R):RowsIn F n P row args w R:=by
 rcases h with rfl|⟨l,rfl⟩
 .exact λc b _=>let ⟨v,d,r,s⟩:=e c b;⟨v,d,r,stepsIn_wide.2 s⟩
 .exact λc b _=>let ⟨v,d,r,s⟩:=e c b;⟨v,d,r,(stepsIn_wide (P:=P)).2 s⟩
theorem zD4{F:Fence}(b:zgG F){n:Nat}{P:Program}{o:Oper}{a:Act}{w:World}{next:Act->World->Prop}{Q:Exit->Act->World->Prop}(hd:F=Xe\/∀c,o.op≠.defer c)(h:o.wp P a w next Q):o.wpIn F n P a w next Q:=by
 refine⟨λf _=>b.fn f,?_⟩
 have d:o.semAt F.round a.eval=execOp a.eval o:=by
  rcases hd with rfl|hd
  .rfl
  .exact Oper.semAt_eq _ _ _ hd
 rw[d];unfold Xf at h;generalize (execOp a.eval o).run P w=r at h⊢;unfold Xm at h;unfold Oper.uponIn;split at h
 .exact h
 .exact h
 .exact h
 .exact⟨λh=>(b.depth h).elim,b.calls h⟩
 .exact⟨λh=>(b.depth h).elim,b.rows h⟩
 .exact h
 .exact h.elim
theorem zy6{F:Fence}(b:zgG F){n}{P}{ops}{Q:Exit->Act->World->Prop}(d:¬LetsOut Q):
  ∀(l:List Oper)(a:Act)(w:World),(∀o∈l,F=Xe\/∀c,o.op≠.defer c)->wpList P ops Q l a w->wpListIn F n P ops Q l a w
 |[],_,_,_,h=>h
 |
  o::l,a,w,hd,h=>by
  unfold wpList at h;unfold wpListIn;split at h
  .rename_i g;rw[if_pos g];rcases h with h|h
   .exact Xr (λa w h=>zy6 b d l a w (λo e=>hd o (Ww _ e)) h) (zD4 b (hd o (by simp)) h)
   .exact absurd h.2 d
  .rename_i g;rw[if_neg g];exact⟨λf _=>b.fn f,zy6 b d l _ w (λo e=>hd o (Ww _ e)) h⟩
theorem zA1{F:Fence}(g:zgG F){n}{P}{p:Region.Mode}{ops}{Q:Exit->Act->World->Prop}(j:¬LetsOut Q)(hd:∀(i:Nat)(o:Oper),ops[i]?=some o->F=Xe\/∀c,o.op≠.defer c):
  ∀(b:Nat)(d:Array Bool)(a:Act)(w:World),wpAny P p ops Q b d a w->wpAnyIn F n P p ops Q b d a w
 |0,_,_,_,h=>h
 |
  b+1,d,a,w,h=>by
  refine⟨h.1,λi q=>?_⟩;have e:=h.2 i q;unfold wpOp at e;unfold wpOpIn
  cases k:ops[i]? with
  |none=>rw[k]at e;exact zA1 g j hd b _ a w e
  |some o=>
   rw[k]at e;simp only at e⊢;split at e
   .rename_i m;rw[if_pos m];rcases e with e|e
    .exact Xr (λa w h=>zA1 g j hd b _ a w h) (zD4 g (hd i o k) e)
    .exact absurd e.2 j
   .rename_i m;rw[if_neg m];exact⟨λf _=>g.fn f,zA1 g j hd b _ _ w e⟩
theorem zBg{id}{ops}{draw}(h:ziS (.region id ops draw)=true){o}(d:o∈ops.toList)(c:Call):o.op≠.defer c:=by intro b;simp only[ziS,Wx]at h;have:=h o d;rw[b]at this;cases this
def zqW(w:World)(b:Nat):Prop:=∀c e f,w.heap[b]? ≠ some (.cells c e f)
theorem zBC{w}{a:Addr}{v}(h:w.cell? a=some v):¬zqW w a.block:=by
 intro d;unfold World.cell? at h
 cases b:w.heap[a.block]? with
 |none=>simp[b]at h
 |some o=>
  cases o with
  |cells c e f=>exact d c e f b
  |_=>simp[b]at h
theorem VR.more{w}{L L'}(C:∀b,L' b->L b\/zqW w b){ι}{v}{a}(h:VR w L ι v a):VR w L' ι v a:=by
 induction h with
 |undef ι v=>exact .undef _ _
 |int ι k n h=>exact .int _ _ _ h
 |bool ι b=>exact .bool _ _
 |str ι s h=>exact .str _ _ h
 |nilp ι=>exact .nilp _
 |ptr ι r q g i f l h j=>exact .ptr _ _ _ _ _ _ _ h j
 |mp ι r q l h j=>exact .mp _ _ _ _ h j
 |nilmp ι=>exact .nilmp _
 |it ι r l h j=>exact .it _ _ _ h j
 |iptr ι a n c V e hL p d=>
  refine .iptr _ a n c V e (λm y=>?_) d;rcases C _ y with h|h
  .exact hL m h
  .have:=zBC (e 0 m).1;rw[zcP]at this;exact this h
 |sl ι a t n cap f V m hbig e hL p d=>
  refine .sl _ a t n cap f V m hbig e (λz y=>?_) d;rcases C _ y with h|h
  .exact hL z h
  .have x:0<n:=by
    rcases Ws n with h|h
    .subst h;simp at z
    .exact h
   have D:0<t:=by
    rcases Ws t with h|h
    .subst h;simp at z
    .exact h
   have:=zBC (e 0 0 x D).1;rw[zcP,zcP]at this;exact this h
 |sl0 ι t f=>exact .sl0 _ _ _
 |nilsl ι=>exact .nilsl _
 |cut ι a=>exact .cut _ _
 |own ι r q g off n a c l h j m e F=>exact .own _ _ _ _ _ _ _ _ l h j m e F
 |fn ι f B A o p d=>exact .fn _ _ _ _ o d
 |nilfn ι=>exact .nilfn _
 |agg ι B u o x p d=>exact .agg _ _ _ o x d
 |tup ι B u o p d=>exact .tup _ _ _ o d
section
variable {w w':World}{L L2:Nat->Prop}{ι:Inj}{H:AH}{nx:Nat}
theorem RelH.less(h:RelH w L ι H nx)(e:∀b,L2 b->L b):RelH w L2 ι H nx:=by refine⟨λr q o d g m=>?_,h.apart,λb c k=>h.out b c (e b k),h.idx,h.dom,h.gen,λb c=>h.Lsz b (e b c)⟩;obtain⟨l,j,ok⟩:=h.row r q o d g m;exact⟨l,j,ok.trans (λ_=>rfl) (λv a n=>n.anti (λb c=>c.imp (e b) id))⟩
theorem RelH.more(h:RelH w L ι H nx)(j:∀b,L2 b->L b\/(zqW w b/\b<w.heap.size/\¬live ι H b)):RelH w L2 ι H nx:=by
 have k:∀b,Lt L2 ι H b->Lt L ι H b\/zqW w b:=λb d=>by
  rcases d with d|d
  .rcases j b d with c|c
   .exact .inl (.inl c)
   .exact .inr c.1
  .exact .inl (.inr d)
 refine⟨λr q p e g n=>?_,h.apart,λb d m=>?_,h.idx,h.dom,h.gen,λb d=>?_⟩
 .obtain⟨l,c,ok⟩:=h.row r q p e g n;exact⟨l,c,ok.trans (λ_=>rfl) (λv a o=>o.more k)⟩
 .rcases j b m with c|c
  .exact h.out b d c
  .exact c.2.2 d
 .rcases j b d with c|c
  .exact h.Lsz b c
  .exact c.2.1
theorem zE4{b}(rel:RelH w L ι H nx)(d:b<w.heap.size)(c:¬Lt L ι H b):¬Lt (zuH L w w') ι H b:=by
 rintro(h|h)
 .rcases h with h|h
  .exact c (.inl h)
  .omega
 .exact c (.inr h)
theorem zvw(rel:RelH w L ι H nx)(e:Ext L w w'){v}{a}(h:VR w (Lt L ι H) ι v a):VR w' (Lt (zuH L w w') ι H) ι v a :=
 h.mono (λb c d=>⟨e.block b c (λg=>d (.inl g)),zE4 rel c d⟩) (λ_ _ _ _ h=>h)
theorem RelH.yield(rel:RelH w L ι H nx)(e:Ext L w w'):RelH w' (zuH L w w') ι H nx:=by
 refine⟨λr q n c g m=>?_,rel.apart,λb d j=>?_,rel.idx,rel.dom,rel.gen,λb d=>?_⟩
 .obtain⟨l,k,ok⟩:=rel.row r q n c g m;refine⟨l,k,ok.trans (λo=>?_) (λv a p=>zvw rel e p)⟩;have j:live ι H l.block:=⟨r,q,n,c,g,l,m,k,o,rfl⟩;exact e.block _ (rel.live_lt j) (rel.out _ j)
 .rcases j with h|h
  .exact rel.out b d h
  .have:=rel.live_lt d;omega
 .rcases d with h|h
  .exact Wj (rel.Lsz b h) e.size
  .exact h.2
theorem RelH.turn{D}(h:RelH w L ι H nx)(j:∀b,D b->zqW w b/\b<w.heap.size/\¬live ι H b)(e:Ext D w w'):
  RelH w' L ι H nx/\∀v a,VR w (Lt L ι H) ι v a->VR w' (Lt L ι H) ι v a:=by
 have g:RelH w (λb=>L b\/D b) ι H nx:=h.more (λb c=>c.imp id (j b));have d:Ext (λb=>L b\/D b) w w':=⟨e.os,e.tape,e.output,e.size,λb c m=>e.block b c (λhd=>m (.inr hd))⟩;refine⟨(g.yield d).less (λb c=>.inl (.inl c)),λv a n=>?_⟩
 have k:VR w (Lt (λb=>L b\/D b) ι H) ι v a:=n.more (λb c=>by
  rcases c with (c|c)|c
  .exact .inl (.inl c)
  .exact .inr (j b c).1
  .exact .inl (.inr c))
 exact(zvw g d k).anti (λb c=>c.imp (λh=>.inl (.inl h)) id)
end
theorem zoF.yield{n0}{w w'}{L}{ι}{H}{nx}{c:List Deferred}(h:zoF n0 w (Lt L ι H) c)(rel:RelH w L ι H nx)(e:Ext L w w'):zoF n0 w' (Lt (zuH L w w') ι H) c :=
 h.go λb d g=>⟨e.block b d (λj=>g (.inl j)),zE4 rel d g⟩
def shut:List Nat->World->World
 |[],w=>w
 |m::b,w=>shut b (w.putObj m (.deferred none))
theorem zA5:∀(c:List Nat)(w:World),Ext (·∈c) w (shut c w)
 |[],w=>.refl _ _
 |
  m::c,w=>by
  have h:=zA5 c (w.putObj m (.deferred none));have e:(w.putObj m (.deferred none)).heap.size=w.heap.size:=Xh;refine⟨h.os,h.tape,h.output,by rw[<-e];exact h.size,λb g d=>?_⟩;rw[WE,not_or]at d;show(shut c (w.putObj m (.deferred none))).heap[b]?=_;rw[h.block b (by rw[e];exact g) d.2];exact Xi d.1
theorem zrk{F:Fence}{n}{P}{fn}{tmps}{R:Ending->World->Prop}:∀(b:List Nat)(w:World),b.Nodup->(∀m∈b,w.heap[m]?=some (.deferred (some []))) ->
  (∃v,(results fn tmps).run P (shut b w)=.ok v (shut b w)/\R (.returned v) (shut b w))->LeavesInM F n P fn tmps R (b.map zvs) .returning w
 |[],w,_,_,h=>h
 |
  m::b,w,hd,d,h=>by
  rw[List.nodup_cons]at hd;refine⟨by simp,.inl ⟨m,w.putObj m (.deferred none),rfl,run_takeDeferred (d m (by simp)),zrk b _ hd.2 (λk c=>?_) h⟩⟩;rw[Xi (show k≠m from λe=>hd.1 (by rw[<-e];exact c))];exact d k (Ww _ c)
theorem zwT{P:Program}{f:FuncId}{fn:Func}{c:Code}{args:Array Value}{w:World}{R:Ending->World->Prop}(t:P.funcs[f]?=some fn)(q:fn.body=some c)(h:c.wp P (λe g d=>(e=.normal\/e=.ret)/\∃b,g.defers=b.map zvs/\b.Nodup/\(∀m∈b,d.heap[m]?=some (.deferred (some [])))/\∃v,(results fn g.tmps).run P (shut b d)=.ok v (shut b d)/\R (.returned v) (shut b d))
   { tmps:=args++Array.replicate (fn.ntmps-args.size) undef,defers:=[] } w):Calls P f args w R:=by
 refine(callsIn_wide (n:=0)).1 (callsIn_of_wp_marks t q trivial (wpIn_wide.2 (wp_mono h λe g d ⟨s,b,j,k,o,p⟩=>?_)));have:=zrk (F:=Xe) (n:=0) (P:=P) (fn:=fn) (tmps:=g.tmps) (R:=R) b d k o p;rw[<-j]at this;rcases s with rfl|rfl<;>exact this
section
variable {P:Program}{L:Nat->Prop}{nt n0:Nat}{w0:World}{ι0:Inj}{H0:AH}{B:Nat}
def QQ(nt n0:Nat)(w0:World)(L:Nat->Prop)(ι0:Inj)(H0:AH)(B:Nat)(Q:QT):Exit->Act->World->Prop:=λe a w=>
 ∃ι K H nx,In nt n0 w0 L ι0 H0 B w ι (Kn.get K) H nx a/\match e with
  |.normal=>Q .normal K H nx
  |.exit id=>Q (.exit id) K H nx
  |.ret=>Q .ret K H nx
  |.goto l=>Q (.goto l) K H nx
  |_=>False
theorem In.drop{w:World}{ι:Inj}{K:Kn}{H:AH}{nx:Nat}{a:Act}(h:In nt n0 w0 L ι0 H0 B w ι K.get H nx a)(l:List Nat):In nt n0 w0 L ι0 H0 B w ι (K.drop l).get H nx a:=by
 refine⟨h.size,h.defers,h.st,h.le,λi=>?_⟩;rcases Kn.get_drop K l i with b|b
 .rw[b];exact .undef _ _
 .rw[b];exact h.kn i
theorem In.entI(base:∀r q g l,ι0 r q g=some l->r<B){w:World}{ι:Inj}{K j:Kn}{H e:AH}{nx nx2:Nat}{a:Act}(h:In nt n0 w0 L ι0 H0 B w ι K.get H nx a)(u:Ent B K H nx j e nx2):
  ∃c,In nt n0 w0 L ι0 H0 B w c j.get e nx2 a:=by
 obtain⟨n,o⟩:=u;obtain⟨c,p,s,k,t⟩:=o w L ι a.tmps h.st.rel h.kn;refine⟨c,h.size,h.defers.less (λb d=>d.imp id (k b)),⟨h.st.ext,λr q g l m=>t r q g l (base _ _ _ _ m) (h.st.inj _ _ _ _ m),p,λb d=>h.st.lv b (k b d)⟩,n,s⟩
theorem In.ent(base:RelH w0 L ι0 H0 B){w:World}{ι:Inj}{K K2:Kn}{H c:AH}{nx nx2:Nat}{a:Act}(h:In nt n0 w0 L ι0 H0 B w ι K.get H nx a)(d:Ent B K H nx K2 c nx2):
  ∃b,In nt n0 w0 L ι0 H0 B w b K2.get c nx2 a:=h.entI base.idx d
theorem In.wfK{w:World}{ι:Inj}{K:Kn}{H:AH}{nx:Nat}{a:Act}(h:In nt n0 w0 L ι0 H0 B w ι K.get H nx a):WfK K:=λi=>(h.kn i).wf
def zDM(P:Program)(q:Nat->List Nat)(nt:Nat)(b:ACode):Prop :=
 ∀{F:Fence}{n:Nat}(_:zgG F){n0:Nat}{w0:World}{L:Nat->Prop}{ι0:Inj}{H0:AH}{B:Nat}(_:∀r q g l,ι0 r q g=some l->r<B)(_:n0<=w0.heap.size)(c:Code),comp P nt q c=some b.strip->(F=Xe\/ziS c=true) ->
  ∀(Q:QT)(w:World)(ι:Inj)(K:Kn)(H:AH)(nx:Nat)(a:Act),In nt n0 w0 L ι0 H0 B w ι K.get H nx a->awp P B b Q K H nx->c.wpIn F n P (QQ nt n0 w0 L ι0 H0 B Q) a w
def setT:Array Value->List Tmp->List Value->Array Value
 |tmps,t::b,v::c=>setT (tmps.setIfInBounds t v) b c
 |tmps,_,_=>tmps
theorem zuO:∀(c:List Tmp)(b:List Value)(tmps:Array Value),(c.zip b).foldl (λtmps (p:Tmp×Value)=>tmps.setIfInBounds p.1 p.2) tmps=setT tmps c b
 |[],b,tmps=>by simp[setT]
 |t::d,[],tmps=>by simp[setT]
 |t::d,v::b,tmps=>by simp[setT,zuO d b]
theorem zxQ:∀(d:List Tmp)(b:List Value)(tmps:Array Value),(setT tmps d b).size=tmps.size
 |[],b,tmps=>by simp[setT]
 |t::c,[],tmps=>by simp[setT]
 |t::c,v::b,tmps=>by simp[setT,zxQ c b]
theorem zGL{w:World}{M:Nat->Prop}{ι:Inj}:∀(g:List Tmp)(c:List Value)(d:List AV)(tmps:Array Value)(K:Kn),VRs w M ι c d->(∀t∈g,t<tmps.size)->KOk w M ι tmps K.get->KOk w M ι (setT tmps g c) (zs9 K g d).get
 |[],c,d,tmps,K,_,_,b=>by simpa [setT,zs9]using b
 |t::h,_,_,tmps,K,.nil,_,b=>by simpa [setT,zs9]using b
 |
  t::h,v::c,x::d,tmps,K,.cons h1 h2,hlt,b=>by
  rw[setT,zs9];refine zGL h c d _ _ h2 (λu j=>by rw[Array.size_setIfInBounds];exact hlt u (Ww _ j)) (λi=>?_);have e:(K.set t x).get i=if i=t then x else K.get i:=Kn.get_set K t x i
  rw[e,zA0 (hlt t (by simp))];split
  .exact h1
  .exact b i
theorem ztz{w p:World}{L:Nat->Prop}{ι c:Inj}{H k:AH}{o:Nat}(s:RelH p L c k o)(d:∀b,b<w.heap.size->¬Lt L ι H b->p.heap[b]?=w.heap[b]?)(m:∀b,live c k b->live ι H b\/w.heap.size<=b)(e:∀r q g l,ι r q g=some l->c r q g=some l){v:Value}{a:AV}(h:VR w (Lt L ι H) ι v a):VR p (Lt L c k) c v a :=
 h.mono (λb t n=>⟨d b t n,λj=>by
  rcases j with j|j
  .exact n (.inl j)
  .rcases m b j with h|h
   .exact n (.inr h)
   .omega⟩) e
theorem RelH.others{w b:World}{L:Nat->Prop}{ι:Inj}{H:AH}{nx:Nat}(rel:RelH w L ι H nx)(e:Ext L w b)(d:b.heap.size=w.heap.size):RelH b L ι H nx :=
 (rel.yield e).less (λ_ c=>.inl c)
theorem znm{w:World}{l:Nat}{o:Obj}{M:Nat->Prop}(h:M l):Ext M w (w.putObj l o) :=
 ⟨rfl,rfl,rfl,by rw[Xh];exact Wf _,λb _ c=>Xi (λe=>c (by rw[e];exact h))⟩
def Mof(L O:Nat->Prop)(d c:Nat):Nat->Prop:=λb=>L b\/O b\/b=d\/b=c
structure RngJ{α:Type}(nt n0:Nat)(w0:World)(Lf:Nat->Prop)(ι0:Inj)(H0:AH)(B:Nat)(K1:Kn)(S:α->AH)(N:Nat)(act:Act)(lp dp:Nat)(rc:Loop)(n1:Nat)(p:α->Prop)(L O:Nat->Prop)(W:World)(a:α)(ι:Inj):Prop where
 hp:p a
 hin:In nt n0 w0 (Mof Lf O lp dp) ι0 H0 B W ι K1.get (S a) N act
 hrec:W.heap[lp]?=some (.loop rc)
 hdef:W.heap[dp]?=some (.deferred (some []))
 own:∀b,live ι (S a) b->L b
 ll:∀b,Lf b->L b
 hl:L lp
 hd:L dp
 ho:∀b,O b->¬L b/\(live ι0 H0 b\/w0.heap.size<=b)
 hs:∀b,L b->b<W.heap.size
 hn:n1<=W.heap.size
 hl0:w0.heap.size<=lp
 hd0:w0.heap.size<=dp
 hn1:w0.heap.size<=n1
 ne:lp≠dp
section
variable {α:Type}{K1:Kn}{S:α->AH}{N:Nat}{act:Act}{lp dp:Nat}{rc:Loop}{n1:Nat}{p:α->Prop}
theorem zxL:Stab (λU O W=>∃a ι,RngJ nt n0 w0 L ι0 H0 B K1 S N act lp dp rc n1 p U O W a ι):=by
 rintro U O Q w T ⟨a,ι,h⟩ d o u e R s H;have C:¬O lp:=λm=>(h.ho lp m).1 h.hl
 have y:¬O dp:=λm=>(h.ho dp m).1 h.hd
 have D:lp<w.heap.size:=h.hs lp h.hl;have z:dp<w.heap.size:=h.hs dp h.hd;have rel:=h.hin.st.rel
 have V:∀b,b<w.heap.size->¬Lt (Mof L O lp dp) ι (S a) b->T.heap[b]?=w.heap[b]? /\ ¬Lt (Mof L Q lp dp) ι (S a) b:=λb c F=>by
  refine⟨d b c (λm=>F (.inl (.inr (.inl m)))),λj=>F ?_⟩;rcases j with (j|j|j)|j
  .exact .inl (.inl j)
  .rcases o b j with k|k
   .exact .inl (.inr (.inl k))
   .omega
  .exact .inl (.inr (.inr j))
  .exact .inr j
 have J:∀v x,VR w (Lt (Mof L O lp dp) ι (S a)) ι v x->VR T (Lt (Mof L Q lp dp) ι (S a)) ι v x:=λv x Z=>Z.mono V (λ_ _ _ _ h=>h)
 have A:∀b,live ι (S a) b->¬O b:=λb c m=>rel.out b c (.inr (.inl m))
 have K:RelH T (Mof L Q lp dp) ι (S a) N:=by
  refine⟨λr q Y t g X=>?_,rel.apart,λb c j=>?_,rel.idx,rel.dom,rel.gen,λb c=>?_⟩
  .obtain⟨l,k,ok⟩:=rel.row r q Y t g X;refine⟨l,k,ok.trans (λI=>?_) J⟩;have M:live ι (S a) l.block:=⟨r,q,Y,t,g,l,X,k,I,rfl⟩;exact d _ (rel.live_lt M) (A _ M)
  .rcases j with j|j|j
   .exact rel.out b c (.inl j)
   .rcases o b j with k|k
    .exact A b c k
    .have:=rel.live_lt c;omega
   .exact rel.out b c (.inr (.inr j))
  .rcases c with c|c|c|c
   .exact Wj (rel.Lsz b (.inl c)) e
   .exact u b c
   .omega
   .omega
 have n:=h.hin.st
 refine⟨a,ι,h.hp,⟨h.hin.size,h.hin.defers.go V,⟨⟨R.trans n.ext.os,s.trans n.ext.tape,H.trans n.ext.output,Wh n.ext.size e,λb c F=>?_⟩,n.inj,K,n.lv⟩,h.hin.le,λi=>J _ _ (h.hin.kn i)⟩,
  (d lp D C).trans h.hrec,(d dp z y).trans h.hdef,h.own,h.ll,h.hl,h.hd,λb c=>?_,λb c=>Wj (h.hs b c) e,Wh h.hn e,h.hl0,h.hd0,h.hn1,h.ne⟩
 .rw[d b (Wj c n.ext.size) (λm=>by rcases(h.ho b m).2 with k|k;exact F k;omega)];exact n.ext.block b c F
 .rcases o b c with k|k
  .exact h.ho b k
  .exact⟨λM=>by have:=h.hs b M;omega,.inr (Wh n.ext.size k)⟩
theorem zCj(base:∀r q g l,ι0 r q g=some l->r<B){L' O:Nat->Prop}{W D k:World}{a:α}{ι v:Inj}{V:AH}{y:Nat}{rc4:Loop}{p':α->Prop}(h:RngJ nt n0 w0 L ι0 H0 B K1 S N act lp dp rc n1 p L' O W a ι)(rel3:RelH D (Mof L O lp dp) v V y)(d:∀b,b<W.heap.size->b≠lp->¬live ι (S a) b->D.heap[b]?=W.heap[b]?)(J:W.heap.size<=D.heap.size)(hos:D.os=W.os)(T:D.tape=W.tape)(hout:D.output=W.output)(M:∀r q g l,ι r q g=some l->v r q g=some l)(F:∀b,live v V b->live ι (S a) b\/W.heap.size<=b)(hle:N<=y)(m:k=D.putObj lp (.loop rc4)){a':α}(hp':p' a')(he:Ent B K1 V y K1 (S a') N) :
  Ext L' W k/\∃ι',RngJ nt n0 w0 L ι0 H0 B K1 S N act lp dp rc4 n1 p' (zuH L' W k) O k a' ι':=by
 have Z:lp<W.heap.size:=h.hs lp h.hl;have X:dp<W.heap.size:=h.hs dp h.hd;have I:k.heap.size=D.heap.size:=by rw[m,Xh]
 have h4:∀b,b≠lp->k.heap[b]?=D.heap[b]? := λb c=>by rw[m];exact Xi c
 have U:∀{ι H nx}{w:World},RelH w (Mof L O lp dp) ι H nx->¬live ι H lp:=λrel o=>rel.out lp o (.inr (.inr (.inl rfl)))
 have u:∀{ι H nx}{w:World},RelH w (Mof L O lp dp) ι H nx->¬live ι H dp:=λrel o=>rel.out dp o (.inr (.inr (.inr rfl)))
 have e34:Ext (Mof L O lp dp) D k:=by rw[m];exact znm (.inr (.inr (.inl rfl)))
 have R:RelH k (Mof L O lp dp) v V y:=rel3.others e34 I
 have s:∀b,b<W.heap.size->¬Lt (Mof L O lp dp) ι (S a) b->k.heap[b]?=W.heap[b]? := λb c x=>by
  have j:b≠lp:=λe=>x (.inl (.inr (.inr (.inl e))))
  rw[h4 b j];exact d b c j (λo=>x (.inr o))
 have C:=h.hin.st;have os4:k.os=W.os:=by rw[m];exact hos
 have z:k.tape=W.tape:=by rw[m];exact T
 have Q:k.output=W.output:=by rw[m];exact hout
 have n:In nt n0 w0 (Mof L O lp dp) ι0 H0 B k v K1.get V y act:=by
  refine⟨h.hin.size,h.hin.defers.go λb c x=>⟨s b c x,λA=>?_⟩,⟨⟨os4.trans C.ext.os,z.trans C.ext.tape,Q.trans C.ext.output,by rw[I];exact Wh C.ext.size J,λb c x=>?_⟩,λr q g l o=>M _ _ _ _ (C.inj _ _ _ _ o),R,λb c=>?_⟩,Wh h.hin.le hle,λi=>?_⟩
  .rcases A with A|A
   .exact x (.inl A)
   .rcases F b A with t|t
    .exact x (.inr t)
    .omega
  .have j:b≠lp:=λe=>by have:=h.hl0;omega
   rw[h4 b j,d b (Wj c C.ext.size) j (λo=>by rcases C.lv b o with t|t;exact x t;omega)];exact C.ext.block b c x
  .rcases F b c with t|t
   .exact C.lv b t
   .exact .inr (Wh C.ext.size t)
  .exact ztz R s F M (h.hin.kn i)
 obtain⟨hN,Y⟩:=he;obtain⟨ι5,k3,k4,k5,k6⟩:=Y k (Mof L O lp dp) v act.tmps n.st.rel n.kn
 have in5:In nt n0 w0 (Mof L O lp dp) ι0 H0 B k ι5 K1.get (S a') N act :=
  ⟨n.size,n.defers.less (λb c=>c.imp id (k5 b)),⟨n.st.ext,λr q g l o=>k6 r q g l (base _ _ _ _ o) (n.st.inj _ _ _ _ o),k3,λb c=>n.st.lv b (k5 b c)⟩,hN,k4⟩
 have K:Ext L' W k:=by
  refine⟨os4,z,Q,by rw[I];exact J,λb c x=>?_⟩;have j:b≠lp:=λe=>x (by rw[e];exact h.hl)
  rw[h4 b j];exact d b c j (λo=>x (h.own b o))
 refine⟨K,ι5,hp',in5,by rw[m];exact Xn (Wj Z J),?_,λb c=>?_,λb c=>.inl (h.ll b c),.inl h.hl,.inl h.hd,λb c=>⟨λA=>?_,(h.ho b c).2⟩,λb c=>?_,by rw[I];exact Wh h.hn J,h.hl0,h.hd0,h.hn1,h.ne⟩
 .rw[h4 dp (Xg h.ne),d dp X (Xg h.ne) (u h.hin.st.rel)];exact h.hdef
 .rcases F b (k5 b c)with t|t
  .exact .inl (h.own b t)
  .exact .inr ⟨t,k3.live_lt c⟩
 .rcases A with A|A
  .exact(h.ho b c).1 A
  .have:=h.hin.st.rel.Lsz b (.inr (.inl c));omega
 .rcases c with c|c
  .exact Wj (h.hs b c) K.size
  .exact c.2
end
def rcOf(b:FuncId)(tmps:Array Value)(c:Array Tmp)(d cB:Code)(e:Nat)(h:LoopState)(g:Option Code):Loop:={ state:=h,pending:=g,fn:=b,tmps:=tmps,params:=c,assign:=d,body:=cB,defers:=e }
def codeOf:AExit->Option Code
 |.ret=>some .ret
 |.exit id=>some (.exit id)
 |_=>none
theorem VRs.to{w e:World}{M c:Nat->Prop}{ι b:Inj}:∀{d:List Value}{g:List AV},(∀v a,VR w M ι v a->VR e c b v a)->VRs w M ι d g->VRs e c b d g
 |[],[],_,_=>.nil
 |_::_,_::_,h,.cons j k=>.cons (h _ _ j) (VRs.to h k)
theorem zJN{α σ:Type}{J:Kn}{S:α->AH}{N:Nat}{act:Act}{j dp:Nat}{n1:Nat}{fn0:FuncId}{q:Nat->List Nat}{x y:ACode}(hA:zDM P q nt x)(hB:zDM P q nt y)(base:∀r q g l,ι0 r q g=some l->r<B){d:Array Tmp}{R:List Nat}{o cB:Code}(hps:d.toList=R)(hlt:∀t∈R,t<nt)(hcA:comp P nt q o=some x.strip)(hcB:comp P nt q cB=some y.strip)(hdA:ziS o=true)(hdB:ziS cB=true){next:σ->Option (List AV×σ)}{inv:α->σ->Prop}{Q:α->AExit->Prop}(hlen:∀s x s',next s=some (x,s')->x.length=R.length)(hround:∀a s z s',inv a s->next s=some (z,s')->WfK (zs9 J R z)->awp P N x (λe K H nx=>match e with
   |
    .normal=>awp P N y (λe K H nx=>match e with
    |.normal=>∃p,inv p s'/\Ent B J H nx J (S p) N
    |.goto _=>False
    |e=>∃p,Q p e/\Ent B J H nx J (S p) N) K H nx
   |_=>False) (zs9 J R z) (S a) N) :
  YOk P j next (λs L' O W=>∃a ι,RngJ nt n0 w0 L ι0 H0 B J S N act j dp (rcOf fn0 act.tmps d o cB dp .ready none) n1 (λa=>inv a s) L' O W a ι)
   (λL' O W=>∃e c,codeOf e=some c/\∃a ι,RngJ nt n0 w0 L ι0 H0 B J S N act j dp (rcOf fn0 act.tmps d o cB dp .done (some c)) n1 (λa=>Q a e) L' O W a ι):=by
 rintro s z s' L' O W vs Y ⟨a,ι,h⟩ hLs hOs hvs;have hvl:vs.size=d.size:=by have h1:vs.toList.length=z.length:=hvs.length;have h2:=hlen s z s' Y;rw[<-hps]at h2;simpa using h1.trans h2
 have rel:=h.hin.st.rel;have M:j<W.heap.size:=h.hs j h.hl;have hnl:∀{ι H nx}{w:World},RelH w (Mof L O j dp) ι H nx->¬live ι H j:=λrel hl=>rel.out j hl (.inr (.inr (.inl rfl)))
 refine⟨_,_,_,_,run_yield h.hrec (by simpa [rcOf]using hvl),?_⟩;have htm:(d.zip vs).foldl (λtmps (x:Tmp×Value)=>tmps.setIfInBounds x.1 x.2) act.tmps=setT act.tmps R vs.toList:=by rw[<-Array.foldl_toList,Array.toList_zip,hps];exact zuO _ _ _
 have hvs':VRs W (Lt (Mof L O j dp) ι (S a)) ι vs.toList z:=VRs.to (λv b hv=>hv.mono (λb _ hn=>⟨rfl,λZ=>hn (by
  rcases Z with (Z|Z|Z|Z)|Z
  .exact .inl (h.ll b Z)
  .exact .inr Z
  .exact .inl (by rw[Z];exact h.hl)
  .exact .inl (by rw[Z];exact h.hd)
  .exact .inl (h.own b Z))⟩) (λ_ _ _ _ h=>by cases h)) hvs
 have hk1:KOk W (Lt (Mof L O j dp) ι (S a)) ι (setT act.tmps R vs.toList) (zs9 J R z).get:=zGL R vs.toList z act.tmps J hvs' (λt ht=>by rw[h.hin.size];exact hlt t ht) h.hin.kn;have hsz1:(setT act.tmps R vs.toList).size=nt:=by rw[zxQ];exact h.hin.size
 show RoundIn Xe 0 P j fn0 ((d.zip vs).foldl (λtmps (x:Tmp×Value)=>tmps.setIfInBounds x.1 x.2) act.tmps) o cB W _;rw[htm];generalize setT act.tmps R vs.toList=tm at hk1 hsz1;refine roundIn_of_wpIn trivial ?_;have hinA:In nt W.heap.size W (Mof L O j dp) ι (S a) N W ι (zs9 J R z).get (S a) N { tmps:=tm,defers:=[] }:=⟨hsz1,.nil,.refl rel,Wf _,hk1⟩;have hw:=hround a s z s' h.hp Y hinA.wfK;refine wpIn_mono (hA (F:=Fence.wide.inRound j) (n:=0) (.inr ⟨j,rfl⟩) rel.idx (Wf _) o hcA (.inr hdA) _ W ι _ (S a) N _ hinA hw) λe a1 T ⟨ι1,Kb,Hb,nxb,k,hq⟩=>?_
 cases e with
 |normal=>
  have hlp1:T.heap[j]?=some (.loop (rcOf fn0 act.tmps d o cB dp .ready none)):=(k.st.ext.block j M (hnl rel)).trans h.hrec;refine⟨_,run_beginRound hlp1 rfl,?_⟩;show cB.wpIn (Fence.wide.inRound j) 0 P _ a1 (T.putObj j (.loop (rcOf fn0 act.tmps d o cB dp .busy none)));have u:(W.putObj j (.loop (rcOf fn0 act.tmps d o cB dp .busy none))).heap.size=W.heap.size:=Xh;have hb1:∀b,b≠j->(W.putObj j (.loop (rcOf fn0 act.tmps d o cB dp .busy none))).heap[b]?=W.heap[b]? := λb C=>Xi C
  have hb2:(W.putObj j (.loop (rcOf fn0 act.tmps d o cB dp .busy none))).heap[j]?=some (.loop (rcOf fn0 act.tmps d o cB dp .busy none)):=Xn M;have D:(W.putObj j (.loop (rcOf fn0 act.tmps d o cB dp .busy none))).os=W.os/\(W.putObj j (.loop (rcOf fn0 act.tmps d o cB dp .busy none))).tape=W.tape/\(W.putObj j (.loop (rcOf fn0 act.tmps d o cB dp .busy none))).output=W.output:=⟨rfl,rfl,rfl⟩;generalize W.putObj j (.loop (rcOf fn0 act.tmps d o cB dp .busy none))=Wb at u hb1 hb2 D;have c2:∀b,b≠j->(T.putObj j (.loop (rcOf fn0 act.tmps d o cB dp .busy none))).heap[b]?=T.heap[b]? := λb C=>Xi C
  have c2l:(T.putObj j (.loop (rcOf fn0 act.tmps d o cB dp .busy none))).heap[j]?=some (.loop (rcOf fn0 act.tmps d o cB dp .busy none)):=Xn (Wj M k.st.ext.size);have c2s:(T.putObj j (.loop (rcOf fn0 act.tmps d o cB dp .busy none))).heap.size=T.heap.size:=Xh;have U:Ext (Mof L O j dp) T (T.putObj j (.loop (rcOf fn0 act.tmps d o cB dp .busy none))):=znm (.inr (.inr (.inl rfl)));generalize T.putObj j (.loop (rcOf fn0 act.tmps d o cB dp .busy none))=w2 at c2 c2l c2s U;have rel2:RelH w2 (Mof L O j dp) ι1 Hb nxb:=k.st.rel.others U c2s;have A:∀b,b<T.heap.size->¬Lt (Mof L O j dp) ι1 Hb b->w2.heap[b]?=T.heap[b]? := λb _ hn=>c2 b (λe=>hn (.inl (.inr (.inr (.inl e)))))
  have in2:In nt W.heap.size Wb (Mof L O j dp) ι (S a) N w2 ι1 Kb.get Hb nxb a1:=by
   refine⟨k.size,k.defers.go λb C hn=>⟨A b C hn,hn⟩,⟨⟨U.os.trans (k.st.ext.os.trans D.1.symm),U.tape.trans (k.st.ext.tape.trans D.2.1.symm),U.output.trans (k.st.ext.output.trans D.2.2.symm),by rw[c2s,u];exact k.st.ext.size,λb C hn=>?_⟩,k.st.inj,rel2,λb C=>by rw[u];exact k.st.lv b C⟩,k.le,λi=>ztz rel2 A (λb C=>.inl C) (λ_ _ _ _ h=>h) (k.kn i)⟩;by_cases hbl:b=j
   .rw[hbl,c2l,hb2]
   .rw[c2 b hbl,hb1 b hbl];exact k.st.ext.block b (by rw[<-u];exact C) hn
  refine wpIn_mono (hB (F:=Fence.wide.inRound j) (n:=0) (.inr ⟨j,rfl⟩) rel.idx (by rw[u];exact Wf _) cB hcB (.inr hdB) _ w2 ι1 Kb Hb nxb a1 in2 hq) λe a3 w3 ⟨ι3,K3,H3,nx3,m,hq3⟩=>?_
  have X:w3.heap[j]?=some (.loop (rcOf fn0 act.tmps d o cB dp .busy none)):=(m.st.ext.block j (by rw[u];exact M) (hnl rel)).trans hb2
  have key:∀(rc4:Loop)(p':α->Prop)(p:α),p' p->Ent B J H3 nx3 J (S p) N->Ext L' W (w3.putObj j (.loop rc4))/\∃I,RngJ nt n0 w0 L ι0 H0 B J S N act j dp rc4 n1 p' (zuH L' W (w3.putObj j (.loop rc4))) O (w3.putObj j (.loop rc4)) p I:=λrc4 p' p hp' he=>
   zCj base h m.st.rel (λb C hne hn=>(m.st.ext.block b (by rw[u];exact C) hn).trans (hb1 b hne)) (by rw[<-u];exact m.st.ext.size) (m.st.ext.os.trans D.1) (m.st.ext.tape.trans D.2.1) (m.st.ext.output.trans D.2.2)
    m.st.inj (λb C=>by rw[<-u];exact m.st.lv b C) m.le rfl hp' he
  cases e with
  |normal=>obtain⟨p,V,he⟩:=hq3;obtain⟨h1,I,h2⟩:=key (rcOf fn0 act.tmps d o cB dp .ready none) (λa=>inv a s') p V he;exact⟨_,_,run_endRound none X,h1,.inl ⟨rfl,p,I,h2⟩⟩
  |ret=>obtain⟨p,V,he⟩:=hq3;obtain⟨h1,I,h2⟩:=key (rcOf fn0 act.tmps d o cB dp .done (some .ret)) (λa=>Q a .ret) p V he;exact⟨_,_,run_endRound (some .ret) X,h1,.inr ⟨rfl,.ret,_,rfl,p,I,h2⟩⟩
  |exit id=>obtain⟨p,V,he⟩:=hq3;obtain⟨h1,I,h2⟩:=key (rcOf fn0 act.tmps d o cB dp .done (some (.exit id))) (λa=>Q a (.exit id)) p V he;exact⟨_,_,run_endRound (some (.exit id)) X,h1,.inr ⟨rfl,.exit id,_,rfl,p,I,h2⟩⟩
  |_=>exact hq3.elim
 |_=>exact hq.elim
theorem zIR{α:Type}{C:Kn}{S:α->AH}{N:Nat}{act:Act}{c k:Nat}{M j:Loop}{K:Nat}{p:α->Prop}{F O:Nat->Prop}{W:World}{a:α}{ι:Inj}(z:n0<=w0.heap.size)(y:¬L k)(h:RngJ nt n0 w0 L ι0 H0 B C S N act c k M K p F O W a ι):
  In nt n0 w0 (λb=>L b\/O b) ι0 H0 B (W.putObj c (.loop j)) ι C.get (S a) N { act with defers:=[zvs k]++act.defers }:=by
 have e:Ext (Mof L O c k) W (W.putObj c (.loop j)):=znm (.inr (.inr (.inl rfl)));have A:(W.putObj c (.loop j)).heap.size=W.heap.size:=Xh;have w:∀b,b≠c->(W.putObj c (.loop j)).heap[b]?=W.heap[b]? := λb d=>Xi d
 generalize W.putObj c (.loop j)=D at e A w;have o:=h.hin.st;have s:RelH D (Mof L O c k) ι (S a) N:=o.rel.others e A;have g:∀b,b<W.heap.size->¬Lt (Mof L O c k) ι (S a) b->D.heap[b]?=W.heap[b]? := λb _ u=>w b (λe=>u (.inl (.inr (.inr (.inl e)))))
 have q:∀b,L b\/O b->Mof L O c k b:=λb d=>d.imp id .inl
 have v:∀b,Lt (λb=>L b\/O b) ι (S a) b->Lt (Mof L O c k) ι (S a) b:=λb d=>d.imp (q b) id
 refine⟨h.hin.size,?_,⟨⟨e.os.trans o.ext.os,e.tape.trans o.ext.tape,e.output.trans o.ext.output,by rw[A];exact o.ext.size,λb d u=>?_⟩,o.inj,s.less q,o.lv⟩,h.hin.le,λi=>(ztz s g (λb d=>.inl d) (λ_ _ _ _ h=>h) (h.hin.kn i)).anti v⟩
 .obtain⟨J,H,I,x⟩:=h.hin.defers.go λb d u=>⟨g b d u,u⟩
  refine⟨k::J,by rw[H];rfl,List.nodup_cons.2 ⟨λt=>(x k t).2.2 (.inl (.inr (.inr (.inr rfl)))),I⟩,λm t=>?_⟩;rcases WE.1 t with rfl|t
  .refine⟨Wh z h.hd0,(w _ (Xg h.ne)).trans h.hdef,λn=>?_⟩;rcases n with (n|n)|n
   .exact y n
   .exact(h.ho _ n).1 h.hd
   .exact o.rel.out _ n (.inr (.inr (.inr rfl)))
  .exact⟨(x m t).1,(x m t).2.1,λn=>(x m t).2.2 (v m n)⟩
 .rw[w b (λe=>by have:=h.hl0;omega)];exact o.ext.block b d u
theorem RelH.hide{w:World}{L:Nat->Prop}{ι:Inj}{k T:AH}{N D:Nat}(rel:RelH w L ι (k++T) N)(I:∀r o,k.look r=some o->r<D)(C:∀r o,T.look r=some o->D<=r):
  RelH w (λb=>L b\/live ι k b) ι T N/\∀b,Lt (λb=>L b\/live ι k b) ι T b↔Lt L ι (k++T) b:=by
 have c:=Xo I C;have j:∀{r q o},Xc T r q=some o->¬r<D:=λ{r q o} h=>by unfold Xc at h;obtain⟨u,e,_⟩:=Wa.1 h;exact Wy.2 (C r u e)
 have s:∀{r q o},Xc k r q=some o->r<D:=λ{r q o} h=>by unfold Xc at h;obtain⟨u,e,_⟩:=Wa.1 h;exact I r u e
 have J:∀b,live ι k b->live ι (k++T) b:=λb ⟨r,q,n,d,g,l,e,p,t,x⟩=>⟨r,q,n,d,g,l,by rw[c,if_pos (s e)];exact e,p,t,x⟩
 have M:∀b,live ι T b->live ι (k++T) b:=λb ⟨r,q,n,d,g,l,e,p,t,x⟩=>⟨r,q,n,d,g,l,by rw[c,if_neg (j e)];exact e,p,t,x⟩
 have l3:∀b,live ι (k++T) b->live ι k b\/live ι T b:=λb ⟨r,q,n,d,g,l,e,p,t,x⟩=>by
  rw[c]at e;split at e
  .exact .inl ⟨r,q,n,d,g,l,e,p,t,x⟩
  .exact .inr ⟨r,q,n,d,g,l,e,p,t,x⟩
 have z:∀b,Lt (λb=>L b\/live ι k b) ι T b↔Lt L ι (k++T) b:=λb=>by
  constructor
  .rintro((h|h)|h)
   .exact .inl h
   .exact .inr (J b h)
   .exact .inr (M b h)
  .rintro(h|h)
   .exact .inl (.inl h)
   .rcases l3 b h with h|h
    .exact .inl (.inr h)
    .exact .inr h
 refine⟨⟨λr q n d g y=>?_,λX V Y W Z Q S J s2 R U M e p=>rel.apart _ _ _ _ _ _ _ _ _ _ _ _ (by rw[c,if_neg (j e)];exact e) (by rw[c,if_neg (j p)];exact p),λb m A=>?_,rel.idx,λr o h=>?_,λr q n d g y=>rel.gen r q n d g (by rw[c,if_neg (j y)];exact y),λb m=>?_⟩,z⟩
 .obtain⟨l,e,ok⟩:=rel.row r q n d g (by rw[c,if_neg (j y)];exact y);exact⟨l,e,ok.trans (λ_=>rfl) (λv a hv=>hv.anti (λb m=>(z b).1 m))⟩
 .rcases A with A|A
  .exact rel.out b (M b m) A
  .obtain⟨X,V,Z,Q,S,K,F,a2,a3,a4⟩:=m;obtain⟨Y,W,s2,R,U,O,H,b2,b3,b4⟩:=A;have:=(rel.apart X V Y W Z Q S K s2 R U O (by rw[c,if_neg (j F)];exact F) (by rw[c,if_pos (s H)];exact H) a2 b2 a3 b3 (a4.trans b4.symm)).1;exact j F (this▸s H)
 .exact rel.dom r o (by rw[Xs I C,if_neg (Wy.2 (C r o h))];exact h)
 .rcases m with m|m
  .exact rel.Lsz b m
  .exact rel.live_lt (J b m)
theorem RelH.keepLow{w:World}{L:Nat->Prop}{ι:Inj}{n T:AH}{N p:Nat}(rel:RelH w L ι (n++T) N)(K:LowH p n)(hT:∀r o,T.look r=some o->p<=r):
  RelH w (λb=>L b\/live ι T b) (ι.upto p) n p/\∀b,live (ι.upto p) n b↔live ι n b:=by
 have d:=Xo K.num hT;have D:∀{r q o},Xc T r q=some o->¬r<p:=λ{r q o} h=>by unfold Xc at h;obtain⟨u,k,_⟩:=Wa.1 h;exact Wy.2 (hT r u k)
 have m:∀{r q o},Xc n r q=some o->r<p:=λ{r q o} h=>by unfold Xc at h;obtain⟨u,k,_⟩:=Wa.1 h;exact K.num r u k
 have y:∀{r q g l},ι.upto p r q g=some l->r<p/\ι r q g=some l:=λ{r q g l} h=>by
  unfold Inj.upto at h;split at h
  .exact⟨‹_›,h⟩
  .cases h
 have C:∀{r q g l},r<p->ι r q g=some l->ι.upto p r q g=some l:=λ{r q g l} h s=>by unfold Inj.upto;rw[if_pos h];exact s
 have R:∀b,live (ι.upto p) n b↔live ι n b:=λb=>by
  constructor
  .rintro⟨r,q,x,e,g,l,k,s,z,A⟩;exact⟨r,q,x,e,g,l,k,(y s).2,z,A⟩
  .rintro⟨r,q,x,e,g,l,k,s,z,A⟩;exact⟨r,q,x,e,g,l,k,C (m k) s,z,A⟩
 have S:∀b,live ι n b->live ι (n++T) b:=λb ⟨r,q,x,e,g,l,k,s,z,A⟩=>⟨r,q,x,e,g,l,by rw[d,if_pos (m k)];exact k,s,z,A⟩
 have V:∀b,live ι T b->live ι (n++T) b:=λb ⟨r,q,x,e,g,l,k,s,z,A⟩=>⟨r,q,x,e,g,l,by rw[d,if_neg (D k)];exact k,s,z,A⟩
 have Q:∀b,Lt (λb=>L b\/live ι T b) (ι.upto p) n b->Lt L ι (n++T) b:=λb t=>by
  rcases t with (h|h)|h
  .exact .inl h
  .exact .inr (V b h)
  .exact .inr (S b ((R b).1 h))
 refine⟨⟨λr q x e g F=>?_,λr1 q1 r2 q2 s1 X Z S s2 Y J V k s z A=>rel.apart _ _ _ _ _ _ _ _ _ _ _ _ (by rw[d,if_pos (m k)];exact k) (by rw[d,if_pos (m s)];exact s) (y z).2 (y A).2,λb t I=>?_,λr q g l h=>(y h).1,λr o h=>K.num r o h,λr q x e g F J l h=>rel.gen r q x e g (by rw[d,if_pos (m F)];exact F) J l (y h).2,λb t=>?_⟩,R⟩
 .obtain⟨l,k,ok⟩:=rel.row r q x e g (by rw[d,if_pos (m F)];exact F);refine⟨l,C (m F) k,ok.view (λ_=>rfl) rfl (λi c hi=>⟨c,hi,rfl,λj a a' hj H v hv=>?_⟩)⟩;rw[hj]at H;cases H;exact(hv.upto (K.val r q x e g F c (Wk hi) a (Wk hj))).anti Q
 .have t:=(R b).1 t;rcases I with I|I
  .exact rel.out b (S b t) I
  .obtain⟨r1,q1,s1,X,Z,U,M,a2,a3,a4⟩:=t;obtain⟨r2,q2,s2,Y,J,W,O,b2,b3,b4⟩:=I;have:=(rel.apart r1 q1 r2 q2 s1 X Z U s2 Y J W (by rw[d,if_pos (m M)];exact M) (by rw[d,if_neg (D O)];exact O) a2 b2 a3 b3 (a4.trans b4.symm)).1;exact D O (this▸m M)
 .rcases t with t|t
  .exact rel.Lsz b t
  .exact rel.live_lt (V b t)
theorem RelH.restrict{w:World}{L:Nat->Prop}{ι:Inj}{H:AH}{nx n:Nat}(rel:RelH w L ι H nx):RelH w L ι (Xl H n) nx/\∀b,live ι (Xl H n) b->live ι H b:=by
 have e:∀{r q o},Xc (Xl H n) r q=some o->H.get r q=some o:=λ{r q o} h=>by
  rw[AH.get_upto]at h;split at h
  .exact h
  .cases h
 have p:∀b,live ι (Xl H n) b->live ι H b:=λb ⟨r,q,j,c,g,l,d,k,s,t⟩=>⟨r,q,j,c,g,l,e d,k,s,t⟩
 refine⟨⟨λr q j c g h=>?_,λJ F K I M x z C N y A D d k=>rel.apart _ _ _ _ _ _ _ _ _ _ _ _ (e d) (e k),λb m=>rel.out b (p b m),rel.idx,λr o h=>?_,λr q j c g h=>rel.gen r q j c g (e h),rel.Lsz⟩,p⟩
 .obtain⟨l,d,ok⟩:=rel.row r q j c g (e h);exact⟨l,d,ok.trans (λ_=>rfl) (λv a u=>u.anti (λb m=>m.imp id (p b)))⟩
 .rw[AH.look_upto]at h;split at h
  .exact rel.dom r o h
  .cases h
theorem In.merge{w:World}{O Z:Nat->Prop}{ι d:Inj}{K:Kn}{F T:AH}{N nx2 p:Nat}{act:Act}(h:In nt n0 w0 (λb=>L b\/O b) ι0 H0 B w ι K.get T N act)(D:RelH w Z d F nx2)(hO:∀b,live d F b->O b)(hOl:∀b,O b->live ι0 H0 b\/w0.heap.size<=b)(hL2:∀b,L b->Z b)(hT2:∀b,live ι T b->Z b)(low:LowH p F)(high:HighH p T)(hK:∀i,AV.From p (K.get i))(hN:p<=N)(hι0:∀r q g l,r<p->ι0 r q g=some l->d r q g=some l) :
  In nt n0 w0 L ι0 H0 B w (λr q g=>if r<p then d r q g else ι r q g) K.get (F++T) N act:=by
 have C:=Xo low.num high.num;have hT':∀{r q o},Xc T r q=some o->¬r<p:=λ{r q o} h=>by unfold Xc at h;obtain⟨u,k,_⟩:=Wa.1 h;exact Wy.2 (high.num r u k)
 have lm:∀b,live (λr q g=>if r<p then d r q g else ι r q g) (F++T) b->live d F b\/live ι T b:=λb ⟨r,q,R,t,g,l,k,A,S,J⟩=>by
  rw[C]at k;split at k
  .rename_i n;simp only[if_pos n]at A;exact .inl ⟨r,q,R,t,g,l,k,A,S,J⟩
  .rename_i n;simp only[if_neg n]at A;exact .inr ⟨r,q,R,t,g,l,k,A,S,J⟩
 have lt1:∀b,Lt L (λr q g=>if r<p then d r q g else ι r q g) (F++T) b->Lt (λb=>L b\/O b) ι T b:=λb m=>by
  rcases m with m|m
  .exact .inl (.inl m)
  .rcases lm b m with m|m
   .exact .inl (.inr (hO b m))
   .exact .inr m
 have lt2:∀b,Lt L (λr q g=>if r<p then d r q g else ι r q g) (F++T) b->Lt Z d F b:=λb m=>by
  rcases m with m|m
  .exact .inl (hL2 b m)
  .rcases lm b m with m|m
   .exact .inr m
   .exact .inl (hT2 b m)
 have c1:∀{v a},AV.From p a->VR w (Lt (λb=>L b\/O b) ι T) ι v a->VR w (Lt L (λr q g=>if r<p then d r q g else ι r q g) (F++T)) (λr q g=>if r<p then d r q g else ι r q g) v a:=λha V=>
  (V.above ha).mono (λb _ hn=>⟨rfl,λX=>hn (lt1 b X)⟩) (λr q g l h=>by
   unfold Inj.above at h;split at h
   .cases h
   .rename_i n;simp only[if_neg n]
    exact h)
 have c2:∀{v a},AV.Below p a->VR w (Lt Z d F) d v a->VR w (Lt L (λr q g=>if r<p then d r q g else ι r q g) (F++T)) (λr q g=>if r<p then d r q g else ι r q g) v a:=λha V=>
  (V.upto ha).mono (λb _ hn=>⟨rfl,λX=>hn (lt2 b X)⟩) (λr q g l h=>by
   unfold Inj.upto at h;split at h
   .rename_i n;simp only[if_pos n];exact h
   .cases h)
 refine⟨h.size,h.defers.less lt1,⟨h.st.ext,λr q g l Q=>?_,⟨λr q R t g H=>?_,?_,λb m X=>?_,λr q g l Q=>?_,λr o ho=>?_,λr q R t g H W l Q=>?_,λb m=>h.st.rel.Lsz b (.inl m)⟩,λb m=>?_⟩,h.le,λi=>c1 (hK i) (h.kn i)⟩
 .by_cases n:r<p
  .simp only[if_pos n];exact hι0 r q g l n Q
  .simp only[if_neg n];exact h.st.inj r q g l Q
 .rw[C]at H;split at H
  .rename_i n;obtain⟨l,k,ok⟩:=D.row r q R t g H;refine⟨l,by simp only[if_pos n];exact k,ok.view (λ_=>rfl) rfl (λi c hi=>⟨c,hi,rfl,λj a a' hj M v V=>?_⟩)⟩;rw[hj]at M;cases M;exact c2 (low.val r q R t g H c (Wk hi) a (Wk hj)) V
  .rename_i n;obtain⟨l,k,ok⟩:=h.st.rel.row r q R t g H;refine⟨l,by simp only[if_neg n];exact k,ok.view (λ_=>rfl) rfl (λi c hi=>⟨c,hi,rfl,λj a a' hj M v V=>?_⟩)⟩;rw[hj]at M;cases M;exact c1 (high.val r q R t g H c (Wk hi) a (Wk hj)) V
 .intro r1 q1 r2 q2 s1 e1 g1 l1 s2 e2 g2 l2 k A S J h5 h6 h7;have I:∀{x y s e g l x' y' s' e' W Y},Xc F x y=some (.row s e g)->d x y g=some l->0<l.cap*l.sz->Xc T x' y'=some (.row s' e' W)->ι x' y' W=some Y->0<Y.cap*Y.sz->l.block=Y.block->False:=by intro x y s e g l x' y' s' e' W Y a1 a2 a3 a4 a5 a6 a7;exact h.st.rel.out Y.block ⟨_,_,_,_,_,_,a4,a5,a6,rfl⟩ (.inr (hO _ ⟨_,_,_,_,_,_,a1,a2,a3,a7⟩))
  rw[C]at k A;by_cases U:r1<p
  .rw[if_pos U]at k;simp only[if_pos U]at S;by_cases z:r2<p
   .rw[if_pos z]at A;simp only[if_pos z]at J;exact D.apart _ _ _ _ _ _ _ _ _ _ _ _ k A S J h5 h6 h7
   .rw[if_neg z]at A;simp only[if_neg z]at J;exact(I k S h5 A J h6 h7).elim
  .rw[if_neg U]at k;simp only[if_neg U]at S;by_cases z:r2<p
   .rw[if_pos z]at A;simp only[if_pos z]at J;exact(I A J h6 k S h5 h7.symm).elim
   .rw[if_neg z]at A;simp only[if_neg z]at J;exact h.st.rel.apart _ _ _ _ _ _ _ _ _ _ _ _ k A S J h5 h6 h7
 .rcases lm b m with k|k
  .exact D.out b k (hL2 b X)
  .exact h.st.rel.out b k (.inl X)
 .by_cases n:r<p
  .omega
  .simp only[if_neg n]at Q;exact h.st.rel.idx r q g l Q
 .rw[Xs low.num high.num]at ho;split at ho
  .omega
  .exact h.st.rel.dom r o ho
 .rw[C]at H;by_cases n:r<p
  .rw[if_pos n]at H;simp only[if_pos n]at Q;exact D.gen r q R t g H W l Q
  .rw[if_neg n]at H;simp only[if_neg n]at Q;exact h.st.rel.gen r q R t g H W l Q
 .rcases lm b m with k|k
  .exact hOl b (hO b k)
  .exact h.st.lv b k
theorem zqA(b:Nat):¬live noI [] b:=by rintro⟨r,q,d,c,g,l,h,_⟩;cases h
theorem RelH.empty{w:World}{M:Nat->Prop}(d:∀b,M b->b<w.heap.size):RelH w M noI [] 0:=by
 constructor
 .intro r q j c g h;cases h
 .intro x u y v z k n s A m p t h;cases h
 .intro b e;exact(zqA b e).elim
 .intro r q g l h;cases h
 .intro r o h;cases h
 .intro r q j c g h;cases h
 .exact d
set_option maxHeartbeats 400000 in
theorem zIK{q:Nat->List Nat}{x y:ACode}(hA:zDM P q nt x)(hB:zDM P q nt y)(base:∀r q g l,ι0 r q g=some l->r<B)(hn0:n0<=w0.heap.size){g0:Operand}{g:AOpd}{m:Array Tmp}{ps:List Nat}{z cB:Code}{n:Nat}(hg:copd g0=some g)(hps:m.toList=ps)(hlt:∀t∈ps,t<nt)(hcA:comp P nt q z=some x.strip)(hcB:comp P nt q cB=some y.strip)(hdA:ziS z=true)(hdB:ziS cB=true){Q:QT}{w:World}{ι:Inj}{K:Kn}{H:AH}{nx:Nat}{a:Act}(A:In nt n0 w0 L ι0 H0 B w ι K.get H nx a)(h:awp P B (.range g ps x y) Q K H nx) :
  (Code.rangeFunc g0 m z cB).wpIn Xe n P (QQ nt n0 w0 L ι0 H0 B Q) a w:=by
 obtain⟨σ,f,caps,next,ok,s0,α,K1,S,N,inv,invx,nc,Hc,R,hv,hgood,hcaps,hit,hok,hlen,⟨hnB,hlow,hRl,F,hK1⟩,⟨a0,hinv0,he0⟩,hround,hdone,u⟩:=h;have hgv:=zt A.kn hg;rw[hv]at hgv
 obtain⟨Y,hval,hcs,hcv⟩:∃Y,a.eval g0=.func (.func f) #[] Y/\Y.size=caps.length/\∀(i:Nat)(v:Value)(b:AV),Y[i]?=some v->caps[i]?=some b->VR w (Lt L ι H) ι v b:=by
  generalize a.eval g0=v at hgv
  cases hgv with
  |fn _ _ Y _ hs hv=>exact⟨Y,rfl,hs,hv⟩
 obtain⟨hN,hent⟩:=he0;obtain⟨j,k3,k4,k5,k6⟩:=hent w L ι a.tmps A.st.rel A.kn;have hnN:nc<=N:=Wh hnB hN
 have o:In nt n0 w0 L ι0 H0 B w j K1.get (Hc++S a0) N a :=
  ⟨A.size,A.defers.less (λb d=>d.imp id (k5 b)),⟨A.st.ext,λr q g l Z=>k6 r q g l (base _ _ _ _ Z) (A.st.inj _ _ _ _ Z),k3,λb d=>A.st.lv b (k5 b d)⟩,hN,k4⟩
 obtain⟨kh,kl⟩:=k3.hide hlow.num (F a0).num;obtain⟨kc,kc0⟩:=k3.keepLow hlow (F a0).num;have lvT:∀b,live j (S a0) b->live j (Hc++S a0) b:=λb d=>((kl b).1 (.inr d)).resolve_left (λZ=>kh.out b d (.inl Z))
 have lvC:∀b,live (j.upto nc) Hc b->live j (Hc++S a0) b:=λb d=>((kl b).1 (.inl (.inr ((kc0 b).1 d)))).resolve_left (λZ=>kc.out b d (.inl Z))
 have hLC:(λb=>L b\/live j Hc b)=(λb=>L b\/live (j.upto nc) Hc b):=by funext b;exact propext (or_congr Iff.rfl (kc0 b).symm)
 have k:In nt n0 w0 (λb=>L b\/live (j.upto nc) Hc b) ι0 H0 B w j K1.get (S a0) N a:=by rw[<-hLC];exact⟨o.size,o.defers.less (λb d=>(kl b).1 d),⟨o.st.ext,o.st.inj,kh,λb d=>o.st.lv b (lvT b d)⟩,o.le,λi=>(o.kn i).anti (λb d=>(kl b).1 d)⟩
 rw[hLC]at kh;refine wpIn_rangeFunc λfn0 _=>?_
 have V:=run_enterLoop_outer (P:=P) (w:=w) fn0 a.tmps m z cB;have T:((w.alloc (.deferred (some []))).alloc (.loop (rcOf fn0 a.tmps m z cB w.heap.size .ready none))).os=w.os/\((w.alloc (.deferred (some []))).alloc (.loop (rcOf fn0 a.tmps m z cB w.heap.size .ready none))).tape=w.tape/\((w.alloc (.deferred (some []))).alloc (.loop (rcOf fn0 a.tmps m z cB w.heap.size .ready none))).output=w.output:=⟨rfl,rfl,rfl⟩;have hw1s:((w.alloc (.deferred (some []))).alloc (.loop (rcOf fn0 a.tmps m z cB w.heap.size .ready none))).heap.size=w.heap.size+2:=by simp
 have J:∀b,b<w.heap.size->((w.alloc (.deferred (some []))).alloc (.loop (rcOf fn0 a.tmps m z cB w.heap.size .ready none))).heap[b]?=w.heap[b]? := λb d=>by rw[Below.heap_alloc _ _ b (by simp;omega),Below.heap_alloc _ _ b d]
 have hw1d:((w.alloc (.deferred (some []))).alloc (.loop (rcOf fn0 a.tmps m z cB w.heap.size .ready none))).heap[w.heap.size]?=some (.deferred (some [])):=by rw[Below.heap_alloc _ _ _ (by simp)];exact Xt _ _
 have hw1l:((w.alloc (.deferred (some []))).alloc (.loop (rcOf fn0 a.tmps m z cB w.heap.size .ready none))).heap[w.heap.size+1]?=some (.loop (rcOf fn0 a.tmps m z cB w.heap.size .ready none)):=by have:=Xt (w.alloc (.deferred (some []))) (.loop (rcOf fn0 a.tmps m z cB w.heap.size .ready none));simpa using this
 have W:Xq P (Instr.enterLoop fn0 a.tmps m z cB none) w=.ok (w.heap.size+1,[{ target:=.collected w.heap.size,args:=#[] }]) ((w.alloc (.deferred (some []))).alloc (.loop (rcOf fn0 a.tmps m z cB w.heap.size .ready none))):=V;clear V;generalize (w.alloc (.deferred (some []))).alloc (.loop (rcOf fn0 a.tmps m z cB w.heap.size .ready none))=U at hw1s J hw1d hw1l T W;refine⟨w.heap.size+1,[{ target:=.collected w.heap.size,args:=#[] }],U,{ target:=.fn (.func f) Y,args:=#[.func (.yield (w.heap.size+1)) #[] #[]] },U,f,#[.func (.yield (w.heap.size+1)) #[] #[]]++Y,U,W,?_,λf' hf'=>trivial,?_,λh=>?_,?_⟩
 .simp[resolve,rangeCall,hval,Deferred.ofValue,Xd];rfl
 .simp[invoke,zq6 hgood]
 .exact absurd h (by decide)
 have D:∀M:Nat->Prop,Ext M w U:=λM=>⟨T.1,T.2.1,T.2.2,by omega,λb d _=>J b d⟩
 have hLn:∀b,L b->b<w.heap.size:=λb d=>A.st.rel.Lsz b d
 have hlive1:∀b,live j (S a0) b->b<w.heap.size:=λb d=>kh.live_lt d
 have hliveC:∀b,live (j.upto nc) Hc b->b<w.heap.size:=λb d=>kc.live_lt d
 let Lit:Nat->Prop:=λb=>L b\/live j (S a0) b\/b=w.heap.size+1\/b=w.heap.size
 have hmg:∀b,Mof L (live (j.upto nc) Hc) (w.heap.size+1) w.heap.size b->zuH (λb=>L b\/live (j.upto nc) Hc b) w U b:=λb d=>by
  rcases d with d|d|d|d
  .exact .inl (.inl d)
  .exact .inl (.inr d)
  .exact .inr (by omega)
  .exact .inr (by omega)
 have hin0:In nt n0 w0 (Mof L (live (j.upto nc) Hc) (w.heap.size+1) w.heap.size) ι0 H0 B U j K1.get (S a0) N a:=by refine⟨k.size,(k.defers.yield kh (D _)).less (λb d=>d.imp (hmg b) id),⟨⟨(D L).os.trans k.st.ext.os,(D L).tape.trans k.st.ext.tape,(D L).output.trans k.st.ext.output,Wh k.st.ext.size (D L).size,λb d hn=>?_⟩,k.st.inj,(kh.yield (D _)).less hmg,k.st.lv⟩,hN,λi=>(zvw kh (D _) (k.kn i)).anti (λb d=>d.imp (hmg b) id)⟩;rw[J b (Wj d k.st.ext.size)];exact k.st.ext.block b d hn
 have hw0:w0.heap.size<=w.heap.size:=k.st.ext.size;have hOl:∀b,live (j.upto nc) Hc b->live ι0 H0 b\/w0.heap.size<=b:=λb d=>o.st.lv b (lvC b d)
 have hJ0:RngJ nt n0 w0 L ι0 H0 B K1 S N a (w.heap.size+1) w.heap.size (rcOf fn0 a.tmps m z cB w.heap.size .ready none) U.heap.size (λa=>inv a s0) Lit (live (j.upto nc) Hc) U a0 j:=by
  refine⟨hinv0,hin0,hw1l,hw1d,λb d=>.inr (.inl d),λb d=>.inl d,.inr (.inr (.inl rfl)),.inr (.inr (.inr rfl)),λb d=>⟨λu=>?_,hOl b d⟩,λb d=>?_,Wf _,by omega,hw0,by omega,by omega⟩
  .have:=hliveC b d;rcases u with u|u|u|u
   .exact kc.out b d (.inl u)
   .exact kc.out b d (.inr u)
   .omega
   .omega
  .rcases d with d|d|d|d
   .have:=hLn b d;omega
   .have:=hlive1 b d;omega
   .omega
   .omega
 have hLitG:∀b,Lit b->zuH (λb=>L b\/live j (S a0) b) w U b:=λb d=>by
  rcases d with d|d|d|d
  .exact .inl (.inl d)
  .exact .inl (.inr d)
  .exact .inr (by omega)
  .exact .inr (by omega)
 have relC:RelH U Lit (j.upto nc) Hc nc:=(kc.yield (D _)).less hLitG
 have hvc:VRs U (Lt Lit (j.upto nc) Hc) (j.upto nc) Y.toList caps:=by
  refine .ofGet _ _ (by simpa using hcs) λi v b h1 h2=>?_
  have h3:=(hcv i v b (by simpa using h1) h2).upto (hcaps b (Wk h2))
  exact h3.mono (λb d hn=>⟨J b d,λu=>by
   rcases u with (u|u|u|u)|u
   .exact hn (.inl u)
   .exact hn (.inr (k5 b (lvT b u)))
   .omega
   .omega
   .exact hn (.inr (k5 b (lvC b u)))⟩) (λr q g l h=>by
    unfold Inj.upto at h⊢;split at h
    .rename_i hr;rw[if_pos hr];exact k6 r q g l (by omega) h
    .cases h)
 have hLd:¬L w.heap.size:=λZ=>Nat.lt_irrefl _ (hLn _ Z)
 refine callsIn_wide.2 ((hit U Lit (j.upto nc) Y (w.heap.size+1) _ _ (λs=>zxL (p:=λa=>inv a s)) (by
   rintro L1 O O' v v' ⟨e,c,hc,C⟩ g1 g2 g3 g4 g5 g6 g7
   exact⟨e,c,hc,zxL L1 O O' v v' C g1 g2 g3 g4 g5 g6 g7⟩) (zJN (n0:=n0) (w0:=w0) (L:=L) (H0:=H0) (act:=a) (dp:=w.heap.size) (n1:=U.heap.size) (fn0:=fn0) hA hB base hps hlt hcA hcB hdA hdB hlen hround) (λs L O w ⟨y,ι,C⟩=>hok y s C.hp) relC hvc ⟨a0,j,hJ0⟩).mono λe w' ⟨v,L2,ι2,H2,nx2,he,sty,_,hres⟩=>?_)
 subst he;obtain⟨relR,lvR⟩:=sty.rel.restrict (n:=nc)
 have X:∀{p:α->Prop}{rc:Loop}{a1:α}{ι3:Inj}{so:Option σ}(rc4:Loop),RngJ nt n0 w0 L ι0 H0 B K1 S N a (w.heap.size+1) w.heap.size rc U.heap.size p L2 (live ι2 H2) w' a1 ι3->R so (Xl H2 nc) ->
   ∃I,In nt n0 w0 L ι0 H0 B (w'.putObj (w.heap.size+1) (.loop rc4)) I K1.get (Xl H2 nc++S a1) N { a with defers:=[zvs w.heap.size]++a.defers }:=λ{p rc a1 ι3 so} rc4 C hR=>by
  have e4:Ext L2 w' (w'.putObj (w.heap.size+1) (.loop rc4)):=znm C.hl;refine⟨_,(zIR hn0 hLd C).merge (relR.others e4 Xh) lvR (λb d=>(C.ho b d).2) C.ll C.own (hRl _ _ hR) (F a1) hK1 hnN λr q g l hr Z=>?_⟩;refine sty.inj r q g l ?_;unfold Inj.upto;rw[if_pos hr];exact o.st.inj r q g l Z
 rcases hres with ⟨s,⟨a1,ι3,C⟩,hs,hR⟩|⟨⟨e,c,hc,a1,ι3,C⟩,_,hR⟩
 .obtain⟨I,hi⟩:=X _ C hR;exact⟨_,_,run_endLoop C.hrec (by simp[rcOf]),I,K1,_,N,hi,hdone a1 s _ C.hp hs hR⟩
 .refine⟨_,_,run_endLoop C.hrec (by simp[rcOf]),?_⟩
  cases e with
  |ret=>cases hc;obtain⟨I,hi⟩:=X { rcOf fn0 a.tmps m z cB w.heap.size .done (some .ret)with state:=.exhausted } C hR;exact wpIn_ret ⟨I,K1,_,N,hi,u a1 _ _ C.hp hR⟩
  |exit id=>cases hc;obtain⟨I,hi⟩:=X { rcOf fn0 a.tmps m z cB w.heap.size .done (some (.exit id))with state:=.exhausted } C hR;exact wpIn_exit ⟨I,K1,_,N,hi,u a1 _ _ C.hp hR⟩
  |_=>cases hc
end
section
variable {P:Program}{L:Nat->Prop}{nt n0:Nat}{w0:World}{ι0:Inj}{H0:AH}{B:Nat}
theorem zqF{ops}{drop}{Q}:∀(l:List Oper)(b:List AOper),b.length=l.length->(∀(i:Nat)(o:Oper)(d:AOper),l[i]?=some o->b[i]?=some d->OpRel P nt ops o d) ->
  ∀{w:World}{ι:Inj}{K:Kn}{H:AH}{nx:Nat}{a:Act},In nt n0 w0 L ι0 H0 B w ι K.get H nx a->aops P b drop Q K H nx->wpList P ops (QQ nt n0 w0 L ι0 H0 B Q) l a w
 |[],[],_,_,w,ι,K,H,nx,a,c,h=>⟨ι,K.drop drop,H,nx,c.drop drop,h⟩
 |
  o::l,d::b,hl,hr,w,ι,K,H,nx,a,c,h=>by
  have j:=hr 0 o d rfl rfl;have m:=zwa (k':=λρ H nx=>∃g,Kn.get g=ρ/\aops P b drop Q g H nx) (λK H nx n=>⟨K,rfl,n⟩) h
  have:=zp0 j c m (Kc:=wpList P ops (QQ nt n0 w0 L ι0 H0 B Q) l) (Qc:=QQ nt n0 w0 L ι0 H0 B Q) (λy t u v s x e ⟨g,k,n⟩=>by
   subst k
   exact zqF l b (by simpa using hl) (λi o d j q=>hr (i+1) o d (by simpa using j) (by simpa using q)) e n)
  unfold wpList;split
  .rename_i p;rw[if_pos p]at this;exact .inl this
  .rename_i p;rw[if_neg p]at this;exact this
theorem zwk{ops}:∀{l:List Oper}{b:List AOper},l.mapM (zFa P nt ops)=some b->b.length=l.length/\∀(i:Nat)(o:Oper)(c:AOper),l[i]?=some o->b[i]?=some c->OpRel P nt ops o c:=by intro l b h;refine⟨zjR.mapM_len _ _ _ h,λi o c d e=>zFI (zjR.mapM_get _ _ _ h i o c d e)⟩
def zsZ(P:Program):Prop:=∀(F:Fence)(n:Nat),zgG F->∀(nt n0:Nat)(w0:World)(L:Nat->Prop)(ι0:Inj)(H0:AH)(B:Nat)(id:Nat)(ops:Array Oper)(b:List AOper)(drop:List Nat)(Q:QT),
 b.length=ops.size->(∀(i:Nat)(o:Oper)(d:AOper),ops.toList[i]?=some o->b[i]?=some d->OpRel P nt ops o d)->P.follows .mixedOrders=true ->
 ((Wz ops.size).all λj=>((ops.toList.map zdF).getD j []).all λi=>Nat.blt i j)=true->(F=Xe\/∀(i:Nat)(o:Oper),ops.toList[i]?=some o->∀c,o.op≠.defer c) ->
 ∀(w:World)(ι:Inj)(K:Kn)(H:AH)(nx:Nat)(a:Act),In nt n0 w0 L ι0 H0 B w ι K.get H nx a ->
  awpT P (zcQ b (ops.toList.map zdF) ops.size (Wt ops.size false)) drop Q K H nx->(Code.region id ops true).wpIn F n P (QQ nt n0 w0 L ι0 H0 B Q) a w
theorem zj2(q):∀(k:Nat)(b:List AOper),(zgF q k b).length=b.length
 |_,[]=>rfl
 |k,o::r=>by simp[zgF,zj2 q (k+1) r]
theorem zoD(q):∀(k:Nat)(c:List AOper)(i:Nat)(b:AOper),(zgF q k c)[i]?=some b->∃a,c[i]?=some a/\(b=a\/b=a.quiet)
 |_,[],i,b,h=>by simp[zgF]at h
 |
  k,o::r,0,b,h=>by
  simp only[zgF,List.getElem?_cons_zero,We]at h;refine⟨o,rfl,?_⟩;cases d:memN q k<;>rw[d]at h
  .exact .inl h.symm
  .exact .inr h.symm
 |
  k,o::r,i+1,b,h=>by
  simp only[zgF,WD]at h;simpa using zoD q (k+1) r i b h
noncomputable def zlf(G:Nat->Act->World->Prop)(a:Act)(w:World):Nat:=open Classical in if h:∃n,G n a w/\∀m,G m a w->n<=m then Classical.choose h else 0
theorem zIe{p:Nat->Prop}(h:∃n,p n):∃n,p n/\∀m,p m->n<=m:=by
 obtain⟨n,g⟩:=h
 induction n using Nat.strongRecOn with
 |_ n ih=>
  by_cases b:∃m,m<n/\p m
  .obtain⟨m,c,d⟩:=b;exact ih m c d
  .exact⟨n,g,λm e=>by
   rcases Nat.lt_or_ge m n with h|h
   .exact absurd ⟨m,h,e⟩ b
   .exact h⟩
theorem zrh{G:Nat->Act->World->Prop}{a:Act}{w}(h:∃n,G n a w):G (zlf G a w) a w/\∀m,G m a w->zlf G a w<=m:=by
 have b:=zIe h;have e:zlf G a w=Classical.choose b:=by unfold zlf;rw[dif_pos b]
 rw[e];exact Classical.choose_spec b
theorem zq0{G:Nat->Act->World->Prop}{a:Act}{w}(h:∃n,G n a w):G (zlf G a w) a w:=(zrh h).1
theorem zu2{G:Nat->Act->World->Prop}{a:Act}{w}{n}(h:G n a w):zlf G a w<=n:=(zrh ⟨n,h⟩).2 n h
theorem zzU{a x}(h:zzv a=some (.scope x)):a=x:=by
 unfold zzv at h;split at h
 .cases h;rfl
 .split at h<;>cases h
theorem zC0{a x y}{l}(h:zzv a=some (.jump l x y)):a=x/\zrU a l=some y:=by
 unfold zzv at h;split at h
 .cases h
 .split at h
  .rename_i b;cases h;exact⟨rfl,b⟩
  .cases h
theorem zbK{a x:ACode}(h:zzv a=some x):match x with |.scope _=>True |.jump _ _ _=>True|_=>False:=by
 unfold zzv at h;split at h
 .cases h;trivial
 .split at h<;>cases h
  trivial
theorem zux{q}:∀{c:Code}{x:ACode}{l:Nat}{d:Code},comp P nt q c=some x->findLabel c l=some d->∃y,zrU x l=some y:=by
 intro c
 induction c with
 |seq a b iha ihb=>
  intro x l d g e;simp only[comp,Wc,Wa,We]at g;obtain⟨o,m,s,n,rfl⟩:=g;simp only[findLabel]at e;simp only[zrU];split at e
  .rename_i r k;obtain⟨y,j⟩:=iha m k;exact⟨_,by rw[j]⟩
  .obtain⟨y,j⟩:=ihb n e
   cases p:zrU o l with
   |none=>exact⟨y,j⟩
   |some r=>exact⟨_,rfl⟩
 |label l'=>
  intro x l d g e;simp only[comp,We]at g;subst g;simp only[findLabel]at e;split at e
  .rename_i h;have:l'=l:=by simpa using h
   subst this;exact⟨.skip,by simp[zrU]⟩
  .cases e
 |_=>intro x l d g e;cases e
theorem zCG{q}:∀{c:Code}{x y:ACode}{l:Nat},comp P nt q c=some x->zrU x l=some y->∃e,findLabel c l=some e/\comp P nt q e=some y:=by
 intro c
 induction c with
 |seq a b iha ihb=>
  intro x y l d g;simp only[comp,Wc,Wa,We]at d;obtain⟨v,p,w,t,rfl⟩:=d;simp only[zrU]at g;split at g
  .rename_i r o;cases g;obtain⟨e,h,j⟩:=iha p o;exact⟨.seq e b,by simp[findLabel,h],by simp[comp,j,t]⟩
  .rename_i o;obtain⟨e,h,j⟩:=ihb t g;refine⟨e,?_,j⟩
   have n:findLabel a l=none:=by
    cases m:findLabel a l with
    |none=>rfl
    |some rest'=>obtain⟨z,s⟩:=zux p m;rw[o]at s;cases s
   simp[findLabel,n,h]
 |label l'=>
  intro x y l d g;simp only[comp,We]at d;subst d;simp only[zrU]at g
  cases k:Nat.beq l' l with
  |true=>rw[k]at g;cases g;exact⟨.skip,by simp[findLabel,zm k],rfl⟩
  |false=>rw[k]at g;cases g
 |rangeFunc g0 ps0 cA cB=>
  intro x y l d g;exfalso;simp only[comp]at d;split at d
  .simp only[Wc,Wa,We]at d;obtain⟨_,_,_,_,_,_,rfl⟩:=d;simp[zrU]at g
  .cases d
 |_=>
  intro x y l d g;exfalso;simp only[comp]at d;first
  |(cases d;cases g;done)
  |(
    obtain⟨v,p,u⟩:=Wa.1 d;have:=zbK u
    cases x<;>first|(cases g;done)|exact this)
  |(
    simp only[Wc,Wa,We]at d;obtain⟨_,_,rfl⟩:=d
    cases g)
  |(
    simp only[Wc,Wa,We]at d;obtain⟨_,_,_,_,_,_,rfl⟩:=d
    cases g)
  |((repeat' split at d)<;>first|(cases d;done)|(simp at d;(repeat' split at d)<;>first|(cases d;cases g;done)|(cases d;done)|skip))
theorem qq_in(nt n0)(w0)(L)(ι0)(H0)(B)(Q):¬LetsOut (QQ nt n0 w0 L ι0 H0 B Q):=λ⟨_,_,_,_,_,_,_,h⟩=>h
theorem awp_in(hdraw:zsZ P){q}:∀(ac:ACode),zDM P q nt ac:=by
 intro ac
 induction ac with
 |skip=>intro F n M n0 w0 L ι0 H0 B base p c d O Q w ι K H nx a m h;cases c<;>simp only[comp,Xa]at d<;>first|exact wpIn_skip ⟨ι,K,H,nx,m,h⟩|(cases d;done)|(obtain⟨X,R,A⟩:=Wa.1 d;exact(zbK A).elim)|((repeat' split at d)<;>simp[Wa]at d;done)
 |region asv drop=>
  intro F n M n0 w0 L ι0 H0 B base p c d O Q w ι K H nx a m h
  cases c with
  |region id ops draw=>
   simp only[comp,Xa]at d;split at d
   .rename_i as' hm
    cases draw with
    |true=>simp at d
    |false=>simp at d;subst d;obtain⟨h1,h2⟩:=zwk hm;refine wpIn_region_list (zy6 M (qq_in nt n0 w0 L ι0 H0 B Q) _ _ _ (λo ho=>O.imp_right λJ=>zBg J ho) (zqF _ _ (by simpa using h1) (λi o ao h3 h4=>?_) m h));rw[WF]at h4;obtain⟨b,h5,rfl⟩:=Wi.1 h4;exact(h2 i o b h3 h5).ro
   .cases d
  |scope c1=>exfalso;simp only[comp,Xa,Wa]at d;obtain⟨X,R,A⟩:=d;exact(zbK A).elim
  |rangeFunc g0 T Z cB=>simp only[comp,Xa]at d;split at d<;>simp[Wa]at d
  |_=>simp[comp,Xa,Wa]at d
 |draw t drop=>
  intro F n M n0 w0 L ι0 H0 B base p c d O Q w ι K H nx a m h
  cases c with
  |region id ops draw=>
   simp only[comp,Xa]at d;split at d
   .rename_i as' hm
    cases draw with
    |false=>simp at d
    |true=>
     simp only[if_true]at d;split at d
     .rename_i hg;simp only[Wg]at hg;cases d;obtain⟨h1,h2⟩:=zwk hm;refine hdraw F n M nt n0 w0 L ι0 H0 B id ops ((zgF (q id) 0 as').map (AOper.ro (q 999999))) drop Q (by rw[List.length_map,zj2,h1];simp) (λi o ao h3 h4=>?_) hg.1 hg.2 (O.imp_right λJ i o ho=>zBg J (Wk ho)) w ι K H nx a m h;rw[WF]at h4;obtain⟨b0,h40,rfl⟩:=Wi.1 h4;obtain⟨b,h5,h6⟩:=zoD _ _ _ _ _ h40;rcases h6 with rfl|rfl
      .exact(h2 i o _ h3 h5).ro
      .exact(h2 i o _ h3 h5).quiet.ro
     .cases d
   .cases d
  |scope c1=>exfalso;simp only[comp,Xa,Wa]at d;obtain⟨X,R,A⟩:=d;exact(zbK A).elim
  |rangeFunc g0 T Z cB=>simp only[comp,Xa]at d;split at d<;>simp[Wa]at d
  |_=>simp[comp,Xa,Wa]at d
 |seq x y ihx ihy=>
  intro F n M n0 w0 L ι0 H0 B base p c d O Q w ι K H nx a m h
  cases c with
  |seq c1 c2=>
   simp only[comp,Xa,Wc,Wa,We]at d;obtain⟨X,R,y',hy,A⟩:=d;cases A;refine wpIn_seq (wpIn_mono (ihx M base p c1 R (O.imp_right λJ=>(by simp only[ziS,Wg]at J;exact J.1)) _ w ι K H nx a m h) λe a' w' ⟨v,W,V,D,k,I⟩=>?_)
   cases e with
   |normal=>exact ihy M base p c2 hy (O.imp_right λJ=>(by simp only[ziS,Wg]at J;exact J.2)) Q w' v W V D a' k I
   |exit id=>exact⟨v,W,V,D,k,I⟩
   |ret=>exact⟨v,W,V,D,k,I⟩
   |goto l=>exact⟨v,W,V,D,k,I⟩
   |_=>exact I.elim
  |scope c1=>exfalso;simp only[comp,Xa,Wa]at d;obtain⟨X,R,A⟩:=d;exact(zbK A).elim
  |region id ops draw=>simp only[comp,Xa]at d;(repeat' split at d)<;>simp at d
  |rangeFunc g0 T Z cB=>simp only[comp,Xa]at d;split at d<;>simp[Wa]at d
  |_=>simp[comp,Xa,Wa]at d
 |join x y ihx ihy=>
  intro F n M n0 w0 L ι0 H0 B base p c d O Q w ι K H nx a m h
  cases c with
  |seq c1 c2=>
   simp only[comp,Xa,Wc,Wa,We]at d;obtain⟨X,R,y',hy,A⟩:=d;cases A;obtain⟨α,S,N,inv,h1,h2⟩:=h;refine wpIn_seq (wpIn_mono (ihx M base p c1 R (O.imp_right λJ=>(by simp only[ziS,Wg]at J;exact J.1)) _ w ι K H nx a m h1) λe a' w' ⟨v,W,V,D,k,I⟩=>?_)
   cases e with
   |normal=>obtain⟨s,hs,A⟩:=I;obtain⟨U,C⟩:=k.entI base A;exact ihy M base p c2 hy (O.imp_right λJ=>(by simp only[ziS,Wg]at J;exact J.2)) Q w' U (S s).1 (S s).2 N a' C (h2 s hs C.wfK)
   |exit id=>exact⟨v,W,V,D,k,I⟩
   |ret=>exact⟨v,W,V,D,k,I⟩
   |goto l=>exact⟨v,W,V,D,k,I⟩
   |_=>exact I.elim
  |scope c1=>exfalso;simp only[comp,Xa,Wa]at d;obtain⟨X,R,A⟩:=d;exact(zbK A).elim
  |region id ops draw=>simp only[comp,Xa]at d;(repeat' split at d)<;>simp at d
  |rangeFunc g0 T Z cB=>simp only[comp,Xa]at d;split at d<;>simp[Wa]at d
  |_=>simp[comp,Xa,Wa]at d
 |cond x y z ihy ihz=>
  intro F n M n0 w0 L ι0 H0 B base p c d O Q w ι K H nx a m h
  cases c with
  |cond x1 c1 c2=>
   simp only[comp,Xa,Wc,Wa,We]at d;obtain⟨X,R,y',hy,z',hz,A⟩:=d;cases A;have hv:=zt m.kn R;simp only[awp]at h
   cases hev:ev K.get x with
   |bool t=>
    rw[hev]at h hv;simp only at h;generalize hu:a.eval x1=u at hv;cases hv
    cases t with
    |true=>exact wpIn_cond_true hu (ihy M base p c1 hy (O.imp_right λJ=>(by simp only[ziS,Wg]at J;exact J.1)) Q w ι K H nx a m (h.1 rfl))
    |false=>exact wpIn_cond_false hu (ihz M base p c2 hz (O.imp_right λJ=>(by simp only[ziS,Wg]at J;exact J.2)) Q w ι K H nx a m (h.2 rfl))
   |_=>rw[hev]at h;exact h.elim
  |scope c1=>exfalso;simp only[comp,Xa,Wa]at d;obtain⟨X,R,A⟩:=d;exact(zbK A).elim
  |region id ops draw=>simp only[comp,Xa]at d;(repeat' split at d)<;>simp at d
  |rangeFunc g0 T Z cB=>simp only[comp,Xa]at d;split at d<;>simp[Wa]at d
  |_=>simp[comp,Xa,Wa]at d
 |block id x ih=>
  intro F n M n0 w0 L ι0 H0 B base p c d O Q w ι K H nx a m h
  cases c with
  |block id' c1=>
   simp only[comp,Xa,Wc,Wa,We]at d;obtain⟨X,R,A⟩:=d;cases A;refine wpIn_block (wpIn_mono (ih M base p c1 R (O.imp_right λJ=>(by simpa only[ziS]using J)) _ w ι K H nx a m h) λe a' w' ⟨v,W,V,D,k,I⟩=>?_)
   cases e with
   |normal=>exact⟨v,W,V,D,k,I⟩
   |exit j=>
    simp only[Exit.inBlock];simp only at I;by_cases hj:j=id
    .subst hj;rw[if_pos rfl];rw[zbP]at I;exact⟨v,W,V,D,k,I⟩
    .rw[if_neg hj];rw[zbc hj]at I;exact⟨v,W,V,D,k,I⟩
   |ret=>exact⟨v,W,V,D,k,I⟩
   |goto l=>exact⟨v,W,V,D,k,I⟩
   |_=>exact I.elim
  |scope c1=>exfalso;simp only[comp,Xa,Wa]at d;obtain⟨X,R,A⟩:=d;exact(zbK A).elim
  |region id ops draw=>simp only[comp,Xa]at d;(repeat' split at d)<;>simp at d
  |rangeFunc g0 T Z cB=>simp only[comp,Xa]at d;split at d<;>simp[Wa]at d
  |_=>simp[comp,Xa,Wa]at d
 |loop x ih=>
  intro F n M n0 w0 L ι0 H0 B base p c d O Q w ι K H nx a m h
  cases c with
  |loop c1=>
   simp only[comp,Xa,Wc,Wa,We]at d;obtain⟨X,R,A⟩:=d;cases A;obtain⟨α,S,N,inv,μ,⟨s0,hs0,he0⟩,hround⟩:=h;obtain⟨ι1,hin1⟩:=m.entI base he0;refine wpIn_loop_ghost (λn a w=>∃s ι,inv s/\μ s=n/\In nt n0 w0 L ι0 H0 B w ι (Kn.get (S s).1) (S s).2 N a) (μ s0) ⟨s0,ι1,hs0,rfl,hin1⟩ ?_;rintro n a' w' ⟨s,v,hs,rfl,k⟩;refine wpIn_mono (ih M base p c1 R (O.imp_right λJ=>(by simpa only[ziS]using J)) _ w' v (S s).1 (S s).2 N a' k (hround s hs k.wfK)) λe a2 w2 ⟨U,K2,H2,nx2,C,I⟩=>?_
   cases e with
   |normal=>obtain⟨s',hs',hlt,A⟩:=I;obtain⟨ι3,hin3⟩:=C.entI base A;exact⟨_,hlt,s',ι3,hs',rfl,hin3⟩
   |exit id=>exact⟨U,K2,H2,nx2,C,I⟩
   |ret=>exact⟨U,K2,H2,nx2,C,I⟩
   |goto l=>exact⟨U,K2,H2,nx2,C,I⟩
   |_=>exact I.elim
  |scope c1=>exfalso;simp only[comp,Xa,Wa]at d;obtain⟨X,R,A⟩:=d;exact(zbK A).elim
  |region id ops draw=>simp only[comp,Xa]at d;(repeat' split at d)<;>simp at d
  |rangeFunc g0 T Z cB=>simp only[comp,Xa]at d;split at d<;>simp[Wa]at d
  |_=>simp[comp,Xa,Wa]at d
 |exit id=>
  intro F n M n0 w0 L ι0 H0 B base p c d O Q w ι K H nx a m h
  cases c with
  |exit id'=>simp only[comp,Xa,We]at d;cases d;exact wpIn_exit ⟨ι,K,H,nx,m,h⟩
  |scope c1=>exfalso;simp only[comp,Xa,Wa]at d;obtain⟨X,R,A⟩:=d;exact(zbK A).elim
  |region id ops draw=>simp only[comp,Xa]at d;(repeat' split at d)<;>simp at d
  |rangeFunc g0 T Z cB=>simp only[comp,Xa]at d;split at d<;>simp[Wa]at d
  |_=>simp[comp,Xa,Wa]at d
 |ret=>
  intro F n M n0 w0 L ι0 H0 B base p c d O Q w ι K H nx a m h
  cases c with
  |ret=>exact wpIn_ret ⟨ι,K,H,nx,m,h⟩
  |scope c1=>exfalso;simp only[comp,Xa,Wa]at d;obtain⟨X,R,A⟩:=d;exact(zbK A).elim
  |region id ops draw=>simp only[comp,Xa]at d;(repeat' split at d)<;>simp at d
  |rangeFunc g0 T Z cB=>simp only[comp,Xa]at d;split at d<;>simp[Wa]at d
  |_=>simp[comp,Xa,Wa]at d
 |label l=>
  intro F n M n0 w0 L ι0 H0 B base p c d O Q w ι K H nx a m h
  cases c with
  |label l'=>exact wpIn_label ⟨ι,K,H,nx,m,h⟩
  |scope c1=>exfalso;simp only[comp,Xa,Wa]at d;obtain⟨X,R,A⟩:=d;exact(zbK A).elim
  |region id ops draw=>simp only[comp,Xa]at d;(repeat' split at d)<;>simp at d
  |rangeFunc g0 T Z cB=>simp only[comp,Xa]at d;split at d<;>simp[Wa]at d
  |_=>simp[comp,Xa,Wa]at d
 |goto l=>
  intro F n M n0 w0 L ι0 H0 B base p c d O Q w ι K H nx a m h
  cases c with
  |goto l'=>simp only[comp,Xa,We]at d;cases d;exact wpIn_goto ⟨ι,K,H,nx,m,h⟩
  |scope c1=>exfalso;simp only[comp,Xa,Wa]at d;obtain⟨X,R,A⟩:=d;exact(zbK A).elim
  |region id ops draw=>simp only[comp,Xa]at d;(repeat' split at d)<;>simp at d
  |rangeFunc g0 T Z cB=>simp only[comp,Xa]at d;split at d<;>simp[Wa]at d
  |_=>simp[comp,Xa,Wa]at d
 |scope x ih=>
  intro F n M n0 w0 L ι0 H0 B base p c d O Q w ι K H nx a m h
  cases c with
  |scope c1=>
   simp only[comp,Xa,Wa]at d;obtain⟨X,R,A⟩:=d;have hx':=zzU A;subst hx';obtain rfl:F=Xe:=O.resolve_right (λJ=>by cases J);refine wpIn_wide.2 (wp_scope_straight (wp_mono (wpIn_wide.1 (ih (n:=0) M base p c1 R (.inl rfl) (noGQ Q) w ι K H nx a m h)) λe a' w' ⟨v,W,V,D,k,I⟩=>?_))
   cases e with
   |normal=>exact⟨v,W,V,D,k,I⟩
   |exit id=>exact⟨v,W,V,D,k,I⟩
   |ret=>exact⟨v,W,V,D,k,I⟩
   |_=>exact I.elim
  |region id ops draw=>simp only[comp,Xa]at d;(repeat' split at d)<;>simp at d
  |rangeFunc g0 T Z cB=>simp only[comp,Xa]at d;split at d<;>simp[Wa]at d
  |_=>simp[comp,Xa,Wa]at d
 |jump l x y ihx ihy=>
  intro F n M n0 w0 L ι0 H0 B base p c d O Q w ι K H nx a m h
  cases c with
  |scope c1=>
   simp only[comp,Xa,Wa]at d;obtain⟨X,R,A⟩:=d;obtain⟨rfl,hf⟩:=zC0 A;obtain⟨rest,hrest,hcr⟩:=zCG R hf;obtain⟨α,S,N,inv,μ,h1,h2⟩:=h;obtain rfl:F=Xe:=O.resolve_right (λJ=>by cases J);let G:Nat->Act->World->Prop:=λn a w=>∃s ι,inv s/\μ s=n/\In nt n0 w0 L ι0 H0 B w ι (Kn.get (S s).1) (S s).2 N a
   refine wpIn_wide.2 (wp_scope_jumps l (λa w=>∃n,G n a w) (zlf G) hrest ?_ ?_)
   .refine wp_mono (wpIn_wide.1 (ihx (n:=0) M base p c1 R (.inl rfl) _ w ι K H nx a m h1)) λe a' w' ⟨v,W,V,D,k,I⟩=>?_
    cases e with
    |normal=>exact⟨v,W,V,D,k,I⟩
    |exit id=>exact⟨v,W,V,D,k,I⟩
    |ret=>exact⟨v,W,V,D,k,I⟩
    |goto l'=>obtain⟨rfl,s,hs,A⟩:=I;obtain⟨U,C⟩:=k.entI base A;exact⟨rfl,_,s,U,hs,rfl,C⟩
    |_=>exact I.elim
   .intro a' w' hJ;obtain⟨s,v,hs,hμ,k⟩:=zq0 hJ;refine wp_mono (wpIn_wide.1 (ihy (n:=0) M base p rest hcr (.inl rfl) _ w' v (S s).1 (S s).2 N a' k (h2 s hs k.wfK))) λe a2 w2 ⟨U,K2,H2,nx2,C,I⟩=>?_
    cases e with
    |normal=>exact⟨U,K2,H2,nx2,C,I⟩
    |exit id=>exact⟨U,K2,H2,nx2,C,I⟩
    |ret=>exact⟨U,K2,H2,nx2,C,I⟩
    |goto l'=>obtain⟨rfl,s',hs',hlt,A⟩:=I;obtain⟨ι3,hin3⟩:=C.entI base A;have hg:G (μ s') a2 w2:=⟨s',ι3,hs',rfl,hin3⟩;exact⟨rfl,⟨_,hg⟩,by rw[<-hμ];exact Nat.lt_of_le_of_lt (zu2 hg) hlt⟩
    |_=>exact I.elim
  |region id ops draw=>simp only[comp,Xa]at d;(repeat' split at d)<;>simp at d
  |rangeFunc g0 T Z cB=>simp only[comp,Xa]at d;split at d<;>simp[Wa]at d
  |_=>simp[comp,Xa,Wa]at d
 |range g ps x y ihx ihy=>
  intro F n M n0 w0 L ι0 H0 B base p c d O Q w ι K H nx a m h
  cases c with
  |rangeFunc g0 T Z cB=>
   simp only[comp,Xa]at d;split at d
   .rename_i Y;simp only[Wg,Wx]at Y;simp only[Wc,Wa,We]at d;obtain⟨g',hg,X,R,y',hy,A⟩:=d;cases A;obtain rfl:F=Xe:=O.resolve_right (λJ=>by cases J);exact zIK ihx ihy base p hg rfl (λt ht=>by simpa using Y.2 t ht) R hy Y.1.1 Y.1.2 m h
   .cases d
  |scope c1=>exfalso;simp only[comp,Xa,Wa]at d;obtain⟨X,R,A⟩:=d;exact(zbK A).elim
  |region id ops draw=>simp only[comp,Xa]at d;(repeat' split at d)<;>simp at d
  |_=>simp[comp,Xa,Wa]at d
 |mark n x ih=>intro F n M n0 w0 L ι0 H0 B base p c d O Q w ι K H nx a m h;obtain⟨K2,H2,nx2,A,h2⟩:=h m.wfK;obtain⟨U,C⟩:=m.entI base A;exact ih M base p c d O Q w U K2 H2 nx2 a C h2
theorem zDZ(b:zsZ P)(base:RelH w0 L ι0 H0 B)(g:n0<=w0.heap.size){q:Nat->List Nat}(d:ACode)(c:Code)(j:comp P nt q c=some d.strip)(Q:QT)(w:World)(ι:Inj)(K:Kn)(H:AH)(nx:Nat)(a:Act)(e:In nt n0 w0 L ι0 H0 B w ι K.get H nx a)(h:awp P B d Q K H nx):c.wp P (QQ nt n0 w0 L ι0 H0 B Q) a w :=
 wpIn_wide.1 (awp_in b d (n:=0) (.inl rfl) base.idx g c j (.inl rfl) Q w ι K H nx a e h)
end
section
variable {P:Program}
def opA(P:Program)(b:List AOper)(i:Nat)(ρ:Nat->AV)(H:AH)(nx:Nat)(k:(Nat->AV)->AH->Nat->Prop):Prop :=
 ExF P false (b.getD i default) ρ H nx k
def anyA(P:Program)(d:List AOper)(c:List (List Nat))(Q:(Nat->AV)->AH->Nat->Prop):Nat->List Bool->(Nat->AV)->AH->Nat->Prop
 |0,b,ρ,H,nx=>(∀i,i<d.length->zbQ c b i=false)/\Q ρ H nx
 |
  fuel+1,b,ρ,H,nx=>((∀i,i<d.length->zbQ c b i=false)->Q ρ H nx) /\
  ∀i,i<d.length->zbQ c b i=true->opA P d i ρ H nx (anyA P d c Q fuel (b.set i true))
theorem zIw{fx}{o}{ρ}{H}{nx}{k k'}(d:∀ρ H nx,k ρ H nx->k' ρ H nx)(h:ExF P fx o ρ H nx k):ExF P fx o ρ H nx k':=by
 unfold ExF at *
 cases g:o.guard with
 |none=>rw[g]at h;exact zcV (λv H nx h=>d _ _ _ h) h
 |some p=>
  obtain⟨t,c⟩:=p;rw[g]at h;simp only at h⊢
  cases j:grd c (ρ t)with
  |some b=>rw[j]at h;exact⟨λe=>zcV (λv H nx h=>d _ _ _ h) (h.1 e),λe=>d _ _ _ (h.2 e)⟩
  |none=>rw[j]at h;exact h
theorem zar:∀(l:List Nat)(i:Nat),memN l i=true↔i∈l
 |[],i=>by simp[memN]
 |
  j::t,i=>by
  simp only[memN]
  cases h:Nat.beq j i with
  |true=>simp[zm h]
  |false=>
   have:¬j=i:=λe=>by rw[e,zbP]at h;cases h
   simp[zar t i,Xg this,eq_comm]
theorem zqu{l}{i}(h:memN l i=false):i∉l:=λb=>by rw[(zar l i).2 b]at h;cases h
theorem zW{ρ ρ'}{x}(h:∀t∈x.tmps,ρ t=ρ' t):ev ρ x=ev ρ' x:=by
 cases x with
 |t n=>exact h n (by simp[AOpd.tmps])
 |c v=>rfl
theorem ziP{ρ ρ'}:∀{xs:List AOpd},(∀t∈xs.flatMap (·.tmps),ρ t=ρ' t)->evs ρ xs=evs ρ' xs
 |[],_=>rfl
 |
  x::xs,h=>by
  simp only[evs]
  rw[zW (λt b=>h t (by simp[b])),ziP (λt b=>h t (by
   simp only[WG,Wu]
   exact .inr b))]
theorem zpI{ρ ρ'}:∀ {c:List (Nat×Nat×AOpd)},(∀t∈c.flatMap (·.2.2.tmps),ρ t=ρ' t)->zeD ρ c=zeD ρ' c
 |[],_=>rfl
 |
  (a,b,x)::c,h=>by
  simp only[zeD]
  rw[zW (λt d=>h t (by simp[d])),zpI (λt d=>h t (by
   simp only[WG,Wu]
   exact .inr d))]
theorem zo0{ρ ρ'}:∀ {b:List (Nat×AOpd)},(∀t∈b.flatMap (·.2.tmps),ρ t=ρ' t)->zkD ρ b=zkD ρ' b
 |[],_=>rfl
 |
  (a,x)::b,h=>by
  simp only[zkD]
  rw[zW (λt c=>h t (by simp[c])),zo0 (λt c=>h t (by
   simp only[WG,Wu]
   exact .inr c))]
theorem zyq{ρ ρ'}{H}{nx}{o}(h:∀t∈o.tmps,ρ t=ρ' t):aop o ρ H nx=aop o ρ' H nx:=by
 cases o with
 |slice m x g e=>
  simp only[aop];rw[zW (x:=x) (λt d=>h t (by simp[Xb,d]))]
  have p:evO ρ g=evO ρ' g:=by
   cases g with
   |none=>rfl
   |some y=>simp only[evO];rw[zW (x:=y) (λt d=>h t (by simp[Xb,d]))]
  have q:evO ρ e=evO ρ' e:=by
   cases e with
   |none=>rfl
   |some y=>simp only[evO];rw[zW (x:=y) (λt d=>h t (by simp[Xb,d]))]
  rw[p,q]
 |build z j=>simp only[aop];rw[zpI (λt d=>h t d)]
 |buildSl m len z j=>simp only[aop];rw[zo0 (λt d=>h t d)]
 |rbuildSl m len z j=>simp only[aop];rw[zo0 (λt d=>h t d)]
 |mkfn f s=>simp only[aop];rw[ziP (λt d=>h t d)]
 |pick c x y=>simp only[aop];rw[zW (x:=c) (λt d=>h t (by simp[Xb,d])),zW (x:=x) (λt d=>h t (by simp[Xb,d])),zW (x:=y) (λt d=>h t (by simp[Xb,d]))]
 |store n x y=>simp only[aop];rw[zW (x:=x) (λt d=>h t (by simp[Xb,d])),zW (x:=y) (λt d=>h t (by simp[Xb,d]))]
 |idx n x y=>simp only[aop];rw[zW (x:=x) (λt d=>h t (by simp[Xb,d])),zW (x:=y) (λt d=>h t (by simp[Xb,d]))]
 |bin op x y=>simp only[aop];rw[zW (x:=x) (λt d=>h t (by simp[Xb,d])),zW (x:=y) (λt d=>h t (by simp[Xb,d]))]
 |eqb n x y=>simp only[aop];rw[zW (x:=x) (λt d=>h t (by simp[Xb,d])),zW (x:=y) (λt d=>h t (by simp[Xb,d]))]
 |mksl a b z x y=>simp only[aop];rw[zW (x:=x) (λt d=>h t (by simp[Xb,d])),zW (x:=y) (λt d=>h t (by simp[Xb,d]))]
 |append a b x y=>simp only[aop];rw[zW (x:=x) (λt d=>h t (by simp[Xb,d])),zW (x:=y) (λt d=>h t (by simp[Xb,d]))]
 |mov x=>simp only[aop];rw[zW (x:=x) (λt d=>h t d)]
 |load a n x=>simp only[aop];rw[zW (x:=x) (λt d=>h t d)]
 |fldaddr a n x=>simp only[aop];rw[zW (x:=x) (λt d=>h t d)]
 |fld a n b x=>simp only[aop];rw[zW (x:=x) (λt d=>h t d)]
 |len x=>simp only[aop];rw[zW (x:=x) (λt d=>h t d)]
 |slen x=>simp only[aop];rw[zW (x:=x) (λt d=>h t d)]
 |un op x=>simp only[aop];rw[zW (x:=x) (λt d=>h t d)]
 |conv k x=>simp only[aop];rw[zW (x:=x) (λt d=>h t d)]
 |box x=>simp only[aop];rw[zW (x:=x) (λt d=>h t d)]
 |rbox x=>simp only[aop];rw[zW (x:=x) (λt d=>h t d)]
 |cut x=>simp only[aop];rw[zW (x:=x) (λt d=>h t d)]
 |clear a z x=>simp only[aop];rw[zW (x:=x) (λt d=>h t d)]
 |ext i x=>simp only[aop];rw[zW (x:=x) (λt d=>h t d)]
 |xop x u=>simp only[aop];rw[ziP (λt d=>h t d)]
 |_=>rfl
theorem zle{fx}{ρ ρ'}{H}{nx}{o}{k}(h:∀t∈o.tmps,ρ t=ρ' t):zcK P fx o ρ H nx k=zcK P fx o ρ' H nx k:=by
 cases o with
 |call f xs=>simp only[zcK];rw[ziP (λt c=>h t c)]
 |callq f xs=>simp only[zcK];rw[ziP (λt c=>h t c)]
 |isnil n p x=>simp only[zcK];rw[zW (x:=x) (λt c=>h t c)]
 |mnext x=>simp only[zcK];rw[zW (x:=x) (λt c=>h t c)]
 |append2 a b x y=>simp only[zcK];rw[zW (x:=x) (λt c=>h t (by simp[Xb,c])),zW (x:=y) (λt c=>h t (by simp[Xb,c]))]
 |callv x xs=>
  simp only[zcK]
  rw[zW (x:=x) (λt c=>h t (by simp[Xb,c])),ziP (xs:=xs) (λt c=>h t (by
   simp only[Xb,Wu]
   exact .inr c))]
 |_=>simp only[zcK];rw[zyq h]
theorem zFc{x}{l}{H}{nx}(h:x.pure=true):(xopR x l H nx).H=H/\(xopR x l H nx).nx=nx:=by
 cases x<;>first|(cases h;done)|skip
 all_goals
  unfold xopR;split<;>(try unfold zAT)<;>simp only[zr4,zok,seqR,zwK,b2sR,s2bR,zqU,minR,eqsR,sl3R,zjn,znK,zsv,zrR,zhA,zz2,zvD,zmK,zzy,apzR,bad]
 all_goals(repeat' split)<;>first|exact⟨rfl,rfl⟩|exact⟨trivial,trivial⟩|(exfalso;simp_all;done)
theorem zCD{x}{l}{H H'}{nx nx'}(h:x.pure=true)(d:x.reads=false):(xopR x l H nx).v=(xopR x l H' nx').v/\((xopR x l H nx).side->(xopR x l H' nx').side):=by
 cases x<;>first|(cases h;done)|(cases d;done)|skip
 all_goals rcases l with _|⟨a,_|⟨b,_|⟨c,l⟩⟩⟩<;>first|exact⟨rfl,id⟩|skip
 all_goals simp only[xopR,zok,seqR,zwK,minR,eqsR,zvD,zmK,zzy,bad]
 all_goals(repeat' split)<;>first|exact⟨rfl,id⟩|exact⟨trivial,id⟩
theorem zAI{ρ}{H}{nx}{o}(h:o.pure=true):(aop o ρ H nx).H=H/\(aop o ρ H nx).nx=nx:=by
 cases o<;>first|(cases h;done)|exact zFc h|skip
 all_goals simp only[aop,zlL,zlu,zd5,zfu,idxR,zcO,fldR,lenR,zte,binI,eqB,unR,zmt,zg3,zcM,boxR,zoC,zbu,zjz,zlz,zfY,cutR,ze8,ziF,extR,bad]
 all_goals(repeat' split)<;>first|exact⟨rfl,rfl⟩|exact⟨trivial,trivial⟩
theorem zEn{ρ}{H H'}{nx nx'}{o}(h:o.pure=true)(b:o.reads=false):(aop o ρ H nx).v=(aop o ρ H' nx').v/\((aop o ρ H nx).side->(aop o ρ H' nx').side):=by
 cases o<;>first|(cases h;done)|(cases b;done)|exact zCD h b|skip
 all_goals simp only[aop,zlL,zlu,zd5,zfu,idxR,zcO,fldR,lenR,zte,binI,eqB,unR,zmt,zg3,zcM,boxR,zoC,zbu,zjz,zlz,zfY,cutR,ze8,ziF,extR,bad]
 all_goals(repeat' split)<;>first|exact⟨rfl,id⟩|exact⟨trivial,id⟩
def Yld(P:Program)(o:AOper)(ρ:Nat->AV)(H:AH)(nx:Nat)(v:AV):Prop :=
 let body:Prop:=(o.op.pure=true/\(aop o.op ρ H nx).side/\v=(aop o.op ρ H nx).v)\/∃f d,o.op=.callq f d/\zdx P f (evs ρ d) H nx v
 match o.guard with
 |none=>body
 |some (t,c)=>∃b,grd c (ρ t)=some b/\((b=true/\body)\/(b=false/\v=.tup []))
theorem zo5{o}{ρ}{H}{nx}{k}(g:o.fixed=true)(h:ExF P false o ρ H nx k):∃v,Yld P o ρ H nx v/\k (upd ρ o.dst v) H nx:=by
 have key:∀k:AV->AH->Nat->Prop,zcK P false o.op ρ H nx k->∃v,((o.op.pure=true/\(aop o.op ρ H nx).side/\v=(aop o.op ρ H nx).v)\/∃f q,o.op=.callq f q/\zdx P f (evs ρ q) H nx v)/\k v H nx:=by
  intro k e;unfold AOper.fixed at g
  cases j:o.op.pure with
  |true=>
   obtain⟨c,d⟩:=zAI (ρ:=ρ) (H:=H) (nx:=nx) j;have u:znW false (aop o.op ρ H nx) k:=by unfold zcK at e;cases n:o.op<;>rw[n]at e j<;>first|(cases j;done)|exact e
   refine⟨_,.inl ⟨j▸rfl,u.1,rfl⟩,?_⟩;have:=u.2 trivial
   rwa [c,d]at this
  |false=>
   rw[j]at g;simp only[Bool.false_or]at g;split at g
   .rename_i f q n;unfold zcK at e;rw[n]at e;obtain⟨v,c,d⟩:=e;exact⟨v,.inr ⟨f,q,n,c⟩,d⟩
   .cases g
 unfold ExF at h;unfold Yld
 cases s:o.guard with
 |none=>rw[s]at h;obtain⟨v,c,d⟩:=key _ h;exact⟨v,c,d⟩
 |some p=>
  obtain⟨t,m⟩:=p;rw[s]at h;simp only at h⊢
  cases w:grd m (ρ t)with
  |some b=>
   rw[w]at h;simp only at h
   cases b with
   |true=>obtain⟨v,c,d⟩:=key _ (h.1 rfl);exact⟨v,⟨true,rfl,.inl ⟨rfl,c⟩⟩,d⟩
   |false=>exact⟨.tup [],⟨false,rfl,.inr ⟨rfl,rfl⟩⟩,h.2 rfl⟩
  |none=>rw[w]at h;exact h.elim
theorem zmE{o}{ρ}{H}{nx}{v}{k}(d:Yld P o ρ H nx v)(m:k (upd ρ o.dst v) H nx):ExF P false o ρ H nx k:=by
 have key:((o.op.pure=true/\(aop o.op ρ H nx).side/\v=(aop o.op ρ H nx).v)\/∃f s,o.op=.callq f s/\zdx P f (evs ρ s) H nx v)->zcK P false o.op ρ H nx (λv g c=>k (upd ρ o.dst v) g c):=by
  rintro(⟨q,B,rfl⟩|⟨f,s,n,j⟩)
  .obtain⟨y,z⟩:=zAI (ρ:=ρ) (H:=H) (nx:=nx) q
   have w:znW false (aop o.op ρ H nx) (λv g c=>k (upd ρ o.dst v) g c):=⟨B,λ_=>by
    rw[y,z]
    exact m⟩
   unfold zcK;cases n:o.op<;>rw[n]at w q<;>first|(cases q;done)|exact w
  .unfold zcK;rw[n];exact⟨v,j,m⟩
 unfold Yld at d;unfold ExF
 cases u:o.guard with
 |none=>rw[u]at d;exact key d
 |some p=>
  obtain⟨t,x⟩:=p;rw[u]at d;obtain⟨b,A,j⟩:=d;simp only;rw[A];rcases j with ⟨rfl,h⟩|⟨rfl,rfl⟩
  .exact⟨λ_=>key h,λe=>(by cases e)⟩
  .exact⟨λe=>(by cases e),λ_=>m⟩
theorem zGO{ρ}{d b}{v u}(h:∀x,d=some x->b≠some x):upd (upd ρ d v) b u=upd (upd ρ b u) d v:=by
 cases d with
 |none=>cases b<;>rfl
 |some x=>
  cases b with
  |none=>rfl
  |some y=>
   have c:y≠x:=λe=>h x rfl (by rw[e])
   funext i;simp only[upd];by_cases g:i=y
   .subst g;simp[c]
   .simp[g]
theorem zo8{ρ}{d}{v}{t}(h:d≠some t):upd ρ d v t=ρ t:=by
 cases d with
 |none=>rfl
 |some x=>
  have:t≠x:=λe=>h (by rw[e])
  simp[upd,this]
theorem zCb{x y:AOper}(h:x.apart y=true):
  (∀d,x.dst=some d->d∉y.looks)/\(∀d,x.dst=some d->y.dst≠some d)/\(∀d,y.dst=some d->d∉x.looks)/\(y.fixed=true\/x.sees=false):=by
 unfold AOper.apart at h;simp only[Wg,Bool.or_eq_true,Wl]at h;obtain⟨⟨b,c⟩,e⟩:=h;refine⟨λd hd=>?_,λd hd g=>?_,λd hd=>?_,e⟩
 .rw[hd]at b;simp only[Wg,Wl]at b;exact zqu b.1
 .rw[hd]at b;simp only[Wg,Wl]at b;rw[g]at b;simp[zbP]at b
 .rw[hd]at c;simp only[Wl]at c;exact zqu c
theorem znk{o:AOper}{t:Nat}(h:t∈o.op.tmps):t∈o.looks:=by unfold AOper.looks;exact Wu.2 (.inr h)
theorem zkY{o:AOper}{t:Nat}{b:Bool}(h:o.guard=some (t,b)):t∈o.looks:=by unfold AOper.looks;rw[h];simp
theorem zsD{o}{ρ ρ'}{H}{nx}{v}(d:∀t∈o.looks,ρ t=ρ' t)(h:Yld P o ρ H nx v):Yld P o ρ' H nx v:=by
 have n:aop o.op ρ H nx=aop o.op ρ' H nx:=zyq λt k=>d t (znk k)
 have q:∀f c,o.op=.callq f c->evs ρ c=evs ρ' c:=λf c e=>ziP λt k=>d t (znk (by rw[e];exact k))
 have key:((o.op.pure=true/\(aop o.op ρ H nx).side/\v=(aop o.op ρ H nx).v)\/∃f c,o.op=.callq f c/\zdx P f (evs ρ c) H nx v) ->
   ((o.op.pure=true/\(aop o.op ρ' H nx).side/\v=(aop o.op ρ' H nx).v)\/∃f c,o.op=.callq f c/\zdx P f (evs ρ' c) H nx v):=by
  rintro(h|⟨f,c,e,g⟩)
  .rw[<-n];exact .inl h
  .exact .inr ⟨f,c,e,by rw[<-q f c e];exact g⟩
 unfold Yld at *
 cases j:o.guard with
 |none=>rw[j]at h;exact key h
 |some p=>obtain⟨t,m⟩:=p;rw[j]at h;obtain⟨b,w,g⟩:=h;exact⟨b,by rw[<-d t (zkY j)];exact w,g.imp (λ⟨s,u⟩=>⟨s,key u⟩) id⟩
theorem zwJ{o}{ρ}{H H'}{nx nx'}{v}(e:o.sees=false)(h:Yld P o ρ H nx v):Yld P o ρ H' nx' v:=by
 unfold AOper.sees at e;simp only[Bool.or_eq_false_iff]at e
 have key:((o.op.pure=true/\(aop o.op ρ H nx).side/\v=(aop o.op ρ H nx).v)\/∃f c,o.op=.callq f c/\zdx P f (evs ρ c) H nx v) ->
   ((o.op.pure=true/\(aop o.op ρ H' nx').side/\v=(aop o.op ρ H' nx').v)\/∃f c,o.op=.callq f c/\zdx P f (evs ρ c) H' nx' v):=by
  rintro(⟨d,g,s⟩|⟨f,c,w,j⟩)
  .obtain⟨n,q⟩:=zEn (ρ:=ρ) (H:=H) (H':=H') (nx:=nx) (nx':=nx') d e.1;exact .inl ⟨d,q g,by rw[<-n];exact s⟩
  .have:=e.2;rw[w]at this;cases this
 unfold Yld at *
 cases k:o.guard with
 |none=>rw[k]at h;exact key h
 |some p=>obtain⟨t,m⟩:=p;rw[k]at h;obtain⟨b,u,j⟩:=h;exact⟨b,u,j.imp (λ⟨d,g⟩=>⟨d,key g⟩) id⟩
theorem zKa{x y}{ρ}{H}{nx}{v}{k}(A:x.apart y=true)(F:Yld P x ρ H nx v)(h:ExF P false y (upd ρ x.dst v) H nx k):
  ExF P false y ρ H nx (λz j c=>Yld P x z j c v/\k (upd z x.dst v) j c):=by
 obtain⟨J,K,L,M⟩:=zCb A;have d:∀t∈y.looks,upd ρ x.dst v t=ρ t:=λt s=>zo8 λe=>J t e s
 have I:∀u,∀t∈x.looks,ρ t=upd ρ y.dst u t:=λu t s=>(zo8 λe=>L t e s).symm
 have n:∀(u:AV)(j:AH)(c:Nat),(x.sees=false\/(j=H/\c=nx))->Yld P x (upd ρ y.dst u) j c v:=by
  intro u j c q;rcases q with q|⟨rfl,rfl⟩
  .exact zwJ q (zsD (I u) F)
  .exact zsD (I u) F
 have comm:∀u,upd (upd ρ x.dst v) y.dst u=upd (upd ρ y.dst u) x.dst v:=λu=>zGO K
 rcases M with o|g
 .obtain⟨u,O,N⟩:=zo5 o h;refine zmE (zsD d O) ⟨n u H nx (.inr ⟨rfl,rfl⟩),?_⟩;rw[<-comm];exact N
 .have m:zcK P false y.op (upd ρ x.dst v) H nx (λu j c=>k (upd (upd ρ x.dst v) y.dst u) j c)->zcK P false y.op ρ H nx (λu j c=>Yld P x (upd ρ y.dst u) j c v/\k (upd (upd ρ y.dst u) x.dst v) j c):=by intro C;rw[zle (λt s=>d t (znk s))]at C;exact zcV (λu j c q=>⟨n u j c (.inl g),by rw[<-comm];exact q⟩) C
  unfold ExF at h⊢
  cases B:y.guard with
  |none=>rw[B]at h;exact m h
  |some p=>
   obtain⟨t,w⟩:=p;rw[B]at h;simp only at h⊢;rw[d t (zkY B)]at h
   cases D:grd w (ρ t)with
   |some b=>rw[D]at h;exact⟨λe=>m (h.1 e),λe=>⟨n (.tup []) H nx (.inl g),by rw[<-comm];exact h.2 e⟩⟩
   |none=>rw[D]at h;exact h
theorem zfH{l}{i j}(b:i<l.length):getB (l.set i true) j=if j=i then true else getB l j:=by
 unfold getB;by_cases h:j=i
 .subst h;simp[b]
 .rw[if_neg h];simp[List.getElem?_set,Xg h]
theorem zbe{b}{listed}{i}:zbQ b listed i=true↔getB listed i=false/\∀j∈b.getD i [],getB listed j=true:=by unfold zbQ;simp only[Wg,Wl,Wx]
theorem zqK{deps}{listed}{i j}(c:i<listed.length)(h:zbQ deps listed j=true)(b:j≠i):zbQ deps (listed.set i true) j=true:=by
 rw[zbe]at *;refine⟨by rw[zfH c,if_neg b];exact h.1,λk d=>?_⟩;rw[zfH c];split
 .rfl
 .exact h.2 k d
theorem set_comm(l:List Bool)(i j:Nat):(l.set i true).set j true=(l.set j true).set i true:=by
 by_cases h:i=j
 .subst h;rfl
 .exact List.set_comm _ _ h
theorem zB9{bs}{deps}{Q}{i}(C:i<bs.length){v}:
  ∀(c:Nat)(b:List Bool)(ρ:Nat->AV)(H:AH)(nx:Nat),b.length=bs.length ->
   (∀j,j<bs.length->j≠i->getB b j=false->i∉deps.getD j []->(bs.getD i default).apart (bs.getD j default)=true) ->
   zbQ deps b i=true->Yld P (bs.getD i default) ρ H nx v->anyA P bs deps Q c (b.set i true) (upd ρ (bs.getD i default).dst v) H nx->anyA P bs deps Q (c+1) b ρ H nx:=by
 intro c
 induction c with
 |zero=>
  intro b ρ H nx D d n q h;refine⟨λs=>(by rw[s i C]at n;cases n),λj p g=>?_⟩;by_cases e:j=i
  .subst e;exact zmE q h
  .have:=h.1 j p;rw[zqK (by omega) g e]at this;cases this
 |succ c ih=>
  intro b ρ H nx D d n q h;refine⟨λs=>(by rw[s i C]at n;cases n),λj p g=>?_⟩;by_cases e:j=i
  .subst e;exact zmE q h
  .have u:i<b.length:=by omega
   have I:=h.2 j p (zqK u g e);have o:i∉deps.getD j []:=λL=>by have:=(zbe.1 g).2 i L;rw[(zbe.1 n).1]at this;cases this
   have t:=d j p e (zbe.1 g).1 o;have J:=zKa t q I;refine zIw (λB F A ⟨z,w⟩=>?_) J;refine ih (b.set j true) B F A (by simpa using D) (λk K x m y=>d k K x ?_ y) (zqK (by omega) n (Xg e)) z ?_
   .rw[zfH (by omega)]at m;split at m
    .cases m
    .exact m
   .rw[set_comm];exact w
def zhX:List Bool->Nat
 |[]=>0
 |b::r=>(bif b then 0 else 1)+zhX r
theorem znh:∀{l:List Bool}{i:Nat},i<l.length->getB l i=false->zhX (l.set i true)+1=zhX l
 |[],i,h,_=>by simp at h
 |
  b::r,0,_,hb=>by
  simp[getB]at hb;subst hb;simp[zhX];omega
 |
  b::r,i+1,h,hb=>by
  have:=znh (l:=r) (i:=i) (by simpa using h) (by simpa [getB]using hb);simp only[List.set_cons_succ,zhX];omega
theorem zlp:∀{l:List Bool},zhX l=0->∀i,i<l.length->getB l i=true
 |[],_,i,h=>by simp at h
 |
  b::r,h,i,hi=>by
  simp only[zhX]at h
  cases b with
  |false=>simp at h
  |true=>
   cases i with
   |zero=>rfl
   |succ i=>have:=zlp (l:=r) (by simpa using h) i (by simpa using hi);simpa [getB]using this
theorem zxs{drop}{Q}:∀ {l:List (AOper×DTree)}{K:Kn}{H:AH}{nx:Nat},awpT P (zI7 l) drop Q K H nx->∀p∈l,ExK P false p.1 K H nx (awpT P p.2 drop Q)
 |[],_,_,_,_,p,b=>by simp at b
 |
  (o,t)::r,K,H,nx,h,p,b=>by
  rcases WE.1 b with rfl|b
  .exact h.1
  .exact zxs (l:=r) h.2 p b
theorem zBT{bs}{deps}{drop}{Q}:∀(c:Nat)(b:List Bool)(K:Kn)(H:AH)(nx:Nat),b.length=bs.length->zhX b<=c ->
  awpT P (zcQ bs deps c b) drop Q K H nx->anyA P bs deps (λρ H nx=>∃K,Kn.get K=ρ/\Q .normal (K.drop drop) H nx) c b K.get H nx
 |
  0,b,K,H,nx,hl,hc,h=>by
  refine⟨λi g=>?_,K,rfl,h⟩;have:=zlp (l:=b) (by omega) i (by omega);unfold zbQ;rw[this];rfl
 |
  c+1,b,K,H,nx,hl,hc,h=>by
  simp only[zcQ]at h
  cases y:(Wz bs.length).filter (zbQ deps b)with
  |nil=>
   rw[y]at h
   have p:∀i,i<bs.length->zbQ deps b i=false:=λi g=>by
    cases s:zbQ deps b i with
    |false=>rfl
    |true=>have:i∈(Wz bs.length).filter (zbQ deps b):=Wp.2 ⟨WA.2 g,s⟩;rw[y]at this;simp at this
   exact⟨λ_=>⟨K,rfl,h⟩,λi g s=>by rw[p i g]at s;cases s⟩
  |cons q r0=>
   rw[y]at h;have k:∀i,i∈q::r0->i<bs.length/\zbQ deps b i=true:=λi g=>by rw[<-y]at g;have:=Wp.1 g;exact⟨WA.1 this.1,this.2⟩
   simp only at h
   have next:∀i,i∈q::r0->∀(n:Kn)(m:AH)(d:Nat),awpT P (zcQ bs deps c (b.set i true)) drop Q n m d ->
     anyA P bs deps (λρ H nx=>∃K,Kn.get K=ρ/\Q .normal (K.drop drop) H nx) c (b.set i true) n.get m d:=λi g n m d w=>by
    obtain⟨I,A⟩:=k i g;refine zBT c (b.set i true) n m d (by simpa using hl) ?_ w;have:=znh (l:=b) (i:=i) (by omega) (zbe.1 A).1;omega
   cases z:(q::r0).find? (zG6 bs deps b)with
   |some i=>
    rw[z]at h;simp only[awpT]at h;have g:=List.mem_of_find?_eq_some z;have e:=List.find?_some z;obtain⟨I,A⟩:=k i g;unfold zG6 at e;simp only[Wg,Wx,WA,Bool.or_eq_true]at e;obtain⟨u,t⟩:=e;have B:=zwa (k':=anyA P bs deps (λρ H nx=>∃K,Kn.get K=ρ/\Q .normal (K.drop drop) H nx) c (b.set i true)) (λn m d w=>next i g n m d w) h;obtain⟨v,N,M⟩:=zo5 u B;refine zB9 I c b K.get H nx hl (λj L C F D=>?_) A N M;rcases t j L with ((o|o)|o)|o
    .exact absurd (zm o).symm C
    .rw[F]at o;cases o
    .exact absurd ((zar _ _).1 o) D
    .exact o
   |none=>
    rw[z]at h;simp only at h;have halt:=zxs h;refine⟨λJ=>?_,λi g s=>?_⟩
    .have:=J q (k q (by simp)).1;rw[(k q (by simp)).2]at this;cases this
    .have x:i∈q::r0:=by rw[<-y];exact Wp.2 ⟨WA.2 g,s⟩
     have:=halt (bs.getD i default,zcQ bs deps c (b.set i true)) (List.mem_map.2 ⟨i,x,rfl⟩);exact zwa (λn m d w=>next i x n m d w) this
theorem ztQ{ops:Array Oper}{j:Nat}{o:Oper}(h:ops[j]?=some o):(ops.toList.map zdF).getD j []=zdF o:=by simp[Wm,WF,h]
theorem zvr{o}{i}:i∈zdF o↔∃e∈o.after,Region.binds .any e=true/\e.on=i:=by
 unfold zdF;simp only[List.mem_map,Wp,Array.mem_toList_iff];constructor
 .rintro⟨e,⟨b,c⟩,d⟩;exact⟨e,b,c,d⟩
 .rintro⟨e,b,c,d⟩;exact⟨e,⟨b,c⟩,d⟩
theorem zkO{ops}{listed}{j}(t:listed.length=ops.size):j∈Xu .any ops listed.toArray↔j<ops.size/\zbQ (ops.toList.map zdF) listed j=true:=by
 rw[mem_ready];have n:∀(i:Nat),listed.toArray.getD i false=getB listed i:=λi=>by simp[getB,Wm]
 constructor
 .rintro⟨c,o,d,s⟩;have m:j<ops.size:=(Wv.1 d).1;refine⟨m,zbe.2 ⟨?_,λi p=>?_⟩⟩
  .have b:j<listed.length:=by omega
   simp[Wn,b]at c;simp[getB,b,c]
  .rw[ztQ d]at p;obtain⟨e,k,g,rfl⟩:=zvr.1 p;rw[<-n];exact s e k g
 .rintro⟨m,h⟩;obtain⟨c,d⟩:=zbe.1 h;have q:ops[j]?=some ops[j]:=Wo m;refine⟨?_,ops[j],q,λe k g=>?_⟩
  .have b:j<listed.length:=by omega
   simp[getB,b]at c;simp[Wn,b,c]
  .rw[n];refine d _ ?_;rw[ztQ q];exact zvr.2 ⟨e,k,g,rfl⟩
theorem zxu{L}{nt n0}{w0}{ι0}{H0}{B}{ops}{bs}{Q}{Qc:Exit->Act->World->Prop}(k:bs.length=ops.size)(e:∀(i:Nat)(o:Oper)(x:AOper),ops.toList[i]?=some o->bs[i]?=some x->OpRel P nt ops o x)(n:∀w ι ρ H nx a,In nt n0 w0 L ι0 H0 B w ι ρ H nx a->Q ρ H nx->Qc .normal a w) :
  ∀(c:Nat)(b:List Bool)(w:World)(ι:Inj)(ρ:Nat->AV)(H:AH)(nx:Nat)(a:Act),b.length=bs.length->In nt n0 w0 L ι0 H0 B w ι ρ H nx a->anyA P bs (ops.toList.map zdF) Q c b ρ H nx ->
   wpAny P .any ops Qc c b.toArray a w
 |
  0,b,w,ι,ρ,H,nx,a,hl,d,h=>by
  refine⟨?_,n _ _ _ _ _ _ d h.2⟩;rw[WO];intro j I;obtain⟨y,m⟩:=(zkO (by omega)).1 I;rw[h.1 j (by omega)]at m;cases m
 |
  c+1,b,w,ι,ρ,H,nx,a,hl,d,h=>by
  refine⟨λF=>n _ _ _ _ _ _ d (h.1 λi z=>?_),λi z=>?_⟩
  .cases p:zbQ (ops.toList.map zdF) b i with
   |false=>rfl
   |true=>have:i∈Xu .any ops b.toArray:=(zkO (by omega)).2 ⟨by omega,p⟩;rw[F]at this;simp at this
  .obtain⟨y,m⟩:=(zkO (by omega)).1 z;have A:ops[i]?=some ops[i]:=Wo y;have p:bs[i]?=some (bs.getD i default):=by simp[Wm,Wd (show i<bs.length by omega)]
   have K:=e i ops[i] _ (by simp[A]) p;have q:=h.2 i (by omega) m
   have:=zp0 K d q (Kc:=wpAny P .any ops Qc c (b.toArray.setIfInBounds i true)) (Qc:=Qc) (λM u v C t D g J=>by
    have:=zxu k e n c (b.set i true) M u v C t D (by simpa using hl) g J
    simpa using this)
   unfold wpOp;rw[A];simp only;split
   .rename_i s;rw[if_pos s]at this;exact .inl this
   .rename_i s;rw[if_neg s]at this;exact this
theorem In.drewW{L}{nt n0}{w0 w}{ι0 ι}{H0 H}{B nx}{ρ}{a:Act}(h:In nt n0 w0 L ι0 H0 B w ι ρ H nx a):In nt n0 w0 L ι0 H0 B { w with drawn:=w.drawn+1 } ι ρ H nx a:=by
 have e:∀{M:Nat->Prop}{ι:Inj}{v:Value}{x:AV},VR w M ι v x->VR { w with drawn:=w.drawn+1 } M ι v x:=λh=>VR.mono (w:=w) (w':={ w with drawn:=w.drawn+1 }) (λb _ m=>⟨rfl,m⟩) h (λ_ _ _ _ h=>h)
 have c:=h.st;refine⟨h.size,h.defers,⟨⟨c.ext.os,c.ext.tape,c.ext.output,c.ext.size,c.ext.block⟩,c.inj,?_,c.lv⟩,h.le,λi=>e (h.kn i)⟩
 exact⟨λr q o d g k=>let ⟨l,j,ok⟩:=c.rel.row r q o d g k;⟨l,j,ok.trans (λ_=>rfl) (λv a n=>e n)⟩,
  c.rel.apart,c.rel.out,c.rel.idx,c.rel.dom,c.rel.gen,c.rel.Lsz⟩
theorem zvc:zsZ P:=by
 intro F n t q p s L k m B id ops z drop Q b j g _ e w ι K H nx a c h
 have d:=zBT ops.size (Wt ops.size false) K H nx (by simp[b]) (by
  have:∀n,zhX (Wt n false)=n:=λn=>by
   induction n with
   |zero=>rfl
   |succ n y=>simp[List.replicate_succ,zhX,y];omega
  rw[this]
  exact Wf _) h
 refine wpIn_region_any g (zA1 t (qq_in q p s L k m B Q) (λi o v=>e.imp_right λhd=>hd i o (by simpa using v)) _ _ _ _ ?_)
 have:=zxu b j (Qc:=QQ q p s L k m B Q) (λw ι ρ H nx a c ⟨K,u,x⟩=>by
  subst u
  exact⟨ι,K.drop drop,H,nx,c.drop drop,x⟩) ops.size (Wt ops.size false) _ ι K.get H nx a (by simp[b]) c.drewW d
 simpa using this
theorem zEw(d k:Nat)(m:World)(L:Nat->Prop)(b:Inj)(e:AH)(B:Nat)(id:Nat)(ops:Array Oper)(c:List AOper)(drop:List Nat)(Q:QT)(p:c.length=ops.size)(q:∀(i:Nat)(o:Oper)(n:AOper),ops.toList[i]?=some o->c[i]?=some n->OpRel P d ops o n)(s:P.follows .mixedOrders=true)(t:((Wz ops.size).all λj=>((ops.toList.map zdF).getD j []).all λi=>Nat.blt i j)=true)(w:World)(ι:Inj)(K:Kn)(H:AH)(nx:Nat)(a:Act)(g:In d k m L b e B w ι K.get H nx a)(h:awpT P (zcQ c (ops.toList.map zdF) ops.size (Wt ops.size false)) drop Q K H nx):(Code.region id ops true).wp P (QQ d k m L b e B Q) a w :=
 wpIn_wide.1 (zvc Xe 0 (.inl rfl) d k m L b e B id ops c drop Q p q s t (.inl rfl) w ι K H nx a g h)
end
section
variable {P:Program}
theorem zHC{w}{L}{ι}{agg}{n}{pv}{p}{H}{nx}(b:VR w L ι pv p)(c:(zd5 agg n p H nx).side):∃a,pv=.pointer (some a):=by cases b<;>first|exact⟨_,rfl⟩|simp[zd5,bad]at c
theorem zGq{w:World}{L:Nat->Prop}{ι:Inj}{H:AH}{nx:Nat}{tmps:Array Value}{K:Kn}(rel:RelH w L ι H nx)(o:KOk w (Lt L ι H) ι tmps K.get):
  ∀(g:List ResultVar)(q:List ARet),g.mapM (cret P)=some q->zcb K H nx q ->
   ∃c,(g.mapM (m:=Sem) λ| .tmp t=>pure (tmps.getD t undef) |.cell a t=>do loadVar t (<-asAddr (tmps.getD a undef))).run P w=.ok c w/\VRs w (Lt L ι H) ι c (zaU K H nx q)
 |[],q,h,_=>by simp at h;subst h;exact⟨[],by simp,.nil⟩
 |
  x::g,q,h,hs=>by
  simp only[WH,Wc,Option.pure_def,Wa,We]at h;obtain⟨b,e,s,k,rfl⟩:=h
  cases x with
  |tmp t=>simp only[cret,We]at e;subst e;obtain⟨c,j,u⟩:=zGq rel o g s k hs;refine⟨tmps.getD t undef::c,?_,.cons (o t) u⟩;simp only[WH,Xd,Xp,Xk,j]
  |cell t ty=>
   simp only[cret]at e;split at e
   .rename_i d i I D
    have key:∀(agg:Bool)(n:Nat),zdf d=agg->n=(if zdf d then i.size else 1)->b=.cell t agg n ->
      ∃c,((.cell t ty::g).mapM (m:=Sem) λ| .tmp t=>pure (tmps.getD t undef) |.cell a t=>do loadVar t (<-asAddr (tmps.getD a undef))).run P w=.ok c w/\VRs w (Lt L ι H) ι c (zaU K H nx (b::s)):=by
     rintro agg n rfl F rfl;obtain⟨p,y⟩:=hs;obtain⟨v,j,u,_⟩:=zvF I D rel (o t) F p;obtain⟨c,A,B⟩:=zGq rel o g s k y;refine⟨v::c,?_,.cons u B⟩;obtain⟨a,z⟩:=zHC (o t) p;rw[z]at j;simp only[Instr.loadAt,Instr.sureAddr,Xd,Xp,Xk]at j;have C:(do loadVar ty (<-asAddr (tmps.getD t undef)):Sem Value).run P w=.ok v w:=by simp only[z,asAddr,Xd,Xp,Xk,j]
     rw[WH,Xd,C,Xk,Xd,A];rfl
    split at e
    .rename_i hd;cases e;exact key true i.size hd (by rw[if_pos hd]) rfl
    .rename_i hd;cases e;exact key false 1 (by simpa using hd) (by rw[if_neg hd]) rfl
   .cases e
theorem VRs.tup{w}{M}{ι}{vs}{asv}(h:VRs w M ι vs asv):VR w M ι (.tuple vs.toArray) (.tup asv) :=
 .tup _ _ _ (by simpa using h.length) (λi v a b c=>h.get i v a (by simpa using b) c)
theorem zCK{w:World}{M:Nat->Prop}{ι:Inj}{fn:Func}{tmps:Array Value}{c:List Value}{b:List AV}(h:(fn.results.toList.mapM (m:=Sem) λ| .tmp t=>pure (tmps.getD t undef) |.cell a t=>do loadVar t (<-asAddr (tmps.getD a undef))).run P w=.ok c w)(k:VRs w M ι c b) :
  ∃v,(results fn tmps).run P w=.ok v w/\VR w M ι v (zkZ b):=by
 have key:(results fn tmps).run P w=.ok (if h:c.toArray.size=1 then c.toArray[0]else .tuple c.toArray) w:=by unfold results;rw[Array.mapM_eq_mapM_toList];rw[Xd,Sem.run_map];exact congrArg (λ(r:Result (List Value))=>(r.andThen λa d=>Result.ok a.toArray d).andThen λa d=>(pure (if h:a.size=1 then a[0]else Value.tuple a):Sem Value).run P d) h
 rw[key];refine⟨_,rfl,?_⟩
 cases k with
 |nil=>exact VRs.nil.tup
 |cons h1 e=>
  cases e with
  |nil=>exact h1
  |cons g j=>exact(VRs.cons h1 (.cons g j)).tup
theorem zFo{f}{fn}{c}{rs}{args}{H}{nx}{Post}(W:P.funcs[f]?=some fn)(q:fn.body=some c)(Y:fn.results.toList.mapM (cret P)=some rs)(R:args.length<=fn.ntmps)(h:∀(w:World)(L:Nat->Prop)(ι:Inj)(a:Act),RelH w L ι H nx->In fn.ntmps w.heap.size w L ι H nx w ι (zmR 0 args).get H nx a->c.wp P (QQ fn.ntmps w.heap.size w L ι H nx (retK rs Post)) a w):zS P f args H nx Post:=by
 intro w L ι z rel S;have Q:z.size=args.length:=by simpa using S.length
 refine zwT W q ?_
 have D:In fn.ntmps w.heap.size w L ι H nx w ι (zmR 0 args).get H nx { tmps:=z++Array.replicate (fn.ntmps-z.size) undef,defers:=[] }:=by
  refine⟨by simp;omega,.nil,.refl rel,Wf _,λi=>?_⟩;rw[zyc,if_pos (WI _),Nat.sub_zero];rcases Nat.lt_or_ge i args.length with C|C
  .have A:i<z.size:=by omega
   refine S.get i _ _ ?_ (by simp[Wm,Wd C]);simp[Wn,Array.getElem?_append,A]
  .rw[show args.getD i .undef=.undef by simp[Wm,List.getElem?_eq_none C]];exact .undef _ _
 refine wp_mono (h w L ι _ rel D) λe M o ⟨j,K,n,g,d,y⟩=>?_
 have t:zcb K n g rs/\Post (zkZ (zaU K n g rs)) n g->∃k,M.defers=k.map zvs/\k.Nodup/\(∀m∈k,o.heap[m]?=some (.deferred (some [])))/\∃v,(results fn M.tmps).run P (shut k o)=.ok v (shut k o) /\
   ∃u j n g a,Ending.returned v=.returned u/\Step w L ι H nx (shut k o) j n g/\nx<=g/\VR (shut k o) (Lt L j n) j u a/\Post a n g:=by
  intro⟨A,T⟩;obtain⟨k,Z,m2,J⟩:=d.defers;refine⟨k,Z,m2,λm F=>(J m F).2.1,?_⟩;have V:∀b,b∈k->zqW o b/\b<o.heap.size/\¬live j n b:=λb q=>by obtain⟨N,x,B⟩:=J b q;exact⟨λc e f O=>(by rw[x]at O;cases O),(Wv.1 x).1,λX=>B (.inr X)⟩
  have s:=zA5 k o;obtain⟨p,I⟩:=d.st.rel.turn V s;have st:Step w L ι H nx (shut k o) j n g:=by refine⟨⟨s.os.trans d.st.ext.os,s.tape.trans d.st.ext.tape,s.output.trans d.st.ext.output,Wh d.st.ext.size s.size,λb q R=>?_⟩,d.st.inj,p,d.st.lv⟩;rw[s.block b (Wj q d.st.ext.size) (λF=>by have:=(J b F).1;omega)];exact d.st.ext.block b q R
  obtain⟨us,U,N⟩:=zGq p (λi=>I _ _ (d.kn i)) _ _ Y A;obtain⟨v,x,B⟩:=zCK U N;exact⟨v,x,v,j,n,g,_,rfl,st,d.le,B,T⟩
 cases e with
 |normal=>exact⟨.inl rfl,t y⟩
 |ret=>exact⟨.inr rfl,t y⟩
 |exit id=>exact y.elim
 |_=>exact y.elim
theorem fn_ok{f}{fn}{c}{ac}{q}{rs}{args}{H}{nx}{Post}(g:P.funcs[f]?=some fn)(d:fn.body=some c)(e:comp P fn.ntmps q c=some ac.strip)(k:fn.results.toList.mapM (cret P)=some rs)(j:args.length<=fn.ntmps)(h:awp P nx ac (retK rs Post) (zmR 0 args) H nx):zS P f args H nx Post :=
 zFo g d k j λw L ι a rel b=>zDZ zvc rel (Wf _) ac c e _ w ι _ H nx a b h
end
def zM(P:Program)(f:FuncId)(q:Nat->List Nat):Option (ACode×List ARet×Nat) :=
 match P.funcs[f]? with
 |
  some fn=>match fn.body with
  |
   some c=>match comp P fn.ntmps q c,fn.results.toList.mapM (cret P)with
   |some a,some r=>some (a,r,fn.ntmps)
   |_,_=>none
  |none=>none
 |none=>none
theorem fn_of{P:Program}{f:FuncId}{q:Nat->List Nat}{e:ACode}{j:List ARet}{g:Nat}(d:zM P f q=some (e.strip,j,g)){args:List AV}{H:AH}{nx:Nat}{b:AV->AH->Nat->Prop}(p:args.length<=g)(h:awp P nx e (retK j b) (zmR 0 args) H nx):zS P f args H nx b:=by
 unfold zM at d;split at d
 .rename_i fn o;split at d
  .rename_i c n;split at d
   .rename_i a r k m;cases d;exact fn_ok o n k m p h
   .cases d
  .cases d
 .cases d
inductive Vw(H H2:AH)(σ:Nat->Nat->Option (Nat×Nat×Nat))(D:Nat->Nat->Prop):Bool->AV->AV->Prop
 |undef (t a):Vw H H2 σ D t a .undef
 |int (t k n):Vw H H2 σ D t (.int k n) (.int k n)
 |bool (t b):Vw H H2 σ D t (.bool b) (.bool b)
 |str (t s):Vw H H2 σ D t (.str s) (.str s)
 |nilp (t):Vw H H2 σ D t .nilp .nilp
 |nilfn (t):Vw H H2 σ D t .nilfn .nilfn
 |cut (t):Vw H H2 σ D t .cut .cut
 |nilsl (t):Vw H H2 σ D t .nilsl .nilsl
 |iptr (t n c):Vw H H2 σ D t (.iptr n c) (.iptr n c)
 |sl (t sz n f):Vw H H2 σ D t (.sl sz n f) (.sl sz n f)
 |nil0 (t sz f):Vw H H2 σ D t .nilsl (.sl sz 0 f)
 |slf (t sz n f f') (h:∀i j,i<n->j<sz->Vw H H2 σ D false (f i j) (f' i j)):Vw H H2 σ D t (.sl sz n f) (.sl sz n f')
 |iptrf (t n c c') (h:∀j,j<n->Vw H H2 σ D false (c j) (c' j)):Vw H H2 σ D t (.iptr n c) (.iptr n c')
 |mp (r q r' q') (hs:σ r' q'=some (r,q,0)):Vw H H2 σ D true (.mp r q) (.mp r' q')
 |nilmp (t):Vw H H2 σ D t .nilmp .nilmp
 |it (r r') (hs:σ r' 0=some (r,0,0)):Vw H H2 σ D true (.it r) (.it r')
 |own (r q g d off n r' q' g') (hs:σ r' q'=some (r,q,d)) (hg:g=g'+d):Vw H H2 σ D true (.own r q g off n) (.own r' q' g' off n)
 |ptr (r q g d i f r' q' g') (hs:σ r' q'=some (r,q,d)) (hg:g=g'+d):Vw H H2 σ D true (.ptr r q g i f) (.ptr r' q' g' i f)
 |new (r' q' sz) (hs:σ r' q'=none) (hg:H2.get r' q'=some (.row sz [] 0)):Vw H H2 σ D true .nilsl (.own r' q' 0 0 0)
 |frz (t r q g off n sz els f) (hD:D r q) (hg:H.get r q=some (.row sz els g)) (hb:n<=big) (hl:off+n<=els.length)
   (h:∀i j,i<n->j<sz->Vw H H2 σ D false ((els.getD (off+i) []).getD j .undef) (f i j)):Vw H H2 σ D t (.own r q g off n) (.sl sz n f)
 |frzp (t r q g i o n sz els c) (hD:D r q) (hg:H.get r q=some (.row sz els g)) (hi:i<els.length) (hl:o+n<=sz)
   (h:∀j,j<n->Vw H H2 σ D false ((els.getD i []).getD (o+j) .undef) (c j)):Vw H H2 σ D t (.ptr r q g i o) (.iptr n c)
 |fn (t f asv bs) (hl:asv.length=bs.length) (h:∀(i:Nat)(a b:AV),asv[i]?=some a->bs[i]?=some b->Vw H H2 σ D t a b):Vw H H2 σ D t (.fn f asv) (.fn f bs)
 |agg (t asv bs) (hl:asv.length=bs.length) (h:∀(i:Nat)(a b:AV),asv[i]?=some a->bs[i]?=some b->Vw H H2 σ D t a b):Vw H H2 σ D t (.agg asv) (.agg bs)
 |tup (t asv bs) (hl:asv.length=bs.length) (h:∀(i:Nat)(a b:AV),asv[i]?=some a->bs[i]?=some b->Vw H H2 σ D t a b):Vw H H2 σ D t (.tup asv) (.tup bs)
def ze7(g:AH)(σ:Nat->Nat->Option (Nat×Nat×Nat))(ι:Inj):Inj:=λe c b=>
 match σ e c with
 |some (r,q,d)=>ι r q (b+d)
 |
  none=>match g.get e c with
  |some (.row h [] 0)=>bif Nat.beq b 0 then some ⟨0,0,0,h⟩else none
  |_=>none
theorem add_add(a:Addr)(h:a.spot=none)(m n):(a.add m).add n=⟨a.block,a.off+m+n,none⟩:=by obtain⟨b,o,s⟩:=a;simp only at h;subst h;unfold Addr.add;split<;>split<;>simp_all
theorem Vw.sound{H H2}{σ}{D}{w}{L M}{ι}{nx}(rel:RelH w L ι H nx)(P:∀b,M b->Lt L ι H b)(Q:∀r q p z g l,D r q->H.get r q=some (.row p z g)->ι r q g=some l->0<l.cap*l.sz->¬M l.block){t}{a a'}(h:Vw H H2 σ D t a a') :
  ∀v,VR w (Lt L ι H) ι v a->VR w M (bif t then ze7 H2 σ ι else noI) v a':=by
 induction h with
 |undef=>intro v _;exact .undef _ _
 |int=>intro v h;cases h;exact .int _ _ _ ‹_›
 |bool=>intro v h;cases h;exact .bool _ _
 |str=>intro v h;cases h;exact .str _ _ ‹_›
 |nilp=>intro v h;cases h;exact .nilp _
 |nilfn=>intro v h;cases h;exact .nilfn _
 |cut=>intro v h;cases h;exact .cut _ _
 |mp r q T X y=>intro v h;cases h with|mp _ _ _ l h F=>exact .mp _ _ _ l (by simp only[cond_true,ze7,y];exact h) F
 |nilmp=>intro v h;cases h;exact .nilmp _
 |it r T y=>intro v h;cases h with|it _ _ l h F=>exact .it _ _ l (by simp only[cond_true,ze7,y];exact h) F
 |nilsl=>intro v h;cases h;exact .nilsl _
 |nil0=>intro v h;cases h;exact .sl0 _ _ _
 |iptr t n c=>
  intro v h
  cases h with
  |iptr _ a n c V J O B=>exact .iptr _ a n c V J (λx u=>O x (P _ u)) (λj k=>(B j k).anti P)
 |sl t p n f=>
  intro v h
  cases h with
  |sl _ a p n cap f V x u J O B=>exact .sl _ a p n cap f V x u J (λx u=>O x (P _ u)) (λi j e k=>(B i j e k).anti P)
  |sl0=>exact .sl0 _ _ _
 |iptrf t n c c' h C=>
  intro v h
  cases h with
  |iptr _ a n c V J O B=>exact .iptr _ a n c' V J (λx u=>O x (P _ u)) (λj k=>C j k _ ((B j k).mono (λb _ u=>⟨rfl,u⟩) (λ_ _ _ _ h=>by cases h)))
 |slf t p n f f' h C=>
  intro v h
  cases h with
  |sl _ a p n cap f V x u J O B=>exact .sl _ a p n cap f' V x u J (λx u=>O x (P _ u)) (λi j e k=>C i j e k _ ((B i j e k).mono (λb _ u=>⟨rfl,u⟩) (λ_ _ _ _ h=>by cases h)))
  |sl0=>exact .sl0 _ _ _
 |own r q g d off n T X g' y hg=>
  intro v h;subst hg
  cases h with
  |own _ _ _ _ _ _ a c l h F x J R=>exact .own _ _ _ _ _ _ _ _ l (by simp only[cond_true,ze7,y];exact h) F x J R
 |ptr r q g d i f T X g' y hg=>
  intro v h;subst hg
  cases h with
  |ptr _ _ _ _ _ _ l h F=>exact .ptr _ _ _ _ _ _ l (by simp only[cond_true,ze7,y];exact h) F
 |new T X p y hg=>intro v h;cases h;refine .own _ _ _ _ _ _ _ _ ⟨0,0,0,p⟩ (by simp[ze7,y,hg]) (WI _) (Wf _) (Wf _) (λh=>by omega)
 |frz t r q g off n p z f hD hg u hl h C=>
  intro v h
  cases h with
  |own _ _ _ _ _ _ a c l h F x J R=>
   obtain⟨Z,A,ok⟩:=rel.row _ _ _ _ _ hg;rw[h]at A;cases A;have I:=ok.hsz
   cases a with
   |none=>
    have:c=0:=by
     rcases Ws c with s|s
     .exact s
     .have:=R s;cases this
    subst this;obtain rfl:n=0:=by omega
    exact .sl0 _ _ _
   |some a=>
    have cell:∀i j,i<n->j<p->∃v,w.cell? ((a.add (i*p)).add j)=some v/\v.oneCell'=true/\VR w M noI v (f i j):=by
     intro i j e k;have s:off+i<z.length:=by omega
     have S:=ok.wide (off+i) _ (Wd s);obtain⟨v,m,K,N⟩:=ok.holds F (off+i) _ j _ (Wd s) (Wd (by rw[S];exact k));refine⟨v,?_,K,C i j e k v ?_⟩
     .have:=R (by omega);cases this;rw[add_add _ rfl,<-m,I];congr 2;show l.off+off*p+i*p+j=_;rw[Nat.add_mul];omega
     .simpa [Wm,Wd s,Wd (show j<z[off+i].length by rw[S];exact k)]using N
    refine .sl _ a p n c f (λi j=>(w.cell? ((a.add (i*p)).add j)).getD Go.undef) x u (λi j e k=>?_) (λU=>?_) (λi j e k=>?_)
    .obtain⟨v,m,K,_⟩:=cell i j e k;rw[m];exact⟨rfl,K⟩
    .have Y:0<n:=by
      rcases Ws n with s|s
      .subst s;simp at U
      .exact s
     have W:0<p:=by
      rcases Ws p with s|s
      .subst s;simp at U
      .exact s
     have:=R (by omega);cases this;exact Q _ _ _ _ _ _ hD hg h (by rw[I];exact Nat.mul_pos (by omega) W)
    .obtain⟨v,m,_,N⟩:=cell i j e k;simpa [m]using N
 |frzp t r q g i o n p z c hD hg e hl h C=>
  intro v h
  cases h with
  |ptr _ _ _ _ _ _ l h F=>
   obtain⟨Z,A,ok⟩:=rel.row _ _ _ _ _ hg;rw[h]at A;cases A;have I:=ok.hsz;have S:=ok.wide i _ (Wd e)
   have cell:∀j,j<n->∃v,w.cell? ((⟨l.block,l.off+i*l.sz+o,none⟩:Addr).add j)=some v/\v.oneCell'=true/\VR w M noI v (c j):=by
    intro j k;obtain⟨v,m,K,N⟩:=ok.holds F i _ (o+j) _ (Wd e) (Wd (by rw[S];omega));refine⟨v,?_,K,C j k v ?_⟩
    .rw[<-m,I];have:=add_add ⟨l.block,l.off+i*p+o,none⟩ rfl j 0;simp only[Addr.add,if_true]at this⊢;split
     .rename_i s;subst s;rfl
     .simp only[Nat.add_assoc]
    .simpa [Wm,Wd e,Wd (show o+j<z[i].length by rw[S];omega)]using N
   refine .iptr _ _ n c (λj=>(w.cell? ((⟨l.block,l.off+i*l.sz+o,none⟩:Addr).add j)).getD Go.undef) (λj k=>?_) (λU=>?_) (λj k=>?_)
   .obtain⟨v,m,K,_⟩:=cell j k;rw[m];exact⟨rfl,K⟩
   .exact Q _ _ _ _ _ _ hD hg h (by rw[I];exact Nat.mul_pos (Wj (by omega) (ok.plain F).len) (by omega))
   .obtain⟨v,m,_,N⟩:=cell j k;simpa [m]using N
 |fn t f asv bs hl h C=>
  intro v h
  cases h with
  |fn _ _ cs _ y B=>
   refine .fn _ _ _ _ (y.trans hl) (λi v b A m=>?_);have e:i<asv.length:=by rw[hl];exact(WJ.1 m).1
   exact C i _ b (Wd e) m v (B i v _ A (Wd e))
 |agg t asv bs hl h C=>
  intro v h
  cases h with
  |agg _ cs _ y A B=>
   refine .agg _ _ _ (y.trans hl) A (λi v b A m=>?_);have e:i<asv.length:=by rw[hl];exact(WJ.1 m).1
   exact C i _ b (Wd e) m v (B i v _ A (Wd e))
 |tup t asv bs hl h C=>
  intro v h
  cases h with
  |tup _ cs _ y B=>
   refine .tup _ _ _ (y.trans hl) (λi v b A m=>?_);have e:i<asv.length:=by rw[hl];exact(WJ.1 m).1
   exact C i _ b (Wd e) m v (B i v _ A (Wd e))
def RowV(H h:AH)(σ:Nat->Nat->Option (Nat×Nat×Nat))(D:Nat->Nat->Prop)(e d:List (List AV)):Prop :=
 d.length=e.length/\∀(i:Nat)(g:List AV),d[i]?=some g->∃c,e[i]?=some c/\g.length=c.length/\∀(j:Nat)(a b:AV),c[j]?=some a->g[j]?=some b->Vw H h σ D true a b
structure View(B:Nat)(H:AH)(H2:AH)(nx2:Nat)(σ:Nat->Nat->Option (Nat×Nat×Nat))(D:Nat->Nat->Prop):Prop where
 le:B<=nx2
 base:∀r q,r<B->σ r q=some (r,q,0)
 inj:∀r1 q1 r2 q2 r q d1 d2,σ r1 q1=some (r,q,d1)->σ r2 q2=some (r,q,d2)->r1=r2/\q1=q2
 apart:∀r' q' r q d,σ r' q'=some (r,q,d)->¬D r q
 idx:∀r' q' x,σ r' q'=some x->r'<nx2
 dom:∀r o,H2.look r=some o->r<nx2
 row:∀r' q' sz els2 g2,H2.get r' q'=some (.row sz els2 g2)->(∃r q d els,σ r' q'=some (r,q,d)/\H.get r q=some (.row sz els (g2+d))/\RowV H H2 σ D els els2)\/(σ r' q'=none/\els2=[]/\g2=0)
section
variable {B:Nat}{H H2:AH}{nx nx2:Nat}{σ:Nat->Nat->Option (Nat×Nat×Nat)}{D:Nat->Nat->Prop}{w:World}{L:Nat->Prop}{ι:Inj}
theorem View.live(u:View B H H2 nx2 σ D){b:Nat}(h:live (ze7 H2 σ ι) H2 b):∃n m r q d o e c g l,σ n m=some (r,q,d)/\H2.get n m=some (.row o c g)/\H.get r q=some (.row o e (g+d))/\ι r q (g+d)=some l/\0<l.cap*l.sz/\l.block=b:=by
 obtain⟨n,m,o,c,g,l,s,k,t,rfl⟩:=h;rcases u.row _ _ _ _ _ s with ⟨r,q,d,e,j,p,a3⟩|⟨j,p,a3⟩
 .simp only[ze7,j]at k;exact⟨n,m,r,q,d,o,e,c,g,l,j,s,p,k,t,rfl⟩
 .subst p a3;simp[ze7,j,s]at k;subst k;simp at t
theorem View.lv(p:View B H H2 nx2 σ D){b}(h:Go.Ab.live (ze7 H2 σ ι) H2 b):Go.Ab.live ι H b:=by obtain⟨v,u,r,q,d,o,c,e,g,l,s,t,j,k,m,n⟩:=p.live h;exact⟨r,q,o,c,g+d,l,j,k,m,n⟩
theorem View.lt(c:View B H H2 nx2 σ D):∀b,Lt L (ze7 H2 σ ι) H2 b->Lt L ι H b:=by
 rintro b (h|h)
 .exact .inl h
 .exact .inr (c.lv h)
theorem View.off(n:View B H H2 nx2 σ D)(rel:RelH w L ι H nx):∀r q sz b g l,D r q->H.get r q=some (.row sz b g)->ι r q g=some l->0<l.cap*l.sz->¬Lt L (ze7 H2 σ ι) H2 l.block:=by
 intro r q sz b g l s j k m c;rcases c with c|c
 .exact rel.out _ ⟨r,q,sz,b,g,l,j,k,m,rfl⟩ c
 .obtain⟨A,y,C,z,d,t,e,h,v,x,o,u,a3,a4,a5,p⟩:=n.live c;obtain⟨rfl,rfl⟩:=rel.apart _ _ _ _ _ _ _ _ _ _ _ _ j a3 k a4 m a5 p.symm;exact n.apart _ _ _ _ _ o s
theorem View.vr(c:View B H H2 nx2 σ D)(rel:RelH w L ι H nx){t}{a b}(h:Vw H H2 σ D t a b){v}(d:VR w (Lt L ι H) ι v a):VR w (Lt L (ze7 H2 σ ι) H2) (bif t then ze7 H2 σ ι else noI) v b :=
 h.sound rel c.lt (c.off rel) v d
theorem View.rel(p:View B H H2 nx2 σ D)(rel:RelH w L ι H nx):RelH w L (ze7 H2 σ ι) H2 nx2:=by
 constructor
 .intro t x sz P g h;rcases p.row _ _ _ _ _ h with ⟨r,q,d,els,m,n,a3⟩|⟨m,rfl,rfl⟩
  .obtain⟨l,I,ok⟩:=rel.row _ _ _ _ _ n;refine⟨l,by simp only[ze7,m];exact I,ok.view (λ_=>rfl) a3.1 (λi U z=>?_)⟩;obtain⟨V,Y,C,hv⟩:=a3.2 i U z;exact⟨V,Y,C,λj a T Z M v J=>p.vr rel (hv j a T Z M) J⟩
  .refine⟨⟨0,0,0,sz⟩,by simp[ze7,m,h],.mk' rfl (Wf _) (WI _) (λk hk=>by simp at hk) (λh=>by simp at h) (λi c z=>by simp at z) (λi c j a z=>by simp at z)⟩
 .intro r1 q1 r2 q2 s1 e1 g1 l1 s2 e2 Q l2 I u W J R S X
  have key:∀t x s e g l,H2.get t x=some (.row s e g)->ze7 H2 σ ι t x g=some l->0<l.cap*l.sz->∃r q d els,σ t x=some (r,q,d)/\H.get r q=some (.row s els (g+d))/\ι r q (g+d)=some l:=by
   intro t x s e g l m n a3;rcases p.row _ _ _ _ _ m with ⟨r,q,d,els,y,F,N⟩|⟨y,rfl,rfl⟩
   .simp only[ze7,y]at n;exact⟨r,q,d,els,y,F,n⟩
   .simp[ze7,y,m]at n;subst n;simp at a3
  obtain⟨x1,y1,d1,z1,m,n,a3⟩:=key _ _ _ _ _ _ I W R;obtain⟨x2,y2,d2,z2,y,F,N⟩:=key _ _ _ _ _ _ u J S;obtain⟨rfl,rfl⟩:=rel.apart _ _ _ _ _ _ _ _ _ _ _ _ n F a3 N R S X;exact p.inj _ _ _ _ _ _ _ _ m y
 .intro b A;exact rel.out b (p.lv A)
 .intro t x g l h;unfold ze7 at h;split at h
  .rename_i hs;exact p.idx _ _ _ hs
  .split at h
   .rename_i K;unfold Xc at K
    cases C:H2.look t with
    |none=>rw[C]at K;cases K
    |some o=>exact p.dom _ _ C
   .cases h
 .exact p.dom
 .intro t x sz els g h Q l u;rcases p.row _ _ _ _ _ h with ⟨r,q,d,O,m,n,a3⟩|⟨m,rfl,rfl⟩
  .simp only[ze7,m]at u;have:=rel.gen _ _ _ _ _ n _ _ u;omega
  .simp only[ze7,m,h]at u
   cases A:Nat.beq Q 0 with
   |true=>rw[zm A];exact Wf _
   |false=>rw[A]at u;cases u
 .exact rel.Lsz
theorem Ent.view{K d:Kn}(σ:Nat->Nat->Option (Nat×Nat×Nat))(D:Nat->Nat->Prop)(c:View B H H2 nx2 σ D)(e:∀i,Vw H H2 σ D true (K.get i) (d.get i)):Ent B K H nx d H2 nx2:=by refine⟨c.le,λw L ι tmps rel k=>⟨ze7 H2 σ ι,c.rel rel,λi=>c.vr rel (e i) (k i),λb j=>c.lv j,λr q g l m h=>?_⟩⟩;simp only[ze7,c.base r q m];exact h
end
end Go.Ab
