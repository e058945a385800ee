/-
  Part 11 of the proof: how the calls of this program run, over values instead of memory, and what each function computes.
-/
import Derived.Test.YtihlaappclhhaaaGreatJj
set_option maxRecDepth 100000
set_option linter.unusedVariables false
set_option linter.unusedSimpArgs false
set_option linter.unnecessarySimpa false
set_option linter.unusedSectionVars false
open Nat renaming reduceBEq->Xa,reduceAdd->Xb,reduceLeDiff->Xc,reduceSub->Xd,reduceLT->Xe
open Go.Ab.Ent renaming tab->Xf,tabB->Xg,keep->Xi
open Go.Ab.Gr renaming cells->Xh
open List.Pairwise renaming of_cons->Xj,cons->Xk
open Go.Proofs.Tryz renaming prog->Z9
open List renaming mem_append→Wa,mem_cons→Wc,getD_eq_getElem?_getD→Wd,getElem?_eq_getElem→We,append_nil→Wf,range→Wg,map_map→Wi,replicate→Wj,length_filter_le→Wk,take_of_length_le→Wl,getD→Wm,map_congr_left→Wo,take_add_one→Wp,filter→Wq,mem_range→Wr,getElem?_map→Ws,mem_filter→Wu,getElem_mem→Ww,nodup_append→Wy,mem_reverse→Wz,map_replicate→WA,ext_getElem?→WB,rel_of_pairwise_cons→WC,filter_append→WE,append_assoc→WF,findIdx?_eq_some_iff_getElem→WG,findIdx?_eq_none_iff→WH,mem_iff_getElem→WI,filter_eq_self→WJ,length_take→WL,take_length→WM,eq_nil_of_length_eq_zero→WN,length_range→WO,mem_cons_of_mem→WP,set_getElem_self→WQ
open Nat renaming zero_le→Wh,le_refl→Wx
open Bool renaming and_eq_true→Wn,false_eq_true→WK
open Option renaming map_some→Wt,getD_some→WD
open Function renaming comp→Wv
namespace Go.Ab.Dm
open Go.RowKit Go.Proofs
def edgeOk(n:Nat)(x:Int):Bool:=decide (0<=x)&&decide (x<n)
def _root_.Go.Ab.Gr.E(g:Gr):Adj:=g.blocks.map λb=>(b.targets.filter (edgeOk g.blocks.length)).map Int.toNat
def _root_.Go.Ab.Gr.small(g:Gr):Prop:=g.blocks.length<=1000/\∀b∈g.blocks,b.targets.length<=1000
theorem _root_.Go.Ab.Gr.E_len(g:Gr):g.E.length=g.blocks.length:=by simp[Gr.E]
theorem _root_.Go.Ab.Gr.E_ok(g:Gr):g.E.ok:=by
 intro k n c;unfold suc Gr.E at c;rw[Wd,Ws]at c
 cases d:g.blocks[k]? with
 |none=>rw[d]at c;simp at c
 |some b=>rw[d]at c;simp only[Wt,WD,List.mem_map,Wu,edgeOk,Wn,decide_eq_true_eq]at c;obtain⟨x,⟨_,e,h⟩,rfl⟩:=c;rw[g.E_len];omega
theorem zuf(l):za (l.map λ(n:Nat)=>(n:Int))=zo l:=by simp[za,zo,encL];rfl
theorem zeC{α:Type}{p:α->Bool}{l:List α}{i:Nat}(h:i<l.length):(l.take (i+1)).filter p=(l.take i).filter p++if p l[i]then[l[i]]else[]:=by rw[Wp,We h,WE];cases b:p l[i]<;>simp[Wq,b]
theorem zxr{α:Type}(p:α->Bool)(l:List α)(i:Nat):((l.take i).filter p).length<=i:=Nat.le_trans (Wk _ _) (List.length_take_le _ _)
theorem _root_.Go.Ab.ui:type_of% @Gr.cells.eq_1:=@Gr.cells.eq_1
theorem R24_Edges_ok(g:Gr)(p:g.small)(k:Nat)(m:k<g.blocks.length):zw Z9 znn [.agg g.cells,.int .i64 k] (·=zo (suc g.E k)):=by
 have o:zo (suc g.E k)=za (g.blocks[k].targets.filter (edgeOk g.blocks.length)):=by
  rw[<-zuf];congr 1;simp only[suc,Gr.E,zk m,Wi];conv=>rhs;rw[<-List.map_id (Wq _ _)]
  refine Wo λx q=>?_
  simp only[Wu,edgeOk,Wn,decide_eq_true_eq]at q;simp only[Wv,id];omega
 rw[o];refine fn_x zAi rfl ?_;refine dcU zt5.eq_1 ?_;have s:=hBig;have e:(g.blocks.map Blk.cells).getD k []=g.blocks[k].cells:=zh3 (We m);refine Gw3 @ui e @Blk.two ?_;intros;refine zg (ze (zxf _) rfl) ?_;have n:=p.2 _ (Ww m);generalize g.blocks[k].targets=l at n⊢;refine Gw0 ?_;intros;refine zc (λi:Nat=>([(2,encP 2 g.cells),(5,.own 0 0 0 0 ((l.take i).filter (edgeOk g.blocks.length)).length),(6,za l),(7,.int .i64 i)],[(0,.row 1 (((l.take i).filter (edgeOk g.blocks.length)).map cI) 0)])) 1 (λi=>i<=l.length) (λi=>l.length-i) 0 (Wh _) (Xf [(0,1,0)] [] rfl (Gin4_1 @ui) (Gin4_1 @ui)) ?_;intro i u wf;refine dcU zpt.eq_1 ?_;refine Gw3 @ua @uk @ui ?_;intros;(refine zz (λh=>?_) (λh=>?_))<;>(try simp only[dcd]at h)
 .have b:i<l.length:=by omega
  have c:(l.take (i+1)).filter (edgeOk g.blocks.length)=(l.take i).filter (edgeOk g.blocks.length)++if edgeOk g.blocks.length l[i]then[l[i]]else[]:=zeC b
  refine Gw1 (gmp b) ?_;intros;generalize d:decide (0<=l[i])=j;cases j<;>simp only[decide_eq_true_eq,decide_eq_false_iff_not,ne_eq,Classical.not_not]at d
  .rw[if_neg (by simp[edgeOk,d])]at c;refine Gw0 ?_;intros;exact⟨i+1,by omega,by omega,(Xf [(0,0,0)] [] rfl (by(try simp only[evWB,Xa,Xb,Xd,Xc,Xe,implies_true,Xh,c,Wf])<;>exact fin4) (by(try simp only[evWB,Xa,Xb,Xd,Xc,Xe,implies_true,Xh,c,Wf])<;>exact fin4))⟩
  ·(refine Gw1 (gmp b) ?_;intros);(refine zz (λhd=>?_) (λhd=>?_))<;>(try simp only[dcd]at hd)
   .rw[if_pos (by simp[edgeOk,d,hd])]at c;have t:=zxr (edgeOk g.blocks.length) l i;refine Gw1 (gmp b) ?_;intros;exact⟨i+1,by omega,by omega,(Xf [(0,0,1)] [] rfl (by(try simp only[evWB,Xa,Xb,Xd,Xc,Xe,implies_true,Xh,c,Wf])<;>exact fin4) (by(try simp only[evWB,Xa,Xb,Xd,Xc,Xe,implies_true,Xh,c,Wf])<;>exact fin4))⟩
   .rw[if_neg (by simp[edgeOk,d,hd])]at c;refine Gw0 ?_;intros;exact⟨i+1,by omega,by omega,(Xf [(0,0,0)] [] rfl (by(try simp only[evWB,Xa,Xb,Xd,Xc,Xe,implies_true,Xh,c,Wf])<;>exact fin4) (by(try simp only[evWB,Xa,Xb,Xd,Xc,Xe,implies_true,Xh,c,Wf])<;>exact fin4))⟩
 .unfold zpa;refine Gw1 @zum.eq_1 ?_;intros;refine⟨_,?_,rfl⟩;rw[Wl (show l.length<=i by omega)];have:=Wk (edgeOk g.blocks.length) l;exact zbv (l:=l.filter (edgeOk g.blocks.length)) trivial rfl (by omega)
def zsq(A:List (List Int)):AV:=encL 1 (λr=>[za r]) A
theorem zpP{α:Type}{A B:List α}{i:Nat}(h:A.take i=B.take i)(b:i<A.length)(c:i<B.length)(d:A[i]=B[i]):A.take (i+1)=B.take (i+1):=by rw[Wp,Wp,h,We b,We c,d]
theorem R24_Lists_ok(A B):zw Z9 znm [zsq A,zsq B] (·=.bool (decide (A=B))):=by
 refine fn_x zBE rfl ?_;refine dcU zud.eq_1 ?_;have t:=hBig;refine Gw1 @zsq.eq_1 ?_;intros;(refine zz (λh=>?_) (λh=>?_))<;>(try simp only[dcd]at h)
 ·(refine Gw1 @ziS.eq_1 ?_;intros);refine⟨_,.bool _ _,?_⟩;have:A≠B:=λe=>h (by rw[e])
  simp[this]
 refine Gw0 ?_;intros;have w:A.length=B.length:=by omega
 refine zc (λi:Nat=>([(0,zsq A),(1,zsq B),(5,.int .i64 i)],[])) 0 (λi=>i<=A.length/\A.take i=B.take i) (λi=>A.length-i) 0 ⟨Wh _,by simp⟩ (Xi rfl fin5) ?_;intro i ⟨u,o⟩ wf;refine dcU zoR.eq_1 ?_;refine Gw1 @zsq.eq_1 ?_;intros;(refine zz (λp=>?_) (λp=>?_))<;>(try simp only[dcd]at p)
 .have j:i<A.length:=by omega
  have n:i<B.length:=by omega
  refine Gw4 @zsq.eq_1 (gmp j) (gmp n) @ua ?_;intros;(refine zz (λm=>?_) (λm=>?_))<;>(try simp only[dcd]at m)
  ·(refine Gw1 @ziS.eq_1 ?_;intros);refine⟨_,.bool _ _,?_⟩;have:A≠B:=λe=>by subst e;exact m rfl
   simp[this]
  refine Gw0 ?_;intros;have s:A[i].length=B[i].length:=by omega
  refine zc (λk:Nat=>([(0,zsq A),(1,zsq B),(5,.int .i64 i),(6,.int .i64 k)],[])) 0 (λk=>k<=A[i].length/\A[i].take k=B[i].take k) (λk=>A[i].length-k) 0 ⟨Wh _,by simp⟩ (Xi rfl fin5) ?_;intro k ⟨v,b⟩ wf;refine dcU zoW.eq_1 ?_;refine Gw3 @zsq.eq_1 (gmp j) @ua ?_;intros;(refine zz (λq=>?_) (λq=>?_))<;>(try simp only[dcd]at q)
  .have c:k<A[i].length:=by omega
   have d:k<B[i].length:=by omega
   refine Gw6 @zsq.eq_1 (gmp j) (gmp n) @ua (gmp c) (gmp d) ?_;intros;(refine zz (λg=>?_) (λg=>?_))<;>(try simp only[dcd]at g)
   ·(refine Gw1 @ziS.eq_1 ?_;intros);refine⟨_,.bool _ _,?_⟩;have:A≠B:=λe=>by subst e;exact g rfl
    simp[this]
   ·(refine Gw0 ?_;intros);exact⟨k+1,⟨by omega,zpP b c d (by simpa using g)⟩,by omega,Xi rfl fin5⟩
  .refine dcU zo0.eq_1 ?_;refine Gw0 ?_;intros;rw[Wl (show A[i].length<=k by omega),Wl (show B[i].length<=k by omega)]at b;exact⟨i+1,⟨by omega,zpP o j n b⟩,by omega,Xi rfl fin5⟩
 .unfold zpD;refine Gw1 @ziS.eq_1 ?_;intros;refine⟨_,.bool _ _,?_⟩;rw[Wl (show A.length<=i by omega),Wl (show B.length<=i by omega)]at o;simp[o]
theorem vw_LL{H H2}{σ}{D}{t}{r q g}{l}(b:D r q)(d:H.get r q=some (.row 1 (l.map λr=>[za r]) g))(c:l.length<=big):
  Vw H H2 σ D t (.own r q g 0 l.length) (zsq l):=by
 refine zhg b d c (λa _ j e=>?_);obtain rfl:j=0:=by omega
 exact .sl _ _ _ _
theorem R24_Ints_ok(a b):zw Z9 ztL [za a,za b] (·=.bool (decide (a=b))):=by refine fn_x zCe rfl ?_;refine dcU zwX.eq_1 ?_;refine Gw1 @ua ?_;intros;refine zg (zaH (D:=allR) (R24_Lists_ok [a] [b]) (.cons (vw_LL (l:=[a]) trivial rfl (by simp[big])) (.cons (vw_LL (l:=[b]) trivial rfl (by simp[big])) .nil)) (.inl rfl)) ?_;refine Gw1 @zvt.eq_1 ?_;intros;refine⟨_,.bool _ _,?_⟩;simp
structure NdL(n:Nat)(l:List Nat):Prop where
 nd:l.Nodup
 lt:∀b∈l,b<n
theorem NdL.len{n}{l}(h:NdL n l):l.length<=n:=by
 obtain⟨d,g⟩:=h
 induction n generalizing l with
 |zero=>
  cases l with
  |nil=>exact Wx _
  |cons b l=>exact absurd (g b (by simp)) (by omega)
 |succ n ih=>
  by_cases j:n∈l
  .have:=ih (d.erase n) (λb c=>by
    have k:=g b (List.mem_of_mem_erase c);have m:=(d.mem_erase_iff.1 c).1
    omega)
   rw[List.length_erase_of_mem j]at this;omega
  .have:=ih d (λb c=>by
    have k:=g b c;have m:b≠n:=λe=>j (e▸c)
    omega)
   omega
theorem zpA{α β:Type}{f:β->α->β}{b:β}{l:List α}{i:Nat}(h:i<l.length):(l.take (i+1)).foldl f b=f ((l.take i).foldl f b) l[i]:=by rw[Wp,We h,List.foldl_append];rfl
theorem zmK(p)(n):(Wg (n+1)).filter p=(Wg n).filter p++if p n then[n]else[]:=by rw[List.range_succ,WE];cases h:p n<;>simp[Wq,h]
theorem zuA(p)(n):((Wg n).filter p).length<=n:=by have:=Wk p (Wg n);simpa using this
def mapR{α:Type}(f:Nat->α)(n:Nat):List α:=(Wg n).map f
def filR(p:Nat->Bool)(n:Nat):List Nat:=(Wg n).filter p
theorem zLi{α:Type}{f:Nat->α}{n:Nat}:(mapR f n).length=n:=by simp[mapR]
theorem zDV{p}{n}(h:p n=true):filR p (n+1)=filR p n++[n]:=by unfold filR;rw[zmK,h];rfl
theorem zEZ{p}{n}(h:p n=false):filR p (n+1)=filR p n:=by unfold filR;rw[zmK,h];simp
theorem zHi{p}{n}:(filR p n).length<=n:=zuA p n
def zuK(A:List (List Nat)):AV:=encL 1 (λr=>[zo r]) A
abbrev cNs(l:List Nat):List AV:=[zo l]
theorem vw_NN{H H2}{σ}{D}{t}{r q g}{l}(b:D r q)(d:H.get r q=some (.row 1 (l.map cNs) g))(c:l.length<=big):
  Vw H H2 σ D t (.own r q g 0 l.length) (zuK l):=by
 refine zhg b d c (λa _ j e=>?_);obtain rfl:j=0:=by omega
 exact .sl _ _ _ _
def zeM(E:Adj)(f:Nat)(s:List Nat×List Nat)(n:Nat):List Nat×List Nat:=if n∈s.1 then s else dfs E f n s
theorem zzl(E)(f k)(s):
  dfs E (f+1) k s=(((suc E k).foldl (zeM E f) (s.1++[k],s.2)).1,((suc E k).foldl (zeM E f) (s.1++[k],s.2)).2++[k]):=rfl
structure DfsI(n m d:Nat)(s:List Nat×List Nat):Prop where
 nd:NdL n s.1
 le:m<=s.1.length
 post:s.1.length=s.2.length+d
theorem NdL.snoc{n}{l}(h:NdL n l){k}(g:k<n)(j:k∉l):NdL n (l++[k]):=by
 refine⟨?_,λb c=>?_⟩
 .rw[Wy];exact⟨h.nd,by simp,λa d b c=>by simp at c;subst c;exact λe=>j (e▸d)⟩
 .rcases Wa.1 c with c|c
  .exact h.lt b c
  .simp at c;subst c;exact g
theorem zrj{E}{f m d}(h:∀(k:Nat)(s:List Nat×List Nat),DfsI E.length m d s->k<E.length->k∉s.1->DfsI E.length m d (dfs E f k s)):
  ∀(b:List Nat)(t:List Nat×List Nat),(∀c∈b,c<E.length)->DfsI E.length m d t->DfsI E.length m d (b.foldl (zeM E f) t)
 |[],t,_,e=>e
 |
  c::b,t,hc,e=>by
  refine zrj h b (zeM E f t c) (λd hd=>hc d (by simp[hd])) ?_;unfold zeM;split
  .exact e
  .exact h c t e (hc c (by simp)) ‹_›
theorem zv9{E}(b:E.ok):∀(f m d k:Nat)(s:List Nat×List Nat),DfsI E.length m d s->k<E.length->k∉s.1->DfsI E.length m d (dfs E f k s)
 |0,_,_,_,_,h,_,_=>h
 |
  f+1,m,d,k,s,h,c,e=>by
  rw[zzl];have:=zrj (zv9 b f m (d+1)) (suc E k) (s.1++[k],s.2) (b k) ⟨h.nd.snoc c e,by have:=h.le;simp;omega,by have:=h.post;simp;omega⟩;exact⟨this.nd,this.le,by have:=this.post;simp;omega⟩
theorem zMf{A}{i}(h:i<A.length):suc A i=A[i]:=by simp[suc,Wd,h]
end Go.Ab.Dm
namespace Go.Ab.Dm
def zxM(P:List Nat)(m p:Nat):Prop:=∃A B,P=A++m::B/\p∈B
theorem zxM.left{P}{m p}(h:zxM P m p)(L):zxM (L++P) m p:=by obtain⟨A,B,rfl,b⟩:=h;exact⟨L++A,B,by simp,b⟩
theorem zxM.right{P}{m p}(h:zxM P m p)(R):zxM (P++R) m p:=by obtain⟨A,B,rfl,b⟩:=h;exact⟨A,B++R,by simp,by simp[b]⟩
theorem zxM.last{P}{m k}(h:m∈P):zxM (P++[k]) m k:=by obtain⟨A,B,rfl⟩:=List.append_of_mem h;exact⟨A,B++[k],by simp,by simp⟩
structure Grew(E:Adj)(cs:List Nat)(s s':List Nat×List Nat)(P Q:List Nat):Prop where
 post:s'.2=s.2++P
 seen:s'.1=s.1++Q
 same:∀x,x∈P↔x∈Q
 nd:P.Nodup
 new:∀x∈P,x∉s.1
 closed:∀p∈P,∀c∈suc E p,c∈s'.1
 got:∀c∈cs,c∈s'.1
 reach:∀x∈P,∃c∈cs,RA E (λ_=>False) c x
 from':∀m∈P,m∈cs\/∃p,m∈suc E p/\zxM P m p
theorem RA.trans{E}{X}{a b c}(d:RA E X a b)(e:RA E X b c):RA E X a c:=by
 induction e with
 |refl=>exact d
 |step _ g h j=>exact j.step g h
theorem Grew.append{E}{cs ds}{s s' s''}{P Q P2 Q2}(g:Grew E cs s s' P Q)(k:Grew E ds s' s'' P2 Q2):Grew E (cs++ds) s s'' (P++P2) (Q++Q2):=by
 have sub:∀x,x∈s'.1->x∈s''.1:=λx d=>by rw[k.seen];exact Wa.2 (.inl d)
 refine⟨by rw[k.post,g.post,WF],by rw[k.seen,g.seen,WF],λx=>by simp only[Wa,g.same,k.same],?_,λx d=>?_,λp n c j=>?_,λc j=>?_,λx d=>?_,λm q=>?_⟩
 .rw[Wy];refine⟨g.nd,k.nd,λa o b u e=>?_⟩;subst e;exact k.new a u (by rw[g.seen];exact Wa.2 (.inr ((g.same a).1 o)))
 .rcases Wa.1 d with d|d
  .exact g.new x d
  .exact λh=>k.new x d (by rw[g.seen];exact Wa.2 (.inl h))
 .rcases Wa.1 n with n|n
  .exact sub c (g.closed p n c j)
  .exact k.closed p n c j
 .rcases Wa.1 j with j|j
  .exact sub c (g.got c j)
  .exact k.got c j
 .rcases Wa.1 d with d|d
  .obtain⟨c,j,t⟩:=g.reach x d;exact⟨c,by simp[j],t⟩
  .obtain⟨c,j,t⟩:=k.reach x d;exact⟨c,by simp[j],t⟩
 .rcases Wa.1 q with q|q
  .rcases g.from' m q with h|⟨p,n,o⟩
   .exact .inl (by simp[h])
   .exact .inr ⟨p,n,o.right _⟩
  .rcases k.from' m q with h|⟨p,n,o⟩
   .exact .inl (by simp[h])
   .exact .inr ⟨p,n,o.left _⟩
theorem zAk{E}{f m d}(g:E.ok)(j:∀(k:Nat)(s:List Nat×List Nat),DfsI E.length m d s->k<E.length->k∉s.1->∃P Q,Grew E [k] s (dfs E f k s) P Q):
  ∀(e:List Nat)(t:List Nat×List Nat),(∀c∈e,c<E.length)->DfsI E.length m d t->∃P Q,Grew E e t (e.foldl (zeM E f) t) P Q
 |[],t,_,_=>⟨[],[],by simp,by simp,by simp,by simp,by simp,by simp,by simp,by simp,by simp⟩
 |
  c::e,t,hc,ht=>by
  have b:DfsI E.length m d (zeM E f t c):=by
   unfold zeM;split
   .exact ht
   .exact zv9 g f m d c t ht (hc c (by simp)) ‹_›
  obtain⟨n,o,p⟩:=zAk g j e (zeM E f t c) (λd hd=>hc d (by simp[hd])) b
  have h:∃P Q,Grew E [c] t (zeM E f t c) P Q:=by
   unfold zeM;split
   .exact⟨[],[],by simp,by simp,by simp,by simp,by simp,by simp,by simpa,by simp,by simp⟩
   .exact j c t ht (hc c (by simp)) ‹_›
  obtain⟨P,Q,h⟩:=h;exact⟨P++n,Q++o,h.append p⟩
theorem zD7{E}(u:E.ok):∀(f m d k:Nat)(s:List Nat×List Nat),DfsI E.length m d s->k<E.length->k∉s.1->E.length<=f+m->∃P Q,Grew E [k] s (dfs E f k s) (P++[k]) (k::Q)/\∀x,x∈P↔x∈Q
 |
  0,m,d,k,s,h,A,v,hf=>by
  have:=(h.nd.snoc A v).len;have:=h.le;simp at *;omega
 |
  f+1,m,d,k,s,h,A,v,hf=>by
  have o:DfsI E.length (m+1) (d+1) (s.1++[k],s.2):=⟨h.nd.snoc A v,by have:=h.le;simp;omega,by have:=h.post;simp;omega⟩
  obtain⟨P,Q,g⟩:=zAk (f:=f) (m:=m+1) (d:=d+1) u (λc t F n v=>by
   obtain⟨P,Q,h,_⟩:=zD7 u f (m+1) (d+1) c t F n v (by omega)
   exact⟨_,_,h⟩) (suc E k) (s.1++[k],s.2) (u k) o
  refine⟨P,Q,?_,g.same⟩;rw[zzl];have B:k∉P:=λw=>g.new k w (by simp)
  refine⟨by simp[g.post],by simp[g.seen],λx=>?_,?_,λx j=>?_,λp q c n=>?_,λc n=>?_,λx j=>?_,λx j=>?_⟩
  .simp only[Wa,Wc,List.not_mem_nil,or_false,g.same];exact Or.comm
  .rw[Wy];exact⟨g.nd,by simp,λa y b C e=>by simp at C;subst C;subst e;exact B y⟩
  .rcases Wa.1 j with j|j
   .exact λw=>g.new x j (by simp[w])
   .simp at j;subst j;exact v
  .rcases Wa.1 q with q|q
   .exact g.closed p q c n
   .simp at q;subst q;exact g.got c n
  .simp at n;subst n;show c∈_;rw[g.seen];simp
  .rcases Wa.1 j with j|j
   .obtain⟨c,n,D⟩:=g.reach x j;exact⟨k,by simp,((RA.refl id).step n id).trans D⟩
   .simp at j;subst j;exact⟨x,by simp,.refl id⟩
  .rcases Wa.1 j with j|j
   .rcases g.from' x j with w|⟨p,q,y⟩
    .exact .inr ⟨k,w,zxM.last j⟩
    .exact .inr ⟨p,q,y.right _⟩
   .exact .inl j
theorem zGT{l:List Nat}(h:l.Nodup):l.reverse.Nodup:=by unfold List.Nodup at *;rw[List.pairwise_reverse];exact h.imp λh e=>h e.symm
structure Rpo(E:Adj)(r:Nat)(l:List Nat):Prop where
 head:∃t,l=r::t
 nd:l.Nodup
 lt:∀x∈l,x<E.length
 mem:∀x,x∈l↔RA E (λ_=>False) r x
 pred:∀x∈l,x≠r->∃p A B,l=A++x::B/\p∈A/\x∈suc E p
theorem rpo{E}(e:E.ok){r}(s:r<E.length):Rpo E r (dfs E E.length r ([],[])).2.reverse:=by
 have o:DfsI E.length 0 0 ([],[]):=⟨⟨by simp,by simp⟩,by simp,by simp⟩;obtain⟨P,Q,g,u⟩:=zD7 e E.length 0 0 r ([],[]) o s (by simp) (by omega);have j:=g.post;have m:=g.seen;simp only[List.nil_append]at j m;have hd:=zv9 e E.length 0 0 r _ o s (by simp)
 have d:∀x,x∈P++[r]↔RA E (λ_=>False) r x:=by
  intro x;constructor
  .intro b;obtain⟨c,q,h⟩:=g.reach x b;simp at q;subst q;exact h
  .intro b
   induction b with
   |refl=>simp
   |step _ h3 _ ih=>have:=g.closed _ ih _ h3;rw[m]at this;exact(g.same _).2 this
 rw[j];refine⟨⟨P.reverse,by simp⟩,zGT g.nd,λx b=>?_,λx=>by rw[Wz];exact d x,λx b n=>?_⟩
 .rw[Wz]at b;exact hd.nd.lt x (by rw[m];exact(g.same x).1 b)
 .rw[Wz]at b;rcases g.from' x b with h|⟨p,j,A,B,t,k⟩
  .simp at h;exact absurd h n
  .exact⟨p,B.reverse,A.reverse,by rw[t];simp,by simpa using k,j⟩
inductive Ch(T:Nat->Option Nat):Nat->Nat->Prop
 |refl (k:Nat):Ch T k k
 |up {k j x:Nat}:T k=some j->Ch T j x->Ch T k x
structure Lay(A:Adj)(r:Nat)(l:List Nat)(f:Nat->Nat):Prop where
 nd:l.Nodup
 root:r∈l
 pl0:l.idxOf r=0
 mem:∀x,x∈l↔RA A (λ_=>False) r x
 fm:∀k∈l,k≠r->f k∈l/\k∈suc A (f k)/\l.idxOf (f k)<l.idxOf k
section
variable {A:Adj}{r:Nat}{l:List Nat}{f:Nat->Nat}{T U:Nat->Option Nat}
def Pr(A:Adj)(l:List Nat)(p k:Nat):Prop:=p∈l/\k∈suc A p
structure WT(r:Nat)(l:List Nat)(T:Nat->Option Nat):Prop where
 root:T r=none
 up:∀k j,T k=some j->k∈l/\j∈l/\l.idxOf j<l.idxOf k/\(j=r\/T j≠none)
def Hd(r:Nat)(T:Nat->Option Nat)(k:Nat):Prop:=k=r\/T k≠none
def Fst(l:List Nat)(T:Nat->Option Nat)(j p q:Nat):Prop:=Ch T p q/\l.idxOf q<j/\∀b,Ch T p b->l.idxOf b<j->Ch T q b
structure PassTo(A:Adj)(r:Nat)(l:List Nat)(T:Nat->Option Nat)(j:Nat)(U:Nat->Option Nat):Prop where
 wt:WT r l U
 old:∀v,(v∉l\/j<=l.idxOf v)->U v=T v
 new:∀k∈l,k≠r->l.idxOf k<j->∃c,U k=some c /\
  ∀x,Ch U c x↔(∀p,Pr A l p k->l.idxOf p<l.idxOf k->Ch U p x)/\(∀p,Pr A l p k->l.idxOf k<=l.idxOf p->Hd r T p->∃q,Fst l T (l.idxOf k) p q/\Ch U q x)
end
section
variable {A:Adj}{r:Nat}{l:List Nat}{f:Nat->Nat}{T U V:Nat->Option Nat}
abbrev Pass(A:Adj)(r:Nat)(l:List Nat)(T U:Nat->Option Nat):Prop:=PassTo A r l T l.length U
inductive SA(r:Nat)(l:List Nat)(f:Nat->Nat)(a:Nat):Nat->Prop
 |refl:SA r l f a a
 |step {b:Nat}:b∈l->b≠r->SA r l f a (f b)->SA r l f a b
structure Gd(A:Adj)(r:Nat)(l:List Nat)(f:Nat->Nat)(T U:Nat->Option Nat):Prop where
 wt:WT r l T
 pass:Pass A r l T U
 anc:∀v y,v∈l->Hd r T v->Ch T v y->SA r l f y v
 mono:∀v y,v∈l->Hd r T v->Ch U v y->Ch T v y
theorem sum_le{l:List Nat}{g h:Nat->Nat}(b:∀k∈l,g k<=h k):(l.map g).sum<=(l.map h).sum:=by
 induction l with
 |nil=>simp
 |cons a l ih=>
  have d:=b a (by simp);have e:=ih λk c=>b k (by simp[c])
  simp only[List.map_cons,List.sum_cons];omega
theorem zIP{l:List Nat}{g h:Nat->Nat}(c:∀k∈l,g k<=h k){k:Nat}(b:k∈l)(e:g k<h k):(l.map g).sum<(l.map h).sum:=by
 induction l with
 |nil=>cases b
 |cons a l ih=>
  have j:=c a (by simp);have m:=sum_le (l:=l) (g:=g) (h:=h) λk b=>c k (by simp[b])
  simp only[List.map_cons,List.sum_cons];rcases Wc.1 b with rfl|d
  .omega
  .have:=ih (λk b=>c k (by simp[b])) d;omega
def Dm(A:Adj)(r x k:Nat):Prop:=¬RA A (·=x) r k
def Sd(A:Adj)(r:Nat)(l:List Nat)(T:Nat->Option Nat):Prop:=∀k∈l,Hd r T k->∀x∈l,Dm A r x k->Ch T k x
structure DTree'(A:Adj)(r:Nat)(l:List Nat)(T:Nat->Option Nat):Prop where
 wt:WT r l T
 held:∀k∈l,k≠r->T k≠none
 ch:∀k∈l,∀x∈l,Ch T k x↔Dm A r x k
end
def IsN(x:Int):Nat->Prop:=λy=>(y:Int)=x
structure FromI(E:Adj)(x:Int)(a i:Nat)(out:List Nat):Prop where
 nd:NdL E.length out
 root:a∈out
 sound:∀b∈out,RA E (IsN x) a b
 closed:∀j (h:j<out.length),j<i->∀c∈suc E out[j],(c:Int)≠x->c∈out
end Go.Ab.Dm
namespace Go.Ab.Dm
open Go.RowKit Go.Proofs
structure PredFn(fv:AV)(p:Int->Bool):Prop where
 ex:∃f caps,fv=.fn (.func f) caps/\zhI Z9 f=true/\zR caps=true/\∀x,zw Z9 f ([.int .i64 x]++caps) (·=.bool (p x))
theorem zgN:∀{l:List AV},zR l=true->l.all AV.flat=true
 |[],_=>rfl
 |
  a::l,h=>by
  simp only[zR,Wn]at h;simp only[List.all_cons,Wn];refine⟨?_,zgN h.2⟩;cases a<;>first|rfl|exact absurd h.1 (by simp[AV.flat0])
theorem zyM{fv}{p}(g:PredFn fv p){x}{H}{nx}{k}(e:k (.bool (p x)) H nx):zuq Z9 fv [.int .i64 x] H nx k:=by obtain⟨f,b,rfl,d,c,h⟩:=g.ex;rw[zpw];exact⟨d,zg (ze (h x) (by simp only[List.cons_append,List.nil_append,List.all_cons,AV.flat,AV.flat0,Bool.true_and];exact zgN c)) e⟩
theorem zzv{fv}{p}(h:PredFn fv p){H H2}{σ}{D}{t}:Vw H H2 σ D t fv fv:=by
 obtain⟨f,c,rfl,j,g,k⟩:=h.ex;refine .fn _ _ _ _ rfl λi a b d e=>?_
 rw[d]at e;cases e;exact zcL (zdK g d)
theorem zrH(l:List Int)(k:AV)(p:Int->Bool)(o:PredFn k p):zw Z9 za0 [za l,k] (·=.int .i64 (match l.findIdx? p with|some i=>(i:Int)|none=> -1)):=by
 refine fn_x zfs rfl ?_;refine dcU zc4.eq_1 ?_;have s:=hBig;refine Gw1 @ua ?_;intros;refine zc (λi:Nat=>([(0,za l),(1,k),(7,.int .i64 l.length),(8,.int .i64 i)],[])) 0 (λi=>i<=l.length/\∀j (h:j<l.length),j<i->p l[j]=false) (λi=>l.length-i) 0 ⟨Wh _,λj _ h=>by omega⟩ (Xi rfl fin5) ?_;intro i ⟨t,b⟩ wf;refine dcU zcj.eq_1 ?_;refine Gw1 @ua ?_;intros;(refine zz (λh=>?_) (λh=>?_))<;>(try simp only[dcd]at h)
 .have c:i<l.length:=by omega
  refine Gw1 (gmp c) ?_;intros;refine zyM o ?_;refine Gw0 ?_;intros;(refine zz (λg=>?_) (λg=>?_))<;>(try simp only[dcd]at g)
  ·(refine Gw1 @zaU.eq_1 ?_;intros);have e:l.findIdx? p=some i:=by rw[WG];exact⟨c,g,λj d=>by rw[b j (by omega) d];simp⟩
   rw[e];exact izO
  ·(refine Gw0 ?_;intros);refine⟨i+1,⟨by omega,λj d n=>?_⟩,by omega,Xi rfl fin5⟩;by_cases m:j=i
   .subst m;simpa using g
   .exact b j d (by omega)
 .unfold zcg;refine Gw1 @zaU.eq_1 ?_;intros;have e:l.findIdx? p=none:=by rw[WH];intro x q;obtain⟨j,d,rfl⟩:=WI.1 q;exact b j d (by omega)
  rw[e];exact izO
def cur(K l:List Int):List Int:=K++l.drop K.length
theorem zGp{K l}(h:K.length<=l.length):(cur K l).length=l.length:=by simp[cur];omega
theorem zL3{K l}{j}(h:K.length<=j)(b:j<l.length):(cur K l)[j]?=some l[j]:=by unfold cur;rw[List.getElem?_append_right h,List.getElem?_drop,show K.length+(j-K.length)=j by omega,We b]
theorem zJE{K l}{j}(h:K.length<=j)(b:j<l.length):((cur K l).map cI).getD j []=[.int .i64 l[j]]:=by simp[Wd,zL3 h b]
theorem zLZ{K l}{v}(h:K.length<l.length):(cur K l).set K.length v=cur (K++[v]) l:=by unfold cur;rw[List.set_append_right _ _ (Wx _),Nat.sub_self,List.drop_eq_getElem_cons h,List.set_cons_zero];simp
theorem zK4{K l}{v}(h:K.length<l.length):((cur K l).map cI).set K.length [.int .i64 v]=(cur (K++[v]) l).map cI:=by rw[<-zLZ h,List.map_set]
theorem zqf(l:List Int)(g:Nat)(u:AV)(p:Int->Bool)(k:PredFn u p)(V:l.length<=1000):
  z7 Z9 zda [.own 0 0 g 0 l.length,u] [(0,.row 1 (l.map cI) g)] 1
   (λv H S=>∃m,v=.own 0 0 g 0 (l.filter λx=> !p x).length/\H=[(0,.row 1 (((l.filter λx=> !p x)++m).map cI) g)]/\S=1):=by
 refine zS (fn_x zkd rfl ?_);refine dcU ze0.eq_1 ?_;have U:=hBig;refine Gw0 ?_;intros;refine zg (zaH (D:=λr _=>r=0) (zrH l u p k) (.cons (zbv rfl rfl (by omega)) (.cons (zzv k) .nil)) (.inl rfl)) ?_
 cases y:l.findIdx? p with
 |none=>
  have e:l.filter (λx=> !p x)=l:=by rw[WJ];intro x O;rw[WH]at y;simp[y x O]
  refine Gw1 @zcF.eq_1 ?_;intros;refine⟨.own 0 0 g 0 l.length,[(0,.row 1 (l.map cI) g)],1,?_,[],by rw[e],by rw[e,Wf],rfl⟩;exact(Xg [(0,0,0)] [] rfl rfl rfl Gin4_0 Gin4_0)
 |some i0=>
  rw[WG]at y;obtain⟨F,N,M⟩:=y;refine Gw0 ?_;intros;(refine zz (λh=>?_) (λh=>?_))<;>(try simp only[dcd]at h)
  .omega
  refine Gw0 ?_;intros;let K:=λj=>(l.take j).filter λx=> !p x
  have d:K (i0+1)=l.take i0:=by simp only[K];rw[zeC F,N];simp only[Bool.not_true,WK,if_false,Wf];rw[WJ];intro x O;obtain⟨j,I,rfl⟩:=WI.1 O;simp only[WL]at I;rw[List.getElem_take];simpa using M j (by omega)
  have o:∀j,i0<j->j<=l.length->(K j).length<j:=by
   intro j T A
   induction j with
   |zero=>omega
   |succ j ih=>
    by_cases I:j=i0
    .subst I;rw[d];simp;omega
    .have:=ih (by omega) (by omega);simp only[K]at this⊢;rw[zeC (show j<l.length by omega)];rw[List.length_append];split<;>simp<;>omega
  have c:cur (K (i0+1)) l=l:=by rw[d];unfold cur;rw[WL,Nat.min_eq_left (by omega),List.take_append_drop]
  have n:(K (i0+1)).length=i0:=by rw[d];simp;omega
  refine zc (λj:Nat=>([(0,.own 0 0 g 0 l.length),(1,u),(5,.int .i64 (K j).length),(6,.int .i64 j)],[(0,.row 1 ((cur (K j) l).map cI) g)])) 1 (λj=>i0<j/\j<=l.length) (λj=>l.length-j) (i0+1) ⟨by omega,by omega⟩ (Xg [(0,0,0)] [] rfl rfl rfl ?_ ?_) ?_
  .simp only[evWB,Xa,Xb,Xd,Xc,Xe,implies_true,c]
  .simp only[evWB,Xa,Xb,Xd,Xc,Xe,implies_true,n];exact zzv k
  intro j ⟨J,L⟩ wf;have Q:=o j J L;refine dcU zdY.eq_1 ?_;refine Gw0 ?_;intros;(refine zz (λA=>?_) (λA=>?_))<;>(try simp only[dcd]at A)
  .have t:j<l.length:=by omega
   have b:K (j+1)=K j++if (!p l[j])=true then[l[j]]else[]:=zeC t
   have P:=o (j+1) (by omega) (by omega);have q:=zGp (K:=K j) (l:=l) (by omega)
   (repeat first|simp(disch:=try exact dis1) only[evD,Xa,Xb,Xc,zJE (K:=K j) (l:=l) (by omega) t]|with_reducible first|intro _|refine aJ ?_)
   refine zyM k ?_;refine Gw0 ?_;intros;(refine zz (λw=>?_) (λw=>?_))<;>(try simp only[dcd]at w)
   .rw[w]at b;simp only[Bool.not_false,if_true]at b;refine Gw0 ?_;intros;rw[zK4 (by omega),<-b];exact⟨j+1,⟨by omega,by omega⟩,by omega,Xg [(0,0,0)] [] rfl rfl rfl (by simp only[evWB,Xa,Xb,Xd,Xc,Xe,implies_true]) (by simp only[evWB,Xa,Xb,Xd,Xc,Xe,implies_true,b];exact zzv k)⟩
   .have B:p l[j]=true:=by simpa using w
    rw[B]at b;simp only[Bool.not_true,WK,if_false,Wf]at b;refine Gw0 ?_;intros;rw[<-b];exact⟨j+1,⟨by omega,by omega⟩,by omega,Xg [(0,0,0)] [] rfl rfl rfl (by simp only[evWB,Xa,Xb,Xd,Xc,Xe,implies_true]) (by simp only[evWB,Xa,Xb,Xd,Xc,Xe,implies_true];exact zzv k)⟩
  .obtain rfl:j=l.length:=by omega
   have C:K l.length=l.filter λx=> !p x:=by simp only[K];rw[WM]
   have q:=zGp (K:=K l.length) (l:=l) (by omega);refine dcU zdZ.eq_1 ?_;have R:(((l.length:Int)-(K l.length).length).toNat)=l.length-(K l.length).length:=by omega
   have s:((cur (K l.length) l).map cI).take (K l.length).length++Wj (l.length-(K l.length).length) [AV.int .i64 0]++((cur (K l.length) l).map cI).drop ((K l.length).length+(l.length-(K l.length).length))=(K l.length++Wj (l.length-(K l.length).length) 0).map cI:=by rw[List.drop_of_length_le (by rw[List.length_map,q];omega),Wf,<-List.map_take,List.map_append,WA];congr 2;unfold cur;rw[List.take_append_of_le_length (Wx _),WM]
   refine Gw3 @zcF.eq_1 R s ?_;intros;refine⟨.own 0 0 g 0 (l.filter λx=> !p x).length,[(0,.row 1 (((l.filter λx=> !p x)++Wj (l.length-(K l.length).length) 0).map cI) g)],1,?_,_,rfl,rfl,rfl⟩;rw[<-C];exact(Xg [(0,0,0)] [] rfl rfl rfl (by(try simp only[evWB,Xa,Xb,Xd,Xc,Xe,implies_true,WA])<;>exact fin4) (by(try simp only[evWB,Xa,Xb,Xd,Xc,Xe,implies_true,WA])<;>exact fin4))
theorem zGs(g:Gr)(x:Int):zw Z9 zeu [.int .i64 x,.iptr 2 λj=>g.cells.getD j .undef] (·=.bool (!edgeOk g.blocks.length x)):=by
 refine fn_x zqt rfl ?_;refine dcU zjr.eq_1 ?_;refine Gw1 @ui ?_;intros;generalize h:decide (x<0)=d;cases d<;>simp only[decide_eq_true_eq,decide_eq_false_iff_not,ne_eq,Classical.not_not]at h
 ·(refine Gw1 @zf7.eq_1 ?_;intros);refine⟨_,.bool _ _,?_⟩;have b:0<=x:=by omega
  by_cases c:x<g.blocks.length
  .have:¬(g.blocks.length:Int)<=x:=by omega
   simp[edgeOk,b,c,this]
  .have:(g.blocks.length:Int)<=x:=by omega
   simp[edgeOk,b,c,this]
 ·(refine Gw1 @zf7.eq_1 ?_;intros);refine⟨_,.bool _ _,?_⟩;simp[edgeOk,h]
theorem zFX(g:Gr):PredFn (.fn (.func zeu) [.iptr 2 λj=>g.cells.getD j .undef]) (λx=> !edgeOk g.blocks.length x) :=
 ⟨_,_,rfl,by kernel_rfl,rfl,zGs g⟩
theorem zwR(l)(j:l.length<=1000):z7 Z9 za8 [za l] [] 0 (λv H g=>v=.own 0 0 0 0 l.length/\H=[(0,.row 1 (l.map cI) 0)]/\g=1):=by
 refine zS (fn_x zhB rfl ?_);refine dcU zew.eq_1 ?_;have h:=hBig;have c:∀H,zec 1 (encL 1 (λn:Int=>[AV.int .i64 n]) l) H=some (l.map λn=>[AV.int .i64 n]):=λH=>zfD (λ_ _=>rfl)
 refine Gw2 @ua @zpo ?_;intros
 cases d:(l.length == 0)with
 |true=>
  have e:l=[]:=WN (by simpa using d);subst e;refine Gw0 ?_;intros;rename_i b;cases b
  ·(refine Gw2 c @zaA.eq_1 ?_;intros);refine⟨.own 0 0 0 0 0,[(0,.row 1 [] 0)],1,?_,rfl,rfl,rfl⟩;exact(Xf [(0,1,1)] [] rfl Gin4_0 Gin4_0)
  ·(refine Gw1 @zaA.eq_1 ?_;intros);refine⟨.own 0 0 0 0 0,[(0,.row 1 [] 0)],1,?_,rfl,rfl,rfl⟩;exact(Xf [(0,1,0)] [] rfl Gin4_0 Gin4_0)
 |false=>refine Gw2 c @zaA.eq_1 ?_;intros;refine⟨.own 0 0 0 0 l.length,[(0,.row 1 (l.map cI) 0)],1,?_,rfl,rfl,rfl⟩;exact(Xf [(0,1,1)] [] rfl Gin4_0 Gin4_0)
theorem zHM{g:Gr}{k:Nat}(b:k<g.blocks.length):zo (suc g.E k)=za (g.blocks[k].targets.filter (edgeOk g.blocks.length)):=by
 rw[<-zuf];congr 1;simp only[suc,Gr.E,zk b,Wi];conv=>rhs;rw[<-List.map_id (Wq _ _)]
 refine Wo λx c=>?_
 simp only[Wu,edgeOk,Wn,decide_eq_true_eq]at c;simp only[Wv,id];omega
theorem zzp{H H2}{σ}{D}{t}{r q g}{l m}(c:D r q)(e:H.get r q=some (.row 1 ((l++m).map cI) g))(d:l.length<=big):
  Vw H H2 σ D t (.own r q g 0 l.length) (za l):=by
 refine .frz t r q g 0 l.length 1 ((l++m).map cI) _ c e d (by simp) (λi j b h=>?_);obtain rfl:j=0:=by omega
 rw[Nat.zero_add,zk (show i<(l++m).length by simp;omega),zk b,List.getElem_append_left b];exact .int _ _ _
theorem zsI(g:Gr)(x:g.small)(k:Nat)(n:k<g.blocks.length):zw Z9 ziu [.agg g.cells,.int .i64 k] (·=zo (suc g.E k)):=by
 have d:=x.2 _ (Ww n);rw[zHM n];refine fn_x zsP rfl ?_;refine dcU zlH.eq_1 ?_;have y:=hBig;have e:(g.blocks.map Blk.cells).getD k []=g.blocks[k].cells:=zh3 (We n);refine Gw3 @ui e @Blk.cells.eq_1 ?_;intros;generalize w:g.blocks[k]=b at d⊢;(refine zz (λh=>?_) (λh=>?_))<;>(try simp only[dcd]at h)
 ·(refine Gw1 @zg8.eq_1 ?_;intros);refine⟨_,?_,rfl⟩;have p:b.stmts=[]:=WN (by omega);have e:b.targets=[]:=by simp[Blk.targets,p]
  rw[e];exact zbv (l:=[]) trivial rfl (Wh _)
 have p:0<b.stmts.length:=by omega
 obtain⟨s,q⟩:∃s,b.stmts[b.stmts.length-1]?=some s:=⟨_,We (by omega)⟩
 have c:b.targets=if s.op=6 then[s.next]else if s.op=7 then[s.next,s.els]else if s.op=8 then s.cases else[]:=by
  have:b.stmts.getLast?=some s:=by rw[List.getLast?_eq_getElem?,q]
  simp[Blk.targets,this]
 have u:(b.stmts.map Stm.cells).getD ((b.stmts.length:Int)-1).toNat []=s.cells:=by rw[show((b.stmts.length:Int)-1).toNat=b.stmts.length-1 by omega];exact zh3 q
 refine Gw2 u @Stm.cells.eq_1 ?_;intros;refine znA (λ_:Unit=>([(2,.iptr 2 λj=>g.cells.getD j .undef),(7,.own 0 0 0 0 b.targets.length)],[(0,.row 1 (b.targets.map cI) 0)])) 1 (λ_=>True) ?_ ?_
 ·(refine Gw0 ?_;intros);(refine zz (λh=>?_) (λh=>?_))<;>(try simp only[dcd]at h)
  .rw[if_pos h]at c;refine Gw0 ?_;intros;refine⟨(),?_⟩;rw[c];exact(Xf [(0,3,0)] [] rfl (Gin4_1 @ui) (Gin4_1 @ui))
  .rw[if_neg h]at c;refine Gw0 ?_;intros;(refine zz (λh=>?_) (λh=>?_))<;>(try simp only[dcd]at h)
   .rw[if_pos h]at c;refine Gw0 ?_;intros;refine⟨(),?_⟩;rw[c];exact(Xf [(0,3,0)] [] rfl (Gin4_1 @ui) (Gin4_1 @ui))
   .rw[if_neg h]at c;refine Gw0 ?_;intros;(refine zz (λh=>?_) (λh=>?_))<;>(try simp only[dcd]at h)
    .rw[if_pos h]at c;refine Gw0 ?_;intros;refine zx [] 0 _ (zwR s.cases (by rw[<-c];exact d)) rfl rfl Gin4_0 Gin4_0 ?_;rintro v t o ⟨rfl,rfl,rfl⟩;refine Gw0 ?_;intros;refine⟨(),?_⟩;rw[c];exact(Xf [(0,3,0)] [] rfl (Gin4_1 @ui) (Gin4_1 @ui))
    .rw[if_neg h]at c;refine Gw0 ?_;intros;refine⟨(),?_⟩;rw[c];exact(Xf [(0,2,0)] [] rfl (Gin4_1 @ui) (Gin4_1 @ui))
 .rintro _ _ _;unfold ziN;refine Gw0 ?_;intros;refine zx [(0,0,0)] 1 _ (zqf b.targets 0 _ _ (zFX g) d) rfl rfl (by simp only[evWB,Xa,Xb,Xd,Xc,Xe,implies_true]) (by simp only[evWB,Xa,Xb,Xd,Xc,Xe,implies_true]) ?_;rintro v t o ⟨m,rfl,rfl,rfl⟩;refine Gw1 @zg8.eq_1 ?_;intros;refine⟨_,?_,rfl⟩;have:=Wk (edgeOk g.blocks.length) b.targets;try simp only[Bool.not_not]
  exact zzp (l:=b.targets.filter (edgeOk g.blocks.length)) (m:=m) trivial rfl (by omega)
def aLL(E:Adj)(n k:Nat):List (List AV):=(Wg n).map λi=>[if i<k then zo (suc E i)else .nilsl]
theorem zMX{E}{n k}:(aLL E n k).length=n:=by simp[aLL]
theorem zD0{E}{n}:aLL E n 0=Wj n [.nilsl]:=by unfold aLL;simp only[Nat.not_lt_zero,if_false];rw[List.map_const',WO]
theorem zM7{E}{n k}:(aLL E n k).set k [zo (suc E k)]=aLL E n (k+1):=by
 unfold aLL;rw[zfH];refine Wo λi b=>?_
 unfold updF;split
 .rename_i h;subst h;rw[if_pos (by omega)]
 .show [if i<k then zo (suc E i)else AV.nilsl]=_;by_cases h:i<k
  .rw[if_pos h,if_pos (by omega)]
  .rw[if_neg h,if_neg (by omega)]
theorem zEI{E}{n k}:zA (aLL E n k):=by intro c b;obtain⟨i,_,rfl⟩:=List.mem_map.1 b;split<;>rfl
theorem zL6{E}{n}(c:E.length=n):aLL E n n=E.map cNs:=by
 subst c;apply WB;intro i;unfold aLL;by_cases b:i<E.length
 .simp[b,suc,Wd]
 .simp[b]
theorem zuU(g:Gr)(c:g.small):zw Z9 zkT [.agg g.cells] (·=zuK g.E):=by
 refine fn_x zuJ rfl ?_;refine dcU zoz.eq_1 ?_;have d:=hBig;have m:=c.1;have b:=g.E_len;refine Gw1 @ui ?_;intros;refine zc (λk:Nat=>([(1,encP 2 g.cells),(3,.own 0 0 0 0 g.blocks.length),(11,.int .i64 g.blocks.length),(12,.int .i64 k)],[(0,.row 1 (aLL g.E g.blocks.length k) 0)])) 1 (λk=>k<=g.blocks.length) (λk=>g.blocks.length-k) 0 (Wh _) (Xf [(0,1,0)] [] rfl (Gin4_2 @ui @zD0) (Gin4_2 @ui @zD0)) ?_;intro k j wf;refine dcU zkw.eq_1 ?_;refine Gw2 @uk @ui ?_;intros;(refine zz (λh=>?_) (λh=>?_))<;>(try simp only[dcd]at h)
 ·(refine Gw1 @Gr.two ?_;intros);refine zg (ze (zsI g c k (by omega)) rfl) ?_;refine Gw1 @zMX ?_;intros;have e:(aLL g.E g.blocks.length k).set k (zo (suc g.E k)).cells=aLL g.E g.blocks.length (k+1):=zM7;refine⟨⟨by omega,rfl,rfl⟩,?_⟩;rw[e];refine Gw0 ?_;intros;exact⟨k+1,by omega,by omega,(Xf [(0,0,0)] [] rfl (by(try simp only[evWB,Xa,Xb,Xd,Xc,Xe,implies_true,Xh,zn7 zEI])<;>exact fin4) (by(try simp only[evWB,Xa,Xb,Xd,Xc,Xe,implies_true,Xh,zn7 zEI])<;>exact fin4))⟩
 .obtain rfl:k=g.blocks.length:=by omega
  unfold zld;refine Gw1 @zoh.eq_1 ?_;intros;refine⟨_,?_,rfl⟩;rw[zL6 b];have:=vw_NN (H:=[(0,.row 1 (g.E.map cNs) 0)]) (H2:=[]) (σ:=nos) (D:=allR) (t:=false) (r:=0) (q:=0) (g:=0) (l:=g.E) trivial rfl (by omega)
  rwa [b]at this
structure Adj.small(A:Adj):Prop where
 len:A.length<=2000
 row:∀k,(suc A k).length<=2000000
def keepP(l:List Nat)(j:Nat):Bool:=j == 0||(l.getD j 0 != l.getD (j-1) 0)
def keepL(l:List Nat)(n:Nat):List Nat:=(filR (keepP l) n).map (λj=>l.getD j 0)
theorem _root_.Go.Ab.Gr.E_small{g:Gr}(c:g.small):g.E.small:=by
 refine⟨by rw[g.E_len];have:=c.1;omega,λk=>?_⟩;unfold suc Gr.E;rw[Wd,Ws]
 cases d:g.blocks[k]? with
 |none=>simp
 |some b=>simp only[Wt,WD,List.length_map];have e:=Wk (edgeOk g.blocks.length) b.targets;have h:=c.2 b (List.mem_of_getElem? d);omega
def inB(n:Nat)(l:List Nat):List Bool:=mapR (λi=>decide (i∈l)) n
theorem zGv{n}{l}:(inB n l).length=n:=zLi
theorem zM8{n i}{l}(h:i<n):((inB n l).map cB).getD i []=[.bool (decide (i∈l))]:=by simp[inB,mapR,Wd,h]
theorem zMh{n k}{l}:((inB n l).map cB).set k [.bool true]=(inB n (l++[k])).map cB:=by
 unfold inB mapR;rw[Wi,Wi,zfH];refine Wo λi b=>?_
 unfold updF;split
 .rename_i h;subst h;simp
 .rename_i h;simp[h]
theorem zHD{n}:(inB n []).map cB=Wj n [.bool false]:=by
 unfold inB mapR;rw[Wi];have:(cB ∘ λi=>decide (i∈([]:List Nat)))=λ_=>[AV.bool false]:=by funext i;simp
 rw[this,List.map_const',WO]
def zeL(A:Adj):List AV:=[.ptr 1 0 0 0 0,.iptr 1 λj=>[zuK A].getD j .undef,.ptr 3 0 0 0 0,.ptr 2 0 0 0 0]
def ordH(A:Adj)(s:List Nat×List Nat)(g:Nat):AH:=[(0,.row 1 ((inB A.length s.1).map cB) 0),(1,.row 1 [[.own 0 0 0 0 A.length]] 0),(2,.row 1 [[.own 4 0 g 0 s.2.length]] 0),
 (3,.row 1 [[.fn (.func zeq) (zeL A)]] 0),(4,.row 1 (s.2.map cN) g)]
theorem _root_.Go.Ab.uo:type_of% @ordH.eq_1:=@ordH.eq_1
theorem _root_.Go.Ab.ug:type_of% @zo.eq_1:=@zo.eq_1
theorem _root_.Go.Ab.um:type_of% @zeL.eq_1:=@zeL.eq_1
theorem zjG(A)(I:A.small)(t:A.ok):∀(f:Nat)(k g:Nat)(s:List Nat×List Nat)(m d:Nat),DfsI A.length m d s->k<A.length->k∉s.1->A.length<=f+m ->
  z7 Z9 zeq ([.int .i64 k]++zeL A) (ordH A s g) 5 (λv H R=>∃F,v=.tup []/\H=ordH A (dfs A f k s) F/\R=5)
 |
  0,k,g,s,m,d,u,y,L,hf=>by
  have:=(u.nd.snoc y L).len;have:=u.le;simp at *;omega
 |
  f+1,k,g,s,m,d,u,y,L,hf=>by
  have Q:=zjG A I t f;have V:=hBig;have O:=u.nd.len;have P:=u.post;have M:=I.len;refine zS (fn_x zqh rfl ?_);refine dcU zjK.eq_1 ?_;have C:∀c∈suc A k,c<A.length:=t k;have p:DfsI A.length (m+1) (d+1) (s.1++[k],s.2):=⟨u.nd.snoc y L,by have:=u.le;simp;omega,by simp;omega⟩;have n:=zzl A f k s;have q:=I.row k;rw[zMf y]at C n q;refine Gw7 @um @uo @zGv @zuK.eq_1 @ug (gmp y) @zMh ?_;intros;generalize N:A[k]=j at C n q⊢;let S:=λi:Nat=>(j.take i).foldl (zeM A f) (s.1++[k],s.2)
  refine zc (λa:Nat×Nat=>([(0,.int .i64 k),(1,.ptr 1 0 0 0 0),(3,.ptr 3 0 0 0 0),(4,.ptr 2 0 0 0 0),(14,zo j),(15,.int .i64 j.length),(16,.int .i64 a.1)],ordH A (S a.1) a.2)) 5
   (λa=>a.1<=j.length) (λa=>j.length-a.1) (0,g) (Wh _) (Xg [(0,0,0),(1,1,0),(2,2,0),(3,3,0),(4,4,0)] [] rfl rfl rfl (by(try simp only[evWB,Xa,Xb,Xd,Xc,Xe,implies_true,S,List.foldl_nil,ordH,zeL,zuK])<;>exact fin4) (by(try simp only[evWB,Xa,Xb,Xd,Xc,Xe,implies_true,S,List.foldl_nil,ordH,zeL,zuK])<;>exact fin4)) ?_
  rintro⟨i,a0⟩ hi wf;simp only at hi;refine dcU zhF.eq_1 ?_;refine Gw2 @uo @ug ?_;intros;have D:DfsI A.length (m+1) (d+1) (S i):=zrj (zv9 t f (m+1) (d+1)) (j.take i) _ (λc x=>C c (List.mem_of_mem_take x)) p;have K:=D.nd.len;(refine zz (λh=>?_) (λh=>?_))<;>(try simp only[dcd]at h)
  .have o:i<j.length:=by omega
   have b:S (i+1)=zeM A f (S i) j[i]:=zpA o;have x:=C j[i] (Ww o);generalize S i=B at D K b⊢;refine Gw1 (gmp o) ?_;intros;generalize j[i]=c at b x⊢
   (repeat first|simp(disch:=try exact dis1) only[evD,Xa,Xb,Xc,zGv,zM8 x]|with_reducible first|intro _|refine aJ ?_)
   (refine zz (λw=>?_) (λw=>?_))<;>(try simp only[dcd]at w)
   .have e:zeM A f B c=dfs A f c B:=by unfold zeM;rw[if_neg w]
    rw[e]at b;refine Gw1 @um ?_;intros;refine⟨by kernel_rfl,?_⟩;refine zx [(0,0,0),(1,1,0),(2,2,0),(3,3,0),(4,4,0)] 5 _ (Q c a0 B (m+1) (d+1) D x w (by omega)) rfl rfl (Gin4_2 @uo @um) (Gin4_2 @uo @um) ?_;rintro v U T ⟨F,rfl,rfl,rfl⟩;refine Gw2 @uo @um ?_;intros;exact⟨(i+1,F),by simp only;omega,by simp only;omega,(Xg [(0,0,0),(1,1,0),(2,2,0),(3,3,0),(4,4,0)] [] rfl rfl rfl (Gin4_3 b @uo @um) (Gin4_3 b @uo @um))⟩
   .have e:zeM A f B c=B:=by unfold zeM;rw[if_pos w]
    rw[e]at b;refine Gw0 ?_;intros;exact⟨(i+1,a0),by simp only;omega,by simp only;omega,(Xg [(0,0,0),(1,1,0),(2,2,0),(3,3,0),(4,4,0)] [] rfl rfl rfl (Gin4_3 b @uo @um) (Gin4_3 b @uo @um))⟩
  .refine dcU zhh.eq_1 ?_;have o:j.length<=i:=by omega
   have J:S i=j.foldl (zeM A f) (s.1++[k],s.2):=by simp only[S];rw[Wl o]
   have:=D.post;refine Gw1 @zjq.eq_1 ?_;intros;refine⟨.tup [],ordH A (dfs A (f+1) k s) (a0+1),5,?_,a0+1,rfl,rfl,rfl⟩;rw[J,n];exact(Xg [(0,0,0),(1,1,0),(2,2,0),(3,3,0),(4,4,0)] [] rfl rfl rfl (Gin4_2 @uo @um) (Gin4_2 @uo @um))
def revP(l:List Nat)(i x:Nat):Nat:=if x<i\/l.length-i<=x then l.getD (l.length-1-x) 0 else l.getD x 0
def revL(l:List Nat)(i:Nat):List Nat:=(Wg l.length).map (revP l i)
theorem zzN{l}{i}:(revL l i).length=l.length:=by simp[revL]
theorem zpN{l}:revL l 0=l:=by
 apply WB;intro x;unfold revL revP;by_cases b:x<l.length
 .have:¬l.length<=x:=by omega
  simp[b,Wd,this]
 .simp[b]
theorem zzz{l}{i}(h:l.length<=2*i+1):revL l i=l.reverse:=by
 apply WB;intro x;unfold revL revP;by_cases b:x<l.length
 .rw[List.getElem?_reverse b];simp only[Ws,List.getElem?_range b,Wt];by_cases c:x<i\/l.length-i<=x
  .rw[if_pos c];rw[Wd,We (show l.length-1-x<l.length by omega)];rfl
  .rw[if_neg c,show l.length-1-x=x by omega,Wd,We b];rfl
 .simp[b]
theorem zsi{l}{i x}(b:x<l.length):((revL l i).map cN).getD x []=[.int .i64 (revP l i x:Int)]:=by simp[revL,Wd,b]
theorem zvl{l}{i}(h:2*i+1<l.length):
  (((revL l i).map cN).set i [.int .i64 (revP l i (l.length-1-i):Int)]).set (l.length-1-i) [.int .i64 (revP l i i:Int)]=(revL l (i+1)).map cN:=by
 unfold revL;rw[Wi,Wi,zfH,zfH];refine Wo λx e=>?_
 have g:=Wr.1 e;unfold updF;simp only[Wv];by_cases c:x=l.length-1-i
 .rw[if_pos c];unfold revP;rw[if_neg (by omega),if_pos (by omega),show l.length-1-x=i by omega]
 .rw[if_neg c];by_cases b:x=i
  .rw[if_pos b];unfold revP;rw[if_neg (by omega),if_pos (by omega),b]
  .rw[if_neg b];unfold revP;by_cases d:x<i\/l.length-i<=x
   .rw[if_pos d,if_pos (by omega)]
   .rw[if_neg d,if_neg (by omega)]
theorem ziB(l:List Nat)(g:Nat)(j:l.length<=1000000):z7 Z9 zdX [.own 0 0 g 0 l.length] [(0,.row 1 (l.map cN) g)] 1
  (λv H b=>v=.tup []/\H=[(0,.row 1 (l.reverse.map cN) g)]/\b=1):=by
 refine zS (fn_x zmf rfl ?_);refine dcU zgh.eq_1 ?_;have c:=hBig;refine Gw0 ?_;intros;refine zc (λi:Nat=>([(0,.own 0 0 g 0 l.length),(2,.int .i64 i),(3,.int .i64 ((l.length:Int)-1-i))],[(0,.row 1 ((revL l i).map cN) g)])) 1 (λi=>2*i<=l.length+1) (λi=>l.length+1-i) 0 (by omega) (Xg [(0,0,0)] [] rfl rfl rfl (Gin4_1 @zpN) (Gin4_1 @zpN)) ?_;intro i d wf;refine dcU zfb.eq_1 ?_;refine Gw0 ?_;intros;(refine zz (λh=>?_) (λh=>?_))<;>(try simp only[dcd]at h)
 .have e:((l.length:Int)-1-i).toNat=l.length-1-i:=by omega
  (repeat first|simp(disch:=try exact dis1) only[evD,Xa,Xb,Xc,e,zzN,zsi (l:=l) (i:=i) (show l.length-1-i<l.length by omega),zsi (l:=l) (i:=i) (show i<l.length by omega),List.length_set]|with_reducible first|intro _|refine aJ ?_)
  rw[zvl (by omega)];exact⟨i+1,by omega,by omega,(Xg [(0,0,0)] [] rfl rfl rfl Gin4_0 Gin4_0)⟩
 ·(refine Gw1 @zge.eq_1 ?_;intros);refine⟨.tup [],[(0,.row 1 (l.reverse.map cN) g)],1,?_,rfl,rfl,rfl⟩;rw[zzz (by omega)];exact(Xg [(0,0,0)] [] rfl rfl rfl Gin4_0 Gin4_0)
def ordL(A:Adj)(r:Nat):List Nat:=(dfs A A.length r ([],[])).2.reverse
theorem zMG{A}(b:A.ok){r}(c:r<A.length):DfsI A.length 0 0 (dfs A A.length r ([],[])) :=
 zv9 b A.length 0 0 r _ ⟨⟨by simp,by simp⟩,by simp,by simp⟩ c (by simp)
theorem zr1(A:Adj)(g:A.small)(b:A.ok)(r:Nat)(j:r<A.length):zw Z9 zfy [zuK A,.int .i64 r] (·=zo (ordL A r)):=by
 refine fn_x zlZ rfl ?_;unfold zhL;have o:=hBig;have p:=g.len;have hd:=zMG b j;have c:=hd.nd.len;have d:=hd.post;have n:DfsI A.length 0 0 ([],[]):=⟨⟨by simp,by simp⟩,by simp,by simp⟩;refine Gw1 @zuK.eq_1 ?_;intros;(refine zz (λh=>?_) (λh=>?_))<;>(try simp only[dcd]at h)
 .omega
 refine Gw0 ?_;intros;refine⟨by kernel_rfl,?_⟩;refine zx [(0,1,0),(1,2,0),(2,3,0),(3,4,0)] 5 _ (zjG A g b A.length r 0 ([],[]) 0 0 n j (by simp) (by omega)) rfl rfl (Gin4_4 @uo @um @zHD @zuK.eq_1) (Gin4_4 @uo @um @zHD @zuK.eq_1) ?_;rintro v k e ⟨m,rfl,rfl,rfl⟩;unfold ordL;generalize dfs A A.length r ([],[])=s at c d⊢;refine Gw2 @uo @um ?_;intros;refine zx [(0,9,0)] 1 _ (ziB s.2 m (by omega)) rfl rfl Gin4_0 Gin4_0 ?_;rintro v k e ⟨rfl,rfl,rfl⟩;refine Gw1 @zhJ.eq_1 ?_;intros;refine⟨_,?_,rfl⟩;rw[show s.2.length=s.2.reverse.length by simp];exact zs3 trivial rfl (by simp;omega)
theorem zqw(A)(r:Nat)(b:A.length<=r):zw Z9 zfy [zuK A,.int .i64 r] (·=zo []):=by
 refine fn_x zlZ rfl ?_;unfold zhL;refine Gw1 @zuK.eq_1 ?_;intros;(refine zz (λh=>?_) (λh=>?_))<;>(try simp only[dcd]at h)
 ·(refine Gw1 @zhJ.eq_1 ?_;intros);refine⟨_,?_,rfl⟩;exact zs3 (l:=[]) trivial rfl (Wh _)
 .omega
theorem dominator_Order_ok(g:Gr)(b:g.small):zw Z9 zc1 [.agg g.cells] (·=zo (orderL g.E)):=by
 refine fn_x zsF rfl ?_;refine dcU zl1.eq_1 ?_;refine Gw2 @ui @Gr.two ?_;intros;refine zg (ze (zuU g b) rfl) ?_;refine Gw0 ?_;intros;by_cases c:0<g.E.length
 .refine zg (ze (zr1 g.E (Gr.E_small b) g.E_ok 0 c) rfl) ?_;refine Gw1 @zhT.eq_1 ?_;intros;refine⟨_,.sl _ _ _ _,?_⟩;have:orderL g.E=ordL g.E 0:=by unfold orderL ordL;rw[if_neg (by omega)]
  rw[this];rfl
 .refine zg (ze (zqw g.E 0 (by omega)) rfl) ?_;refine Gw1 @zhT.eq_1 ?_;intros;refine⟨_,.sl _ _ _ _,?_⟩;have:orderL g.E=[]:=by unfold orderL;rw[if_pos (by omega)]
  rw[this];rfl
structure TI(A:Adj)(r:Nat)(l:List Nat)(f:Nat->Nat)(T:Nat->Option Nat):Prop where
 wt:WT r l T
 sd:Sd A r l T
 gd:T=(λ_=>none)\/∃T0,Gd A r l f T0 T
structure Bst(U:Nat->Option Nat)(r:Nat)(l qs:List Nat)(best:Option Nat):Prop where
 no:best=none->∀p∈qs,p∈l->¬Hd r U p
 yes:∀c,best=some c->c∈l/\Hd r U c/\∀x,Ch U c x↔∀p∈qs,p∈l->Hd r U p->Ch U p x
theorem dF{p}(h:¬p){b:Decidable p}:@decide p b=false:=decide_eq_false h
theorem dT{p}(h:p){b:Decidable p}:@decide p b=true:=decide_eq_true h
end Go.Ab.Dm
namespace Go.Ab.Dm
structure SL(A:Adj)(r:Nat)(l:List Nat)(inc:Bool)(S:Adj)(n:Nat):Prop where
 nd:∀b,b<n->(suc S b).Nodup
 mem:∀a b,b<n->(a∈suc S b↔(b∈l/\a∈l/\a≠b/\(a≠r\/inc=true)/\Dm A r a b))
end Go.Ab.Dm
namespace Go.Ab.Dm
open Go.RowKit Go.Proofs
theorem orderL_nd{E}(c:E.ok):NdL E.length (orderL E):=by
 by_cases d:0<E.length
 .have b:orderL E=ordL E 0:=by unfold orderL ordL;rw[if_neg (by omega)]
  rw[b];exact⟨(rpo c d).nd,(rpo c d).lt⟩
 .have b:orderL E=[]:=by unfold orderL;rw[if_pos (by omega)]
  rw[b];exact⟨by simp,by simp⟩
end Go.Ab.Dm
namespace Go.Ab
def insU(n:Int):List Int->List Int
 |[]=>[n]
 |x::l=>if x<n then x::insU n l else if x=n then x::l else n::x::l
def ze5(a b:List Int):List Int:=b.foldl (λa x=>insU x a) a
def Asc(l:List Int):Prop:=l.Pairwise (· < ·)
theorem zzw{n y}:∀{l:List Int},y∈insU n l↔y=n\/y∈l
 |[]=>by simp[insU]
 |
  x::l=>by
  unfold insU;split
  .rw[Wc,zzw,Wc];constructor
   .rintro(h|h|h)
    .exact .inr (.inl h)
    .exact .inl h
    .exact .inr (.inr h)
   .rintro(h|h|h)
    .exact .inr (.inl h)
    .exact .inl h
    .exact .inr (.inr h)
  .split
   .rename_i h;subst h;simp
   .simp
theorem zEa{n}:∀{l:List Int},Asc l->Asc (insU n l)
 |[],_=>by simp[insU,Asc]
 |
  x::l,h=>by
  have c:=λy (b:y∈l)=>WC h b
  have e:=Xj h;unfold insU;split
  .rename_i d;refine Xk (λy b=>?_) (zEa e);rcases zzw.1 b with rfl|b
   .exact d
   .exact c y b
  .split
   .exact h
   .refine Xk (λy b=>?_) h;rcases Wc.1 b with rfl|b
    .omega
    .have:=c y b;omega
theorem zmz{y}:∀{b a:List Int},y∈ze5 a b↔y∈a\/y∈b
 |[],a=>by simp[ze5]
 |
  x::b,a=>by
  have:=zmz (y:=y) (b:=b) (a:=insU x a);unfold ze5 at this⊢;rw[List.foldl_cons,this,zzw,Wc];constructor
  .rintro((h|h)|h)
   .exact .inr (.inl h)
   .exact .inl h
   .exact .inr (.inr h)
  .rintro(h|h|h)
   .exact .inl (.inr h)
   .exact .inl (.inl h)
   .exact .inr h
theorem zm7:∀{b a:List Int},Asc a->Asc (ze5 a b)
 |[],a,h=>h
 |
  x::b,a,h=>by
  have:=zm7 (b:=b) (zEa (n:=x) h);unfold ze5 at this⊢;rw[List.foldl_cons];exact this
theorem zCm:∀{a b:List Int},Asc a->Asc b->(∀x,x∈a↔x∈b)->a=b
 |[],[],_,_,_=>rfl
 |[],y::b,_,_,h=>by have:=(h y).2 (by simp);cases this
 |x::a,[],_,_,h=>by have:=(h x).1 (by simp);cases this
 |
  x::a,y::b,ha,hb,h=>by
  have j:=λz (c:z∈a)=>WC ha c
  have k:=λz (c:z∈b)=>WC hb c
  have e:x=y:=by
   rcases Wc.1 ((h x).1 (by simp))with d|d
   .exact d
   .rcases Wc.1 ((h y).2 (by simp))with g|g
    .exact g.symm
    .have:=j y g;have:=k x d;omega
  subst e;congr 1;refine zCm (Xj ha) (Xj hb) λz=>?_
  constructor
  .intro c;rcases Wc.1 ((h z).1 (WP _ c))with rfl|d
   .have:=j z c;omega
   .exact d
  .intro c;rcases Wc.1 ((h z).2 (WP _ c))with rfl|d
   .have:=k z c;omega
   .exact d
def zLu(a b:List Int):List Int:=a.filter λx=> !decide (x∈b)
mutual
def zga:Ex->List Int
 |.mk op _ v _ l=>zlb (if op=2 then[v]else[]) l
def zlb:List Int->List Ex->List Int
 |a,[]=>a
 |a,x::l=>zlb (ze5 a (zga x)) l
end
mutual
def occX:Ex->List Int
 |.mk op _ v _ l=>(if op=2 then[v]else[])++zeo l
def zeo:List Ex->List Int
 |[]=>[]
 |x::l=>occX x++zeo l
end
mutual
theorem zm3{y:Int}:∀e:Ex,y∈zga e↔y∈occX e
 |.mk op _ v _ l=>by rw[zga,occX,zx0,Wa]
theorem zx0{y:Int}:∀(a:List Int)(l:List Ex),y∈zlb a l↔y∈a\/y∈zeo l
 |a,[]=>by rw[zlb,zeo];simp
 |a,x::l=>by rw[zlb,zx0,zmz,zm3 x,zeo,Wa,or_assoc]
end
theorem zyr:∀(a:List Int)(l:List Ex),Asc a->Asc (zlb a l)
 |a,[],h=>by rw[zlb];exact h
 |a,x::l,h=>by rw[zlb];exact zyr _ l (zm7 h)
theorem zHr(e):Asc (zga e):=by obtain⟨op,n,v,w,l⟩:=e;rw[zga];refine zyr _ _ ?_;split<;>simp[Asc]
def zw4:List Int->List Ex->List Int
 |a,[]=>a
 |a,x::l=>zw4 (ze5 a (zga x)) l
def zjd(s:St):List Int:=zw4 [] s.e
theorem zBi:∀(a:List Int)(l:List Ex),Asc a->Asc (zw4 a l)
 |a,[],h=>h
 |a,x::l,h=>zBi _ l (zm7 h)
theorem zsb{y}:∀(a:List Int)(l:List Ex),y∈zw4 a l↔y∈a\/y∈zeo l
 |a,[]=>by rw[zw4,zeo];simp
 |a,x::l=>by rw[zw4,zsb,zmz,zm3 x,zeo,Wa,or_assoc]
theorem zGr(s):Asc (zjd s):=zBi _ _ (by simp[Asc])
def znl(s:St):List Int:=if s.op=1\/s.op=3 then[s.var]else[]
def zMQ(s:St):Bool:=decide (s.op=9\/s.op=10\/s.op=5)
def zLV(exit:List Int)(s:St)(after:List Int):List Int :=
 if zMQ s=true then ze5 (ze5 (zLu after (znl s)) (zjd s)) exit else ze5 (zLu after (znl s)) (zjd s)
def beginB(exit:List Int)(l:List St)(e:List Int):List Int:=l.foldr (zLV exit) e
def zL9(exit:List Int)(l:List St)(e:List Int):List Int:=if l.length=0 then[]else beginB exit l e
def endT(b:List (List Int))(a:List Int)(t:Int):List Int:=if 0<=t/\t<b.length then ze5 a (b.getD t.toNat [])else a
def endB(b:List (List Int))(l:List St):List Int:=(zar l).foldl (endT b) []
def newB(exit:List Int)(g:List Bl)(b:List (List Int))(i:Nat):List Int:=zL9 exit ((g.map (·.stmts)).getD i []) (endB b ((g.map (·.stmts)).getD i []))
structure LInv(exit:List Int)(g:List Bl)(ins:List (List Int)):Prop where
 len:ins.length=g.length
 asc:∀i,Asc (ins.getD i [])
 sub:∀i,∀x∈ins.getD i [],x∈newB exit g ins i
end Go.Ab
namespace Go.Ab
open Go.RowKit Go.Proofs
def leB(a b:List Bool):Prop:=∀i,a.getD i false=true->b.getD i false=true
theorem leB.refl(a):leB a a:=λ_ h=>h
theorem leB.trans{a b c}(h:leB a b)(k:leB b c):leB a c:=λi x=>k i (h i x)
theorem zv0{o:List Bool}{b i:Nat}{x:Bool}(c:b<o.length):(o.set b x).getD i false=if i=b then x else o.getD i false:=by
 simp only[Wm];by_cases h:i=b
 .subst h;rw[if_pos rfl,List.getElem?_set_self c];rfl
 .rw[if_neg h,List.getElem?_set_ne (Ne.symm h)]
theorem zJ5{a b}(p:a.length=b.length)(h:leB a b)(k:leB b a):a=b:=by
 refine List.ext_getElem p λi m n=>?_
 have g:a.getD i false=a[i]:=by simp[Wm,m]
 have j:b.getD i false=b[i]:=by simp[Wm,n]
 have d:=h i;have e:=k i;rw[g,j]at d e
 cases c:a[i]with
 |true=>exact(d c).symm
 |false=>
  cases o:b[i]with
  |true=>rw[e o]at c;cases c
  |false=>rfl
def cntT(l:List Bool):Nat:=(l.filter id).length
theorem zM4(l):cntT l<=l.length:=Wk _ _
theorem zEF:∀{l:List Bool}{b:Nat},b<l.length->l.getD b false=false->cntT (l.set b true)=cntT l+1
 |[],b,h,_=>by cases h
 |
  x::l,0,_,hx=>by
  have:x=false:=by simpa using hx
  subst this;simp[cntT]
 |
  x::l,b+1,h,hx=>by
  have c:=zEF (l:=l) (b:=b) (by simpa using h) (by simpa using hx);unfold cntT at c⊢;cases x<;>simp at c⊢<;>omega
structure MonoF(n:Nat)(F:List Bool->Nat->Bool):Prop where
 mono:∀o o' b,b<n->leB o o'->F o b=true->F o' b=true
section
variable {n:Nat}{F:List Bool->Nat->Bool}
def zlr(F:List Bool->Nat->Bool)(o:List Bool)(b:Nat):List Bool:=o.set b (F o b)
def upB(n:Nat)(F:List Bool->Nat->Bool)(o:List Bool):Prop:=o.length=n/\∀b,b<n->o.getD b false=true->F o b=true
theorem zvF{o}{b}:(zlr F o b).length=o.length:=by simp[zlr]
theorem zEP{o}{b}(d:upB n F o)(c:b<n):leB o (zlr F o b):=λi h=>by
 unfold zlr;rw[zv0 (by rw[d.1];exact c)];split
 .rename_i e;subst e;exact d.2 _ c h
 .exact h
theorem zze(j:MonoF n F){o}{b}(d:upB n F o)(g:b<n):upB n F (zlr F o b):=by
 refine⟨by rw[zvF,d.1],λi k h=>?_⟩;have c:=zEP d g;unfold zlr at h;rw[zv0 (by rw[d.1];exact g)]at h;split at h
 .rename_i e;subst e;exact j.mono _ _ _ g c h
 .exact j.mono _ _ _ k c (d.2 i k h)
theorem zID{o}{b}(k:upB n F o)(j:b<n):zlr F o b=o/\F o b=o.getD b false\/cntT (zlr F o b)=cntT o+1:=by
 have d:b<o.length:=by rw[k.1];exact j
 have e:o.getD b false=o[b]:=by simp[Wm,d]
 unfold zlr
 cases h:F o b with
 |false=>
  have g:o.getD b false=false:=by
   cases c:o.getD b false with
   |false=>rfl
   |true=>rw[k.2 b j c]at h;cases h
  refine .inl ⟨?_,g.symm⟩;rw[e]at g;rw[<-g];exact WQ d
 |true=>
  cases c:o.getD b false with
  |true=>refine .inl ⟨?_,rfl⟩;rw[e]at c;rw[<-c];exact WQ d
  |false=>exact .inr (zEF d c)
theorem zB4{o Y}{b}(g:MonoF n F)(k:upB n F o)(d:b<n)(j:∀b,b<n->F Y b=true->Y.getD b false=true)(h:leB o Y):leB (zlr F o b) Y:=λi c=>by
 unfold zlr at c;rw[zv0 (by rw[k.1];exact d)]at c;split at c
 .rename_i e;subst e;exact j _ d (g.mono _ _ _ d h c)
 .exact h i c
def zph(F:List Bool->Nat->Bool)(b:List Nat)(o:List Bool):List Bool:=b.foldl (zlr F) o
theorem zw1(m:MonoF n F):∀{bs:List Nat}{o:List Bool},(∀b∈bs,b<n)->upB n F o->upB n F (zph F bs o)/\leB o (zph F bs o)/\(zph F bs o=o/\(∀b∈bs,F o b=o.getD b false)\/cntT o<cntT (zph F bs o))
 |[],o,_,e=>⟨e,leB.refl _,.inl ⟨rfl,λb h=>by cases h⟩⟩
 |
  b::bs,o,h,e=>by
  have c:=h b (by simp);obtain⟨p,q,j⟩:=zw1 m (bs:=bs) (o:=zlr F o b) (λx g=>h x (by simp[g])) (zze m e c);refine⟨p,(zEP e c).trans q,?_⟩;show(zph F bs (zlr F o b)=o/\_)\/cntT o<cntT (zph F bs (zlr F o b));rcases zID e c with ⟨k,s⟩|k
  .rw[k]at j⊢;rcases j with ⟨d,t⟩|d
   .exact .inl ⟨d,λx g=>by
    rcases Wc.1 g with rfl|g
    .exact s
    .exact t x g⟩
   .exact .inr d
  .right;rcases j with ⟨d,_⟩|d
   .rw[d];omega
   .omega
theorem zx1(c:MonoF n F){Y}(e:∀b,b<n->F Y b=true->Y.getD b false=true):∀{bs:List Nat}{o:List Bool},(∀b∈bs,b<n)->upB n F o->leB o Y->leB (zph F bs o) Y
 |[],o,_,_,h=>h
 |b::bs,o,d,g,h=>zx1 c e (bs:=bs) (λx j=>d x (by simp[j])) (zze c g (d b (by simp))) (zB4 c g (d b (by simp)) e h)
def zqm(F:List Bool->Nat->Bool)(b:List Nat):Nat->List Bool->List Bool
 |0,o=>o
 |k+1,o=>zqm F b k (zph F b o)
theorem zBp{bs}{o}(h:zph F bs o=o):∀k,zqm F bs k o=o
 |0=>rfl
 |k+1=>by rw[zqm,h,zBp h k]
theorem zED(e:MonoF n F){bs}(g:∀b∈bs,b<n):∀(k:Nat)(o:List Bool),upB n F o->n<cntT o+k->upB n F (zqm F bs k o)/\∀b∈bs,F (zqm F bs k o) b=(zqm F bs k o).getD b false
 |
  0,o,c,h=>by
  have:=zM4 o;rw[c.1]at this;omega
 |
  k+1,o,c,h=>by
  obtain⟨j,q,m⟩:=zw1 e g c;rcases m with ⟨d,p⟩|d
  .rw[zBp d];exact⟨c,p⟩
  .rw[zqm];exact zED e g k _ j (by omega)
theorem zAE(c:MonoF n F){Y}(g:∀b,b<n->F Y b=true->Y.getD b false=true){e}(d:∀b∈e,b<n):∀(k:Nat)(o:List Bool),upB n F o->leB o Y->leB (zqm F e k o) Y
 |0,o,_,h=>h
 |k+1,o,j,h=>zAE c g d k _ (zw1 c d j).1 (zx1 c g d j h)
def zhi(n:Nat)(F:List Bool->Nat->Bool):List Bool:=zqm F (Wg n) (n+1) (Wj n false)
theorem zGz:upB n F (Wj n false):=⟨by simp,λb c h=>by simp[Wm,c]at h⟩
theorem zyh:∀{c:List Nat}{o:List Bool},(zph F c o).length=o.length
 |[],o=>rfl
 |
  b::c,o=>by
  show(zph F c (zlr F o b)).length=_;rw[zyh,zvF]
theorem zA6{bs}:∀{k:Nat}{o:List Bool},(zqm F bs k o).length=o.length
 |0,o=>rfl
 |k+1,o=>by rw[zqm,zA6,zyh]
theorem ztG(n)(F):(zhi n F).length=n:=by unfold zhi;rw[zA6,List.length_replicate]
theorem zwZ(g:MonoF n F):(zhi n F).length=n/\∀b,b<n->F (zhi n F) b=(zhi n F).getD b false:=by obtain⟨d,e⟩:=zED g (bs:=Wg n) (λb c=>Wr.1 c) (n+1) _ zGz (by omega);exact⟨d.1,λb c=>e b (Wr.2 c)⟩
theorem zyQ(c:MonoF n F){Y}(d:∀b,b<n->F Y b=true->Y.getD b false=true):leB (zhi n F) Y :=
 zAE c d (λb e=>Wr.1 e) _ _ zGz λi h=>by simp only[Wm,List.getElem?_replicate]at h;split at h<;>cases h
theorem zGx(d:MonoF n F){X:List Bool}(j:X.length=n)(e:∀b,b<n->F X b=X.getD b false)(c:leB X (zhi n F)):X=zhi n F:=by refine zJ5 (by rw[j,(zwZ d).1]) c (zyQ d λb g h=>?_);rw[<-e b g];exact h
end
end Go.Ab
namespace Go.Ab
open Go.RowKit Go.Proofs Go.Maps Go.Sort Go.Shelf
end Go.Ab
