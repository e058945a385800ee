/-
  Part 11 of the proof: how the calls of this program run, over values instead of memory, and what each function computes.
-/
import Derived.Test.YtihlaappclhhaaaGreatKj
set_option maxRecDepth 100000
set_option linter.unusedVariables false
set_option linter.unusedSimpArgs false
set_option linter.unnecessarySimpa false
set_option linter.unusedSectionVars false
open Nat renaming reduceBEq->Xa,reduceAdd->Xb,reduceLeDiff->Xc,reduceSub->Xd,reduceLT->Xe
open Go.Ab.Ent renaming tabB->Xf,tab->Xg,keep->Xi
open Go.Ab.Gr renaming cells->Xh
open List renaming foldl_nil->Xj,map_id->Xl,take_zero->Xm,nil_append->Xn,map_cons->Xo,sum_cons->Xp,all_cons->Xq,length_map->Xr,map_const'->Xs,foldl_cons->Xu
open List.Pairwise renaming of_cons->Xk,cons->Xt
open Go.Proofs.Tryz renaming prog->Z9
open List renaming mem_append→Wa,getElem?_eq_getElem→Wc,mem_cons→We,getD_eq_getElem?_getD→Wf,append_nil→Wg,range→Wh,take_of_length_le→Wi,map_map→Wj,replicate→Wk,length_filter_le→Wl,getD→Wm,take_add_one→Wo,map_congr_left→Wp,filter→Wq,getElem_mem→Wr,mem_range→Ws,getElem?_map→Wt,mem_filter→Wv,nodup_append→Wy,mem_reverse→Wz,map_replicate→WA,ext_getElem?→WB,rel_of_pairwise_cons→WC,filter_append→WE,mem_of_mem_take→WF,getElem?_reverse→WG,append_assoc→WH,findIdx?_eq_some_iff_getElem→WI,findIdx?_eq_none_iff→WJ,mem_iff_getElem→WK,filter_eq_self→WL,length_take→WN,take_length→WO,eq_nil_of_length_eq_zero→WP,length_range→WQ,mem_cons_of_mem→WR,set_getElem_self→WS
open Nat renaming zero_le→Wd,le_refl→Wx
open Bool renaming and_eq_true→Wn,false_eq_true→WM
open Option renaming map_some→Wu,getD_some→WD
open Function renaming comp→Ww
namespace Go.Ab.Dm
open Go.RowKit Go.Proofs
def edgeOk(n:Nat)(x:Int):Bool:=decide (0<=x)&&decide (x<n)
def _root_.Go.Ab.Gr.E(g:Gr):Adj:=g.blocks.map λb=>(b.targets.filter (edgeOk g.blocks.length)).map Int.toNat
def _root_.Go.Ab.Gr.small(g:Gr):Prop:=g.blocks.length<=1000/\∀b∈g.blocks,b.targets.length<=1000
theorem _root_.Go.Ab.Gr.E_len(g:Gr):g.E.length=g.blocks.length:=by simp[Gr.E]
theorem _root_.Go.Ab.Gr.E_ok(g:Gr):g.E.ok:=by
 intro k n c;unfold suc Gr.E at c;rw[Wf,Wt]at c
 cases d:g.blocks[k]? with
 |none=>rw[d]at c;simp at c
 |some b=>rw[d]at c;simp only[Wu,WD,List.mem_map,Wv,edgeOk,Wn,decide_eq_true_eq]at c;obtain⟨x,⟨_,e,h⟩,rfl⟩:=c;rw[g.E_len];omega
theorem zpG(l):za (l.map λ(n:Nat)=>(n:Int))=zi l:=by simp[za,zi,encL];rfl
theorem zen{α:Type}{p:α->Bool}{l:List α}{i:Nat}(h:i<l.length):(l.take (i+1)).filter p=(l.take i).filter p++if p l[i]then[l[i]]else[]:=by rw[Wo,Wc h,WE];cases b:p l[i]<;>simp[Wq,b]
theorem zxq{α:Type}(p:α->Bool)(l:List α)(i:Nat):((l.take i).filter p).length<=i:=Nat.le_trans (Wl _ _) (List.length_take_le _ _)
theorem _root_.Go.Ab.uh:type_of% @Gr.cells.eq_1:=@Gr.cells.eq_1
theorem R24_Edges_ok(g:Gr)(p:g.small)(k:Nat)(m:k<g.blocks.length):zq Z9 zhT [.agg g.cells,.int .i64 k] (·=zi (suc g.E k)):=by
 have o:zi (suc g.E k)=za (g.blocks[k].targets.filter (edgeOk g.blocks.length)):=by
  rw[<-zpG];congr 1;simp only[suc,Gr.E,zj m,Wj];conv=>rhs;rw[<-Xl (Wq _ _)]
  refine Wp λx q=>?_
  simp only[Wv,edgeOk,Wn,decide_eq_true_eq]at q;simp only[Ww,id];omega
 rw[o];refine fn_x zAh rfl ?_;refine dcU zuj.eq_1 ?_;have s:=hBig;have e:(g.blocks.map Blk.cells).getD k []=g.blocks[k].cells:=zhv (Wc m);refine Gw3 @uh e @Blk.two ?_;intros;refine zc (zb (zxc _) rfl) ?_;have n:=p.2 _ (Wr m);generalize g.blocks[k].targets=l at n⊢;refine Gw0 ?_;intros;refine zd (λi:Nat=>([(2,encP 2 g.cells),(5,.own 0 0 0 0 ((l.take i).filter (edgeOk g.blocks.length)).length),(6,za l),(7,.int .i64 i)],[(0,.row 1 (((l.take i).filter (edgeOk g.blocks.length)).map cI) 0)])) 1 (λi=>i<=l.length) (λi=>l.length-i) 0 (Wd _) (Xg [(0,1,0)] [] rfl (Gin4_1 @uh) (Gin4_1 @uh)) ?_;intro i u wf;refine dcU zpO.eq_1 ?_;refine Gw3 @ua @uv @uh ?_;intros;(refine zA (λh=>?_) (λh=>?_))<;>(try simp only[dcd]at h)
 .have b:i<l.length:=by omega
  have c:(l.take (i+1)).filter (edgeOk g.blocks.length)=(l.take i).filter (edgeOk g.blocks.length)++if edgeOk g.blocks.length l[i]then[l[i]]else[]:=zen b
  refine Gw1 (gmp b) ?_;intros;generalize d:decide (0<=l[i])=j;cases j<;>simp only[decide_eq_true_eq,decide_eq_false_iff_not,ne_eq,Classical.not_not]at d
  .rw[if_neg (by simp[edgeOk,d])]at c;refine Gw0 ?_;intros;exact⟨i+1,by omega,by omega,(Xg [(0,0,0)] [] rfl (by(try simp only[evWB,Xa,Xb,Xd,Xc,Xe,implies_true,Xh,c,Wg])<;>exact fin4) (by(try simp only[evWB,Xa,Xb,Xd,Xc,Xe,implies_true,Xh,c,Wg])<;>exact fin4))⟩
  ·(refine Gw1 (gmp b) ?_;intros);(refine zA (λhd=>?_) (λhd=>?_))<;>(try simp only[dcd]at hd)
   .rw[if_pos (by simp[edgeOk,d,hd])]at c;have t:=zxq (edgeOk g.blocks.length) l i;refine Gw1 (gmp b) ?_;intros;exact⟨i+1,by omega,by omega,(Xg [(0,0,1)] [] rfl (by(try simp only[evWB,Xa,Xb,Xd,Xc,Xe,implies_true,Xh,c,Wg])<;>exact fin4) (by(try simp only[evWB,Xa,Xb,Xd,Xc,Xe,implies_true,Xh,c,Wg])<;>exact fin4))⟩
   .rw[if_neg (by simp[edgeOk,d,hd])]at c;refine Gw0 ?_;intros;exact⟨i+1,by omega,by omega,(Xg [(0,0,0)] [] rfl (by(try simp only[evWB,Xa,Xb,Xd,Xc,Xe,implies_true,Xh,c,Wg])<;>exact fin4) (by(try simp only[evWB,Xa,Xb,Xd,Xc,Xe,implies_true,Xh,c,Wg])<;>exact fin4))⟩
 .unfold zpq;refine Gw1 @zuy.eq_1 ?_;intros;refine⟨_,?_,rfl⟩;rw[Wi (show l.length<=i by omega)];have:=Wl (edgeOk g.blocks.length) l;exact zaP (l:=l.filter (edgeOk g.blocks.length)) trivial rfl (by omega)
theorem zJg(l:List Nat)(x:Int):(x∈l.map λ(n:Nat)=>(n:Int))↔∃n∈l,(n:Int)=x:=by simp
theorem zH6(l:List Nat)(x:Nat):((x:Int)∈l.map λ(n:Nat)=>(n:Int))↔x∈l:=by rw[zJg];exact⟨λ⟨n,h,e⟩=>by rw[show x=n by omega];exact h,λh=>⟨x,h,rfl⟩⟩
theorem zCc(l)(x:Nat):zq Z9 zaY [zi l,.int .i64 x] (·=.bool (decide (x∈l))):=by have:=R24_Has_ok (l.map λ(n:Nat)=>(n:Int)) x;rw[zpG]at this;simpa only[zH6]using this
theorem zKA{H:AH}{e r q g:Nat}{l:List Nat}{x:Nat}(d:H.get r q=some (.row 1 (l.map cN) g))(c:l.length<=big):
  zfe Z9 zaY [.own r q g 0 l.length,.int .i64 x] H e (.bool (decide (x∈l))) :=
 zaM (D:=λa b=>a=r/\b=q) (zCc l x) (.cons (zng ⟨rfl,rfl⟩ d c) (.cons (.int _ _ _) .nil)) (.inl rfl)
def zsB(A:List (List Int)):AV:=encL 1 (λr=>[za r]) A
theorem zp5{α:Type}{A B:List α}{i:Nat}(h:A.take i=B.take i)(b:i<A.length)(c:i<B.length)(d:A[i]=B[i]):A.take (i+1)=B.take (i+1):=by rw[Wo,Wo,h,Wc b,Wc c,d]
theorem R24_Lists_ok(A B):zq Z9 znc [zsB A,zsB B] (·=.bool (decide (A=B))):=by
 refine fn_x zBz rfl ?_;refine dcU zus.eq_1 ?_;have t:=hBig;refine Gw1 @zsB.eq_1 ?_;intros;(refine zA (λh=>?_) (λh=>?_))<;>(try simp only[dcd]at h)
 ·(refine Gw1 @zil.eq_1 ?_;intros);refine⟨_,.bool _ _,?_⟩;have:A≠B:=λe=>h (by rw[e])
  simp[this]
 refine Gw0 ?_;intros;have w:A.length=B.length:=by omega
 refine zd (λi:Nat=>([(0,zsB A),(1,zsB B),(5,.int .i64 i)],[])) 0 (λi=>i<=A.length/\A.take i=B.take i) (λi=>A.length-i) 0 ⟨Wd _,by simp⟩ (Xi rfl fin5) ?_;intro i ⟨u,o⟩ wf;refine dcU zo5.eq_1 ?_;refine Gw1 @zsB.eq_1 ?_;intros;(refine zA (λp=>?_) (λp=>?_))<;>(try simp only[dcd]at p)
 .have j:i<A.length:=by omega
  have n:i<B.length:=by omega
  refine Gw4 @zsB.eq_1 (gmp j) (gmp n) @ua ?_;intros;(refine zA (λm=>?_) (λm=>?_))<;>(try simp only[dcd]at m)
  ·(refine Gw1 @zil.eq_1 ?_;intros);refine⟨_,.bool _ _,?_⟩;have:A≠B:=λe=>by subst e;exact m rfl
   simp[this]
  refine Gw0 ?_;intros;have s:A[i].length=B[i].length:=by omega
  refine zd (λk:Nat=>([(0,zsB A),(1,zsB B),(5,.int .i64 i),(6,.int .i64 k)],[])) 0 (λk=>k<=A[i].length/\A[i].take k=B[i].take k) (λk=>A[i].length-k) 0 ⟨Wd _,by simp⟩ (Xi rfl fin5) ?_;intro k ⟨v,b⟩ wf;refine dcU zpc.eq_1 ?_;refine Gw3 @zsB.eq_1 (gmp j) @ua ?_;intros;(refine zA (λq=>?_) (λq=>?_))<;>(try simp only[dcd]at q)
  .have c:k<A[i].length:=by omega
   have d:k<B[i].length:=by omega
   refine Gw6 @zsB.eq_1 (gmp j) (gmp n) @ua (gmp c) (gmp d) ?_;intros;(refine zA (λg=>?_) (λg=>?_))<;>(try simp only[dcd]at g)
   ·(refine Gw1 @zil.eq_1 ?_;intros);refine⟨_,.bool _ _,?_⟩;have:A≠B:=λe=>by subst e;exact g rfl
    simp[this]
   ·(refine Gw0 ?_;intros);exact⟨k+1,⟨by omega,zp5 b c d (by simpa using g)⟩,by omega,Xi rfl fin5⟩
  .refine dcU zpf.eq_1 ?_;refine Gw0 ?_;intros;rw[Wi (show A[i].length<=k by omega),Wi (show B[i].length<=k by omega)]at b;exact⟨i+1,⟨by omega,zp5 o j n b⟩,by omega,Xi rfl fin5⟩
 .unfold zpW;refine Gw1 @zil.eq_1 ?_;intros;refine⟨_,.bool _ _,?_⟩;rw[Wi (show A.length<=i by omega),Wi (show B.length<=i by omega)]at o;simp[o]
theorem vw_LL{H H2}{σ}{D}{t}{r q g}{l}(b:D r q)(d:H.get r q=some (.row 1 (l.map λr=>[za r]) g))(c:l.length<=big):
  Vw H H2 σ D t (.own r q g 0 l.length) (zsB l):=by
 refine zcU b d c (λa _ j e=>?_);obtain rfl:j=0:=by omega
 exact .sl _ _ _ _
theorem R24_Ints_ok(a b):zq Z9 zql [za a,za b] (·=.bool (decide (a=b))):=by refine fn_x zB8 rfl ?_;refine dcU zwV.eq_1 ?_;refine Gw1 @ua ?_;intros;refine zc (zaM (D:=allR) (R24_Lists_ok [a] [b]) (.cons (vw_LL (l:=[a]) trivial rfl (by simp[big])) (.cons (vw_LL (l:=[b]) trivial rfl (by simp[big])) .nil)) (.inl rfl)) ?_;refine Gw1 @zvA.eq_1 ?_;intros;refine⟨_,.bool _ _,?_⟩;simp
structure NdL(n:Nat)(l:List Nat):Prop where
 nd:l.Nodup
 lt:∀b∈l,b<n
theorem NdL.len{n}{l}(h:NdL n l):l.length<=n:=by
 obtain⟨d,g⟩:=h
 induction n generalizing l with
 |zero=>
  cases l with
  |nil=>exact Wx _
  |cons b l=>exact absurd (g b (by simp)) (by omega)
 |succ n ih=>
  by_cases j:n∈l
  .have:=ih (d.erase n) (λb c=>by
    have k:=g b (List.mem_of_mem_erase c);have m:=(d.mem_erase_iff.1 c).1
    omega)
   rw[List.length_erase_of_mem j]at this;omega
  .have:=ih d (λb c=>by
    have k:=g b c;have m:b≠n:=λe=>j (e▸c)
    omega)
   omega
theorem zkL{α β:Type}{f:β->α->β}{b:β}{l:List α}{i:Nat}(h:i<l.length):(l.take (i+1)).foldl f b=f ((l.take i).foldl f b) l[i]:=by rw[Wo,Wc h,List.foldl_append];rfl
theorem zmz(p)(n):(Wh (n+1)).filter p=(Wh n).filter p++if p n then[n]else[]:=by rw[List.range_succ,WE];cases h:p n<;>simp[Wq,h]
theorem zuL(p)(n):((Wh n).filter p).length<=n:=by have:=Wl p (Wh n);simpa using this
def mapR{α:Type}(f:Nat->α)(n:Nat):List α:=(Wh n).map f
def filR(p:Nat->Bool)(n:Nat):List Nat:=(Wh n).filter p
theorem zKZ{α:Type}{f:Nat->α}{n:Nat}:(mapR f n).length=n:=by simp[mapR]
theorem zDH{p}{n}(h:p n=true):filR p (n+1)=filR p n++[n]:=by unfold filR;rw[zmz,h];rfl
theorem zEH{p}{n}(h:p n=false):filR p (n+1)=filR p n:=by unfold filR;rw[zmz,h];simp
theorem zG2{p}{n}:(filR p n).length<=n:=zuL p n
def zuU(A:List (List Nat)):AV:=encL 1 (λr=>[zi r]) A
abbrev cNs(l:List Nat):List AV:=[zi l]
theorem vw_NN{H H2}{σ}{D}{t}{r q g}{l}(b:D r q)(d:H.get r q=some (.row 1 (l.map cNs) g))(c:l.length<=big):
  Vw H H2 σ D t (.own r q g 0 l.length) (zuU l):=by
 refine zcU b d c (λa _ j e=>?_);obtain rfl:j=0:=by omega
 exact .sl _ _ _ _
def zcl(E:Adj)(f:Nat)(s:List Nat×List Nat)(n:Nat):List Nat×List Nat:=if n∈s.1 then s else dfs E f n s
theorem zvh(E)(f k)(s):
  dfs E (f+1) k s=(((suc E k).foldl (zcl E f) (s.1++[k],s.2)).1,((suc E k).foldl (zcl E f) (s.1++[k],s.2)).2++[k]):=rfl
structure DfsI(n m d:Nat)(s:List Nat×List Nat):Prop where
 nd:NdL n s.1
 le:m<=s.1.length
 post:s.1.length=s.2.length+d
theorem NdL.snoc{n}{l}(h:NdL n l){k}(g:k<n)(j:k∉l):NdL n (l++[k]):=by
 refine⟨?_,λb c=>?_⟩
 .rw[Wy];exact⟨h.nd,by simp,λa d b c=>by simp at c;subst c;exact λe=>j (e▸d)⟩
 .rcases Wa.1 c with c|c
  .exact h.lt b c
  .simp at c;subst c;exact g
theorem zj1{E}{f m d}(h:∀(k:Nat)(s:List Nat×List Nat),DfsI E.length m d s->k<E.length->k∉s.1->DfsI E.length m d (dfs E f k s)):
  ∀(b:List Nat)(t:List Nat×List Nat),(∀c∈b,c<E.length)->DfsI E.length m d t->DfsI E.length m d (b.foldl (zcl E f) t)
 |[],t,_,e=>e
 |
  c::b,t,hc,e=>by
  refine zj1 h b (zcl E f t c) (λd hd=>hc d (by simp[hd])) ?_;unfold zcl;split
  .exact e
  .exact h c t e (hc c (by simp)) ‹_›
theorem zpl{E}(b:E.ok):∀(f m d k:Nat)(s:List Nat×List Nat),DfsI E.length m d s->k<E.length->k∉s.1->DfsI E.length m d (dfs E f k s)
 |0,_,_,_,_,h,_,_=>h
 |
  f+1,m,d,k,s,h,c,e=>by
  rw[zvh];have:=zj1 (zpl b f m (d+1)) (suc E k) (s.1++[k],s.2) (b k) ⟨h.nd.snoc c e,by have:=h.le;simp;omega,by have:=h.post;simp;omega⟩;exact⟨this.nd,this.le,by have:=this.post;simp;omega⟩
theorem _root_.Go.Ab.uf:type_of% @zi.eq_1:=@zi.eq_1
theorem zum(g:Gr)(L:g.small):∀(f:Nat)(k w x:Nat)(s:List Nat×List Nat)(m d:Nat),DfsI g.E.length m d s->k<g.E.length->k∉s.1->g.E.length<=f+m ->
  zad Z9 zn2 [.agg g.cells,.int .i64 k,.agg [.own 0 0 w 0 s.1.length,.own 1 0 x 0 s.2.length]] [(0,.row 1 (s.1.map cN) w),(1,.row 1 (s.2.map cN) x)] 2
   (λv H V=>∃p q,v=.agg [.own 0 0 p 0 (dfs g.E f k s).1.length,.own 1 0 q 0 (dfs g.E f k s).2.length]/\H=[(0,.row 1 ((dfs g.E f k s).1.map cN) p),(1,.row 1 ((dfs g.E f k s).2.map cN) q)]/\V=2)
 |
  0,k,w,x,s,m,d,u,M,O,hf=>by
  have:=(u.nd.snoc M O).len;have:=u.le;simp at *;omega
 |
  f+1,k,w,x,s,m,d,u,M,O,hf=>by
  have U:=zum g L f;have P:=g.E_len;have Z:=L.1;have Y:=hBig;have R:=u.nd.len;have T:=u.post;refine zab (fn_x zBj rfl ?_);refine dcU zur.eq_1 ?_;refine Gw1 @uh ?_;intros;have N:k<g.blocks.length:=by omega
  refine zc (zb (R24_Edges_ok g L k N) rfl) ?_;have D:∀c∈suc g.E k,c<g.E.length:=g.E_ok k;have n:DfsI g.E.length (m+1) (d+1) (s.1++[k],s.2):=⟨u.nd.snoc M O,by have:=u.le;simp;omega,by simp;omega⟩;have t:=zvh g.E f k s;have A:=zj1 (E:=g.E) (f:=f) (m:=m+1) (d:=d+1) (zpl g.E_ok f (m+1) (d+1)) (suc g.E k) (s.1++[k],s.2) D n;generalize Q:suc g.E k=j at D t A⊢;refine Gw0 ?_;intros;let S:=λi:Nat=>(j.take i).foldl (zcl g.E f) (s.1++[k],s.2)
  refine zd (λa:Nat×Nat×Nat=>([(1,.int .i64 k),(3,encP 2 g.cells),(5,.ptr 2 0 0 0 0),(6,.ptr 3 0 0 0 0),(7,zi j),(8,.int .i64 a.1)],
    [(0,.row 1 ((S a.1).1.map cN) a.2.1),(1,.row 1 ((S a.1).2.map cN) a.2.2),(2,.row 2 [[.own 0 0 a.2.1 0 (S a.1).1.length,.own 1 0 a.2.2 0 (S a.1).2.length]] 0),(3,.row 2 [[.nilsl,.nilsl]] 0)])) 4
   (λa=>a.1<=j.length) (λa=>j.length-a.1) (0,w+1,x) (Wd _) (Xf [(0,0,0),(1,1,0),(2,2,0),(3,3,0)] [] rfl rfl rfl (by(try simp only[evWB,Xa,Xb,Xd,Xc,Xe,implies_true,Xh,S,Xj])<;>exact fin4) (by(try simp only[evWB,Xa,Xb,Xd,Xc,Xe,implies_true,Xh,S,Xj])<;>exact fin4)) ?_
  rintro⟨i,a0,C⟩ hi wf;simp only at hi;refine dcU zp3.eq_1 ?_;refine Gw3 @uv @uh @uf ?_;intros;have F:DfsI g.E.length (m+1) (d+1) (S i):=zj1 (zpl g.E_ok f (m+1) (d+1)) (j.take i) _ (λc K=>D c (WF K)) n;have J:=F.nd.len;(refine zA (λh=>?_) (λh=>?_))<;>(try simp only[dcd]at h)
  .have o:i<j.length:=by omega
   have b:S (i+1)=zcl g.E f (S i) j[i]:=zkL o;have K:=D j[i] (Wr o);generalize S i=B at F J b⊢;refine Gw1 (gmp o) ?_;intros;refine zp (zKA rfl (by omega)) ?_;refine Gw0 ?_;intros;(refine zA (λy=>?_) (λy=>?_))<;>(try simp only[dcd]at y)
   .have e:zcl g.E f B j[i]=dfs g.E f j[i] B:=by unfold zcl;rw[if_neg y]
    rw[e]at b;refine Gw2 (gmp o) @Gr.two ?_;intros;refine zH [(0,0,0),(1,1,0)] 2 _ (U j[i] a0 C B (m+1) (d+1) F K y (by omega)) rfl rfl (Gin4_1 @uh) (Gin4_1 @uh) ?_;rintro v X W ⟨p,q,rfl,rfl,rfl⟩;refine Gw0 ?_;intros;exact⟨(i+1,p,q),by simp only;omega,by simp only;omega,(Xf [(0,0,0),(1,1,0),(2,2,0),(3,3,0)] [] rfl rfl rfl (Gin4_2 @uh b) (Gin4_2 @uh b))⟩
   .have e:zcl g.E f B j[i]=B:=by unfold zcl;rw[if_pos y]
    rw[e]at b;refine Gw0 ?_;intros;exact⟨(i+1,a0,C),by simp only;omega,by simp only;omega,(Xf [(0,0,0),(1,1,0),(2,2,0),(3,3,0)] [] rfl rfl rfl (Gin4_2 @uh b) (Gin4_2 @uh b))⟩
  .refine dcU zpo.eq_1 ?_;have o:j.length<=i:=by omega
   have I:S i=j.foldl (zcl g.E f) (s.1++[k],s.2):=by simp only[S];rw[Wi o]
   have:=F.post;refine Gw1 @zud.eq_1 ?_;intros;refine⟨_,[(0,.row 1 ((dfs g.E (f+1) k s).1.map cN) a0),(1,.row 1 ((dfs g.E (f+1) k s).2.map cN) (C+1))],2,?_,a0,C+1,rfl,rfl,rfl⟩;rw[I,t];exact(Xf [(0,0,0),(1,1,0)] [] rfl rfl rfl Gin4_0 Gin4_0)
theorem zzM{α:Type}{l:List α}{j:Nat}(h:j<l.length):l.reverse.take (j+1)=l.reverse.take j++[l[l.length-1-j]]:=by rw[Wo,WG h,Wc (by omega)];rfl
theorem R24_Order_ok(g:Gr)(q:g.small):zq Z9 zh7 [.agg g.cells] (·=zi (orderL g.E)):=by
 refine fn_x zBP rfl ?_;refine dcU zt4.eq_1 ?_;have B:=hBig;have t:=g.E_len;have D:=q.1;refine Gw1 @uh ?_;intros;(refine zA (λh=>?_) (λh=>?_))<;>(try simp only[dcd]at h)
 ·(refine Gw1 @zpb.eq_1 ?_;intros);refine⟨_,?_,rfl⟩;have:orderL g.E=[]:=by unfold orderL;rw[if_pos (by omega)]
  rw[this];exact zng (l:=[]) trivial rfl (Wd _)
 have c:orderL g.E=(dfs g.E g.E.length 0 ([],[])).2.reverse:=by unfold orderL;rw[if_neg (by omega)]
 have n:DfsI g.E.length 0 0 ([],[]):=⟨⟨by simp,by simp⟩,by simp,by simp⟩;have hd:=zpl g.E_ok g.E.length 0 0 0 _ n (by omega) (by simp);have d:=hd.nd.len;have k:=hd.post;rw[c];refine Gw1 @Gr.two ?_;intros;refine zH [] 2 _ (zum g q g.E.length 0 0 0 ([],[]) 0 0 n (by omega) (by simp) (by omega)) rfl rfl (Gin4_1 @uh) (Gin4_1 @uh) ?_;rintro v A y ⟨u,w,rfl,rfl,rfl⟩;generalize dfs g.E g.E.length 0 ([],[])=s at d k⊢;refine Gw0 ?_;intros;refine zd (λj:Nat=>([(3,.own 0 0 0 0 (s.2.reverse.take j).length),(4,zi s.2),(5,.int .i64 ((s.2.length:Int)-1-j))],[(0,.row 1 ((s.2.reverse.take j).map cN) 0)])) 1 (λj=>j<=s.2.length) (λj=>s.2.length-j) 0 (Wd _) (Xg [(0,1,0)] [3] rfl (by(try simp only[evWB,Xa,Xb,Xd,Xc,Xe,implies_true,Xm])<;>exact fin4) (by(try simp only[evWB,Xa,Xb,Xd,Xc,Xe,implies_true,Xm])<;>exact fin4)) ?_;intro j C wf;refine dcU zpx.eq_1 ?_;refine Gw1 @uf ?_;intros;have x:(s.2.reverse.take j).length=j:=by simp;omega
 (refine zA (λp=>?_) (λp=>?_))<;>(try simp only[dcd]at p)
 .have m:j<s.2.length:=by omega
  have b:=zzM m;have e:((s.2.length:Int)-1-j).toNat=s.2.length-1-j:=by omega
  generalize s.2.reverse.take j=o at x b⊢
  (repeat first|simp(disch:=try exact dis1) only[evD,Xa,Xb,Xc,e,zj (show s.2.length-1-j<s.2.length by omega)]|with_reducible first|intro _|refine aJ ?_)
  exact⟨j+1,by omega,by omega,(Xg [(0,0,1)] [] rfl (Gin4_1 b) (Gin4_1 b))⟩
 .unfold zpe;refine Gw1 @zpb.eq_1 ?_;intros;refine⟨_,?_,rfl⟩;rw[Wi (by simp;omega)];exact zng trivial rfl (by simp;omega)
theorem zLR{A}{i}(h:i<A.length):suc A i=A[i]:=by simp[suc,Wf,h]
end Go.Ab.Dm
namespace Go.Ab.Dm
def zxH(P:List Nat)(m p:Nat):Prop:=∃A B,P=A++m::B/\p∈B
theorem zxH.left{P}{m p}(h:zxH P m p)(L):zxH (L++P) m p:=by obtain⟨A,B,rfl,b⟩:=h;exact⟨L++A,B,by simp,b⟩
theorem zxH.right{P}{m p}(h:zxH P m p)(R):zxH (P++R) m p:=by obtain⟨A,B,rfl,b⟩:=h;exact⟨A,B++R,by simp,by simp[b]⟩
theorem zxH.last{P}{m k}(h:m∈P):zxH (P++[k]) m k:=by obtain⟨A,B,rfl⟩:=List.append_of_mem h;exact⟨A,B++[k],by simp,by simp⟩
structure Grew(E:Adj)(cs:List Nat)(s s':List Nat×List Nat)(P Q:List Nat):Prop where
 post:s'.2=s.2++P
 seen:s'.1=s.1++Q
 same:∀x,x∈P↔x∈Q
 nd:P.Nodup
 new:∀x∈P,x∉s.1
 closed:∀p∈P,∀c∈suc E p,c∈s'.1
 got:∀c∈cs,c∈s'.1
 reach:∀x∈P,∃c∈cs,RA E (λ_=>False) c x
 from':∀m∈P,m∈cs\/∃p,m∈suc E p/\zxH P m p
theorem RA.trans{E}{X}{a b c}(d:RA E X a b)(e:RA E X b c):RA E X a c:=by
 induction e with
 |refl=>exact d
 |step _ g h j=>exact j.step g h
theorem Grew.append{E}{cs ds}{s s' s''}{P Q P2 Q2}(g:Grew E cs s s' P Q)(k:Grew E ds s' s'' P2 Q2):Grew E (cs++ds) s s'' (P++P2) (Q++Q2):=by
 have sub:∀x,x∈s'.1->x∈s''.1:=λx d=>by rw[k.seen];exact Wa.2 (.inl d)
 refine⟨by rw[k.post,g.post,WH],by rw[k.seen,g.seen,WH],λx=>by simp only[Wa,g.same,k.same],?_,λx d=>?_,λp n c j=>?_,λc j=>?_,λx d=>?_,λm q=>?_⟩
 .rw[Wy];refine⟨g.nd,k.nd,λa o b u e=>?_⟩;subst e;exact k.new a u (by rw[g.seen];exact Wa.2 (.inr ((g.same a).1 o)))
 .rcases Wa.1 d with d|d
  .exact g.new x d
  .exact λh=>k.new x d (by rw[g.seen];exact Wa.2 (.inl h))
 .rcases Wa.1 n with n|n
  .exact sub c (g.closed p n c j)
  .exact k.closed p n c j
 .rcases Wa.1 j with j|j
  .exact sub c (g.got c j)
  .exact k.got c j
 .rcases Wa.1 d with d|d
  .obtain⟨c,j,t⟩:=g.reach x d;exact⟨c,by simp[j],t⟩
  .obtain⟨c,j,t⟩:=k.reach x d;exact⟨c,by simp[j],t⟩
 .rcases Wa.1 q with q|q
  .rcases g.from' m q with h|⟨p,n,o⟩
   .exact .inl (by simp[h])
   .exact .inr ⟨p,n,o.right _⟩
  .rcases k.from' m q with h|⟨p,n,o⟩
   .exact .inl (by simp[h])
   .exact .inr ⟨p,n,o.left _⟩
theorem zAj{E}{f m d}(g:E.ok)(j:∀(k:Nat)(s:List Nat×List Nat),DfsI E.length m d s->k<E.length->k∉s.1->∃P Q,Grew E [k] s (dfs E f k s) P Q):
  ∀(e:List Nat)(t:List Nat×List Nat),(∀c∈e,c<E.length)->DfsI E.length m d t->∃P Q,Grew E e t (e.foldl (zcl E f) t) P Q
 |[],t,_,_=>⟨[],[],by simp,by simp,by simp,by simp,by simp,by simp,by simp,by simp,by simp⟩
 |
  c::e,t,hc,ht=>by
  have b:DfsI E.length m d (zcl E f t c):=by
   unfold zcl;split
   .exact ht
   .exact zpl g f m d c t ht (hc c (by simp)) ‹_›
  obtain⟨n,o,p⟩:=zAj g j e (zcl E f t c) (λd hd=>hc d (by simp[hd])) b
  have h:∃P Q,Grew E [c] t (zcl E f t c) P Q:=by
   unfold zcl;split
   .exact⟨[],[],by simp,by simp,by simp,by simp,by simp,by simp,by simpa,by simp,by simp⟩
   .exact j c t ht (hc c (by simp)) ‹_›
  obtain⟨P,Q,h⟩:=h;exact⟨P++n,Q++o,h.append p⟩
theorem zDT{E}(u:E.ok):∀(f m d k:Nat)(s:List Nat×List Nat),DfsI E.length m d s->k<E.length->k∉s.1->E.length<=f+m->∃P Q,Grew E [k] s (dfs E f k s) (P++[k]) (k::Q)/\∀x,x∈P↔x∈Q
 |
  0,m,d,k,s,h,A,v,hf=>by
  have:=(h.nd.snoc A v).len;have:=h.le;simp at *;omega
 |
  f+1,m,d,k,s,h,A,v,hf=>by
  have o:DfsI E.length (m+1) (d+1) (s.1++[k],s.2):=⟨h.nd.snoc A v,by have:=h.le;simp;omega,by have:=h.post;simp;omega⟩
  obtain⟨P,Q,g⟩:=zAj (f:=f) (m:=m+1) (d:=d+1) u (λc t F n v=>by
   obtain⟨P,Q,h,_⟩:=zDT u f (m+1) (d+1) c t F n v (by omega)
   exact⟨_,_,h⟩) (suc E k) (s.1++[k],s.2) (u k) o
  refine⟨P,Q,?_,g.same⟩;rw[zvh];have B:k∉P:=λw=>g.new k w (by simp)
  refine⟨by simp[g.post],by simp[g.seen],λx=>?_,?_,λx j=>?_,λp q c n=>?_,λc n=>?_,λx j=>?_,λx j=>?_⟩
  .simp only[Wa,We,List.not_mem_nil,or_false,g.same];exact Or.comm
  .rw[Wy];exact⟨g.nd,by simp,λa y b C e=>by simp at C;subst C;subst e;exact B y⟩
  .rcases Wa.1 j with j|j
   .exact λw=>g.new x j (by simp[w])
   .simp at j;subst j;exact v
  .rcases Wa.1 q with q|q
   .exact g.closed p q c n
   .simp at q;subst q;exact g.got c n
  .simp at n;subst n;show c∈_;rw[g.seen];simp
  .rcases Wa.1 j with j|j
   .obtain⟨c,n,D⟩:=g.reach x j;exact⟨k,by simp,((RA.refl id).step n id).trans D⟩
   .simp at j;subst j;exact⟨x,by simp,.refl id⟩
  .rcases Wa.1 j with j|j
   .rcases g.from' x j with w|⟨p,q,y⟩
    .exact .inr ⟨k,w,zxH.last j⟩
    .exact .inr ⟨p,q,y.right _⟩
   .exact .inl j
theorem zGA{l:List Nat}(h:l.Nodup):l.reverse.Nodup:=by unfold List.Nodup at *;rw[List.pairwise_reverse];exact h.imp λh e=>h e.symm
structure Rpo(E:Adj)(r:Nat)(l:List Nat):Prop where
 head:∃t,l=r::t
 nd:l.Nodup
 lt:∀x∈l,x<E.length
 mem:∀x,x∈l↔RA E (λ_=>False) r x
 pred:∀x∈l,x≠r->∃p A B,l=A++x::B/\p∈A/\x∈suc E p
theorem rpo{E}(e:E.ok){r}(s:r<E.length):Rpo E r (dfs E E.length r ([],[])).2.reverse:=by
 have o:DfsI E.length 0 0 ([],[]):=⟨⟨by simp,by simp⟩,by simp,by simp⟩;obtain⟨P,Q,g,u⟩:=zDT e E.length 0 0 r ([],[]) o s (by simp) (by omega);have j:=g.post;have m:=g.seen;simp only[Xn]at j m;have hd:=zpl e E.length 0 0 r _ o s (by simp)
 have d:∀x,x∈P++[r]↔RA E (λ_=>False) r x:=by
  intro x;constructor
  .intro b;obtain⟨c,q,h⟩:=g.reach x b;simp at q;subst q;exact h
  .intro b
   induction b with
   |refl=>simp
   |step _ h3 _ ih=>have:=g.closed _ ih _ h3;rw[m]at this;exact(g.same _).2 this
 rw[j];refine⟨⟨P.reverse,by simp⟩,zGA g.nd,λx b=>?_,λx=>by rw[Wz];exact d x,λx b n=>?_⟩
 .rw[Wz]at b;exact hd.nd.lt x (by rw[m];exact(g.same x).1 b)
 .rw[Wz]at b;rcases g.from' x b with h|⟨p,j,A,B,t,k⟩
  .simp at h;exact absurd h n
  .exact⟨p,B.reverse,A.reverse,by rw[t];simp,by simpa using k,j⟩
inductive Ch(T:Nat->Option Nat):Nat->Nat->Prop
 |refl (k:Nat):Ch T k k
 |up {k j x:Nat}:T k=some j->Ch T j x->Ch T k x
structure Lay(A:Adj)(r:Nat)(l:List Nat)(f:Nat->Nat):Prop where
 nd:l.Nodup
 root:r∈l
 pl0:l.idxOf r=0
 mem:∀x,x∈l↔RA A (λ_=>False) r x
 fm:∀k∈l,k≠r->f k∈l/\k∈suc A (f k)/\l.idxOf (f k)<l.idxOf k
section
variable {A:Adj}{r:Nat}{l:List Nat}{f:Nat->Nat}{T U:Nat->Option Nat}
def Pr(A:Adj)(l:List Nat)(p k:Nat):Prop:=p∈l/\k∈suc A p
structure WT(r:Nat)(l:List Nat)(T:Nat->Option Nat):Prop where
 root:T r=none
 up:∀k j,T k=some j->k∈l/\j∈l/\l.idxOf j<l.idxOf k/\(j=r\/T j≠none)
def Hd(r:Nat)(T:Nat->Option Nat)(k:Nat):Prop:=k=r\/T k≠none
def Fst(l:List Nat)(T:Nat->Option Nat)(j p q:Nat):Prop:=Ch T p q/\l.idxOf q<j/\∀b,Ch T p b->l.idxOf b<j->Ch T q b
structure PassTo(A:Adj)(r:Nat)(l:List Nat)(T:Nat->Option Nat)(j:Nat)(U:Nat->Option Nat):Prop where
 wt:WT r l U
 old:∀v,(v∉l\/j<=l.idxOf v)->U v=T v
 new:∀k∈l,k≠r->l.idxOf k<j->∃c,U k=some c /\
  ∀x,Ch U c x↔(∀p,Pr A l p k->l.idxOf p<l.idxOf k->Ch U p x)/\(∀p,Pr A l p k->l.idxOf k<=l.idxOf p->Hd r T p->∃q,Fst l T (l.idxOf k) p q/\Ch U q x)
end
section
variable {A:Adj}{r:Nat}{l:List Nat}{f:Nat->Nat}{T U V:Nat->Option Nat}
abbrev Pass(A:Adj)(r:Nat)(l:List Nat)(T U:Nat->Option Nat):Prop:=PassTo A r l T l.length U
inductive SA(r:Nat)(l:List Nat)(f:Nat->Nat)(a:Nat):Nat->Prop
 |refl:SA r l f a a
 |step {b:Nat}:b∈l->b≠r->SA r l f a (f b)->SA r l f a b
structure Gd(A:Adj)(r:Nat)(l:List Nat)(f:Nat->Nat)(T U:Nat->Option Nat):Prop where
 wt:WT r l T
 pass:Pass A r l T U
 anc:∀v y,v∈l->Hd r T v->Ch T v y->SA r l f y v
 mono:∀v y,v∈l->Hd r T v->Ch U v y->Ch T v y
theorem sum_le{l:List Nat}{g h:Nat->Nat}(b:∀k∈l,g k<=h k):(l.map g).sum<=(l.map h).sum:=by
 induction l with
 |nil=>simp
 |cons a l ih=>
  have d:=b a (by simp);have e:=ih λk c=>b k (by simp[c])
  simp only[Xo,Xp];omega
theorem zIB{l:List Nat}{g h:Nat->Nat}(c:∀k∈l,g k<=h k){k:Nat}(b:k∈l)(e:g k<h k):(l.map g).sum<(l.map h).sum:=by
 induction l with
 |nil=>cases b
 |cons a l ih=>
  have j:=c a (by simp);have m:=sum_le (l:=l) (g:=g) (h:=h) λk b=>c k (by simp[b])
  simp only[Xo,Xp];rcases We.1 b with rfl|d
  .omega
  .have:=ih (λk b=>c k (by simp[b])) d;omega
def Dm(A:Adj)(r x k:Nat):Prop:=¬RA A (·=x) r k
def Sd(A:Adj)(r:Nat)(l:List Nat)(T:Nat->Option Nat):Prop:=∀k∈l,Hd r T k->∀x∈l,Dm A r x k->Ch T k x
structure DTree'(A:Adj)(r:Nat)(l:List Nat)(T:Nat->Option Nat):Prop where
 wt:WT r l T
 held:∀k∈l,k≠r->T k≠none
 ch:∀k∈l,∀x∈l,Ch T k x↔Dm A r x k
end
def IsN(x:Int):Nat->Prop:=λy=>(y:Int)=x
structure FromI(E:Adj)(x:Int)(a i:Nat)(out:List Nat):Prop where
 nd:NdL E.length out
 root:a∈out
 sound:∀b∈out,RA E (IsN x) a b
 closed:∀j (h:j<out.length),j<i->∀c∈suc E out[j],(c:Int)≠x->c∈out
end Go.Ab.Dm
namespace Go.Ab.Dm
open Go.RowKit Go.Proofs
structure PredFn(fv:AV)(p:Int->Bool):Prop where
 ex:∃f caps,fv=.fn (.func f) caps/\zhd Z9 f=true/\zQ caps=true/\∀x,zq Z9 f ([.int .i64 x]++caps) (·=.bool (p x))
theorem zgw:∀{l:List AV},zQ l=true->l.all AV.flat=true
 |[],_=>rfl
 |
  a::l,h=>by
  simp only[zQ,Wn]at h;simp only[Xq,Wn];refine⟨?_,zgw h.2⟩;cases a<;>first|rfl|exact absurd h.1 (by simp[AV.flat0])
theorem zyI{fv}{p}(g:PredFn fv p){x}{H}{nx}{k}(e:k (.bool (p x)) H nx):zuC Z9 fv [.int .i64 x] H nx k:=by obtain⟨f,b,rfl,d,c,h⟩:=g.ex;rw[zpQ];exact⟨d,zc (zb (h x) (by simp only[List.cons_append,Xn,Xq,AV.flat,AV.flat0,Bool.true_and];exact zgw c)) e⟩
theorem zzv{fv}{p}(h:PredFn fv p){H H2}{σ}{D}{t}:Vw H H2 σ D t fv fv:=by
 obtain⟨f,c,rfl,j,g,k⟩:=h.ex;refine .fn _ _ _ _ rfl λi a b d e=>?_
 rw[d]at e;cases e;exact zB (zdu g d)
theorem zrP(l:List Int)(k:AV)(p:Int->Bool)(o:PredFn k p):zq Z9 zaZ [za l,k] (·=.int .i64 (match l.findIdx? p with|some i=>(i:Int)|none=> -1)):=by
 refine fn_x zfl rfl ?_;refine dcU zcS.eq_1 ?_;have s:=hBig;refine Gw1 @ua ?_;intros;refine zd (λi:Nat=>([(0,za l),(1,k),(7,.int .i64 l.length),(8,.int .i64 i)],[])) 0 (λi=>i<=l.length/\∀j (h:j<l.length),j<i->p l[j]=false) (λi=>l.length-i) 0 ⟨Wd _,λj _ h=>by omega⟩ (Xi rfl fin5) ?_;intro i ⟨t,b⟩ wf;refine dcU zcc.eq_1 ?_;refine Gw1 @ua ?_;intros;(refine zA (λh=>?_) (λh=>?_))<;>(try simp only[dcd]at h)
 .have c:i<l.length:=by omega
  refine Gw1 (gmp c) ?_;intros;refine zyI o ?_;refine Gw0 ?_;intros;(refine zA (λg=>?_) (λg=>?_))<;>(try simp only[dcd]at g)
  ·(refine Gw1 @zaR.eq_1 ?_;intros);have e:l.findIdx? p=some i:=by rw[WI];exact⟨c,g,λj d=>by rw[b j (by omega) d];simp⟩
   rw[e];exact izO
  ·(refine Gw0 ?_;intros);refine⟨i+1,⟨by omega,λj d n=>?_⟩,by omega,Xi rfl fin5⟩;by_cases m:j=i
   .subst m;simpa using g
   .exact b j d (by omega)
 .unfold zca;refine Gw1 @zaR.eq_1 ?_;intros;have e:l.findIdx? p=none:=by rw[WJ];intro x q;obtain⟨j,d,rfl⟩:=WK.1 q;exact b j d (by omega)
  rw[e];exact izO
def cur(K l:List Int):List Int:=K++l.drop K.length
theorem zF5{K l}(h:K.length<=l.length):(cur K l).length=l.length:=by simp[cur];omega
theorem zLG{K l}{j}(h:K.length<=j)(b:j<l.length):(cur K l)[j]?=some l[j]:=by unfold cur;rw[List.getElem?_append_right h,List.getElem?_drop,show K.length+(j-K.length)=j by omega,Wc b]
theorem zJq{K l}{j}(h:K.length<=j)(b:j<l.length):((cur K l).map cI).getD j []=[.int .i64 l[j]]:=by simp[Wf,zLG h b]
theorem zLD{K l}{v}(h:K.length<l.length):(cur K l).set K.length v=cur (K++[v]) l:=by unfold cur;rw[List.set_append_right _ _ (Wx _),Nat.sub_self,List.drop_eq_getElem_cons h,List.set_cons_zero];simp
theorem zKM{K l}{v}(h:K.length<l.length):((cur K l).map cI).set K.length [.int .i64 v]=(cur (K++[v]) l).map cI:=by rw[<-zLD h,List.map_set]
theorem zqq(l:List Int)(g:Nat)(u:AV)(p:Int->Bool)(k:PredFn u p)(V:l.length<=1000):
  zad Z9 zc0 [.own 0 0 g 0 l.length,u] [(0,.row 1 (l.map cI) g)] 1
   (λv H S=>∃m,v=.own 0 0 g 0 (l.filter λx=> !p x).length/\H=[(0,.row 1 (((l.filter λx=> !p x)++m).map cI) g)]/\S=1):=by
 refine zab (fn_x zjD rfl ?_);refine dcU zeQ.eq_1 ?_;have U:=hBig;refine Gw0 ?_;intros;refine zc (zaM (D:=λr _=>r=0) (zrP l u p k) (.cons (zaP rfl rfl (by omega)) (.cons (zzv k) .nil)) (.inl rfl)) ?_
 cases y:l.findIdx? p with
 |none=>
  have e:l.filter (λx=> !p x)=l:=by rw[WL];intro x O;rw[WJ]at y;simp[y x O]
  refine Gw1 @zcv.eq_1 ?_;intros;refine⟨.own 0 0 g 0 l.length,[(0,.row 1 (l.map cI) g)],1,?_,[],by rw[e],by rw[e,Wg],rfl⟩;exact(Xf [(0,0,0)] [] rfl rfl rfl Gin4_0 Gin4_0)
 |some i0=>
  rw[WI]at y;obtain⟨F,N,M⟩:=y;refine Gw0 ?_;intros;(refine zA (λh=>?_) (λh=>?_))<;>(try simp only[dcd]at h)
  .omega
  refine Gw0 ?_;intros;let K:=λj=>(l.take j).filter λx=> !p x
  have d:K (i0+1)=l.take i0:=by simp only[K];rw[zen F,N];simp only[Bool.not_true,WM,if_false,Wg];rw[WL];intro x O;obtain⟨j,I,rfl⟩:=WK.1 O;simp only[WN]at I;rw[List.getElem_take];simpa using M j (by omega)
  have o:∀j,i0<j->j<=l.length->(K j).length<j:=by
   intro j T A
   induction j with
   |zero=>omega
   |succ j ih=>
    by_cases I:j=i0
    .subst I;rw[d];simp;omega
    .have:=ih (by omega) (by omega);simp only[K]at this⊢;rw[zen (show j<l.length by omega)];rw[List.length_append];split<;>simp<;>omega
  have c:cur (K (i0+1)) l=l:=by rw[d];unfold cur;rw[WN,Nat.min_eq_left (by omega),List.take_append_drop]
  have n:(K (i0+1)).length=i0:=by rw[d];simp;omega
  refine zd (λj:Nat=>([(0,.own 0 0 g 0 l.length),(1,u),(5,.int .i64 (K j).length),(6,.int .i64 j)],[(0,.row 1 ((cur (K j) l).map cI) g)])) 1 (λj=>i0<j/\j<=l.length) (λj=>l.length-j) (i0+1) ⟨by omega,by omega⟩ (Xf [(0,0,0)] [] rfl rfl rfl ?_ ?_) ?_
  .simp only[evWB,Xa,Xb,Xd,Xc,Xe,implies_true,c]
  .simp only[evWB,Xa,Xb,Xd,Xc,Xe,implies_true,n];exact zzv k
  intro j ⟨J,L⟩ wf;have Q:=o j J L;refine dcU zdG.eq_1 ?_;refine Gw0 ?_;intros;(refine zA (λA=>?_) (λA=>?_))<;>(try simp only[dcd]at A)
  .have t:j<l.length:=by omega
   have b:K (j+1)=K j++if (!p l[j])=true then[l[j]]else[]:=zen t
   have P:=o (j+1) (by omega) (by omega);have q:=zF5 (K:=K j) (l:=l) (by omega)
   (repeat first|simp(disch:=try exact dis1) only[evD,Xa,Xb,Xc,zJq (K:=K j) (l:=l) (by omega) t]|with_reducible first|intro _|refine aJ ?_)
   refine zyI k ?_;refine Gw0 ?_;intros;(refine zA (λw=>?_) (λw=>?_))<;>(try simp only[dcd]at w)
   .rw[w]at b;simp only[Bool.not_false,if_true]at b;refine Gw0 ?_;intros;rw[zKM (by omega),<-b];exact⟨j+1,⟨by omega,by omega⟩,by omega,Xf [(0,0,0)] [] rfl rfl rfl (by simp only[evWB,Xa,Xb,Xd,Xc,Xe,implies_true]) (by simp only[evWB,Xa,Xb,Xd,Xc,Xe,implies_true,b];exact zzv k)⟩
   .have B:p l[j]=true:=by simpa using w
    rw[B]at b;simp only[Bool.not_true,WM,if_false,Wg]at b;refine Gw0 ?_;intros;rw[<-b];exact⟨j+1,⟨by omega,by omega⟩,by omega,Xf [(0,0,0)] [] rfl rfl rfl (by simp only[evWB,Xa,Xb,Xd,Xc,Xe,implies_true]) (by simp only[evWB,Xa,Xb,Xd,Xc,Xe,implies_true];exact zzv k)⟩
  .obtain rfl:j=l.length:=by omega
   have C:K l.length=l.filter λx=> !p x:=by simp only[K];rw[WO]
   have q:=zF5 (K:=K l.length) (l:=l) (by omega);refine dcU zdI.eq_1 ?_;have R:(((l.length:Int)-(K l.length).length).toNat)=l.length-(K l.length).length:=by omega
   have s:((cur (K l.length) l).map cI).take (K l.length).length++Wk (l.length-(K l.length).length) [AV.int .i64 0]++((cur (K l.length) l).map cI).drop ((K l.length).length+(l.length-(K l.length).length))=(K l.length++Wk (l.length-(K l.length).length) 0).map cI:=by rw[List.drop_of_length_le (by rw[Xr,q];omega),Wg,<-List.map_take,List.map_append,WA];congr 2;unfold cur;rw[List.take_append_of_le_length (Wx _),WO]
   refine Gw3 @zcv.eq_1 R s ?_;intros;refine⟨.own 0 0 g 0 (l.filter λx=> !p x).length,[(0,.row 1 (((l.filter λx=> !p x)++Wk (l.length-(K l.length).length) 0).map cI) g)],1,?_,_,rfl,rfl,rfl⟩;rw[<-C];exact(Xf [(0,0,0)] [] rfl rfl rfl (by(try simp only[evWB,Xa,Xb,Xd,Xc,Xe,implies_true,WA])<;>exact fin4) (by(try simp only[evWB,Xa,Xb,Xd,Xc,Xe,implies_true,WA])<;>exact fin4))
theorem zF8(g:Gr)(x:Int):zq Z9 zeg [.int .i64 x,.iptr 2 λj=>g.cells.getD j .undef] (·=.bool (!edgeOk g.blocks.length x)):=by
 refine fn_x zqE rfl ?_;refine dcU ziW.eq_1 ?_;refine Gw1 @uh ?_;intros;generalize h:decide (x<0)=d;cases d<;>simp only[decide_eq_true_eq,decide_eq_false_iff_not,ne_eq,Classical.not_not]at h
 ·(refine Gw1 @zfU.eq_1 ?_;intros);refine⟨_,.bool _ _,?_⟩;have b:0<=x:=by omega
  by_cases c:x<g.blocks.length
  .have:¬(g.blocks.length:Int)<=x:=by omega
   simp[edgeOk,b,c,this]
  .have:(g.blocks.length:Int)<=x:=by omega
   simp[edgeOk,b,c,this]
 ·(refine Gw1 @zfU.eq_1 ?_;intros);refine⟨_,.bool _ _,?_⟩;simp[edgeOk,h]
theorem zFz(g:Gr):PredFn (.fn (.func zeg) [.iptr 2 λj=>g.cells.getD j .undef]) (λx=> !edgeOk g.blocks.length x) :=
 ⟨_,_,rfl,by kernel_rfl,rfl,zF8 g⟩
theorem zwP(l)(j:l.length<=1000):zad Z9 zbM [za l] [] 0 (λv H g=>v=.own 0 0 0 0 l.length/\H=[(0,.row 1 (l.map cI) 0)]/\g=1):=by
 refine zab (fn_x zg5 rfl ?_);refine dcU zei.eq_1 ?_;have h:=hBig;have c:∀H,zgb 1 (encL 1 (λn:Int=>[AV.int .i64 n]) l) H=some (l.map λn=>[AV.int .i64 n]):=λH=>ztx (λ_ _=>rfl)
 refine Gw2 @ua @zBf ?_;intros
 cases d:(l.length == 0)with
 |true=>
  have e:l=[]:=WP (by simpa using d);subst e;refine Gw0 ?_;intros;rename_i b;cases b
  ·(refine Gw2 c @zaB.eq_1 ?_;intros);refine⟨.own 0 0 0 0 0,[(0,.row 1 [] 0)],1,?_,rfl,rfl,rfl⟩;exact(Xg [(0,1,1)] [] rfl Gin4_0 Gin4_0)
  ·(refine Gw1 @zaB.eq_1 ?_;intros);refine⟨.own 0 0 0 0 0,[(0,.row 1 [] 0)],1,?_,rfl,rfl,rfl⟩;exact(Xg [(0,1,0)] [] rfl Gin4_0 Gin4_0)
 |false=>refine Gw2 c @zaB.eq_1 ?_;intros;refine⟨.own 0 0 0 0 l.length,[(0,.row 1 (l.map cI) 0)],1,?_,rfl,rfl,rfl⟩;exact(Xg [(0,1,1)] [] rfl Gin4_0 Gin4_0)
theorem zHx{g:Gr}{k:Nat}(b:k<g.blocks.length):zi (suc g.E k)=za (g.blocks[k].targets.filter (edgeOk g.blocks.length)):=by
 rw[<-zpG];congr 1;simp only[suc,Gr.E,zj b,Wj];conv=>rhs;rw[<-Xl (Wq _ _)]
 refine Wp λx c=>?_
 simp only[Wv,edgeOk,Wn,decide_eq_true_eq]at c;simp only[Ww,id];omega
theorem zzn{H H2}{σ}{D}{t}{r q g}{l m}(c:D r q)(e:H.get r q=some (.row 1 ((l++m).map cI) g))(d:l.length<=big):
  Vw H H2 σ D t (.own r q g 0 l.length) (za l):=by
 refine .frz t r q g 0 l.length 1 ((l++m).map cI) _ c e d (by simp) (λi j b h=>?_);obtain rfl:j=0:=by omega
 rw[Nat.zero_add,zj (show i<(l++m).length by simp;omega),zj b,List.getElem_append_left b];exact .int _ _ _
theorem zsR(g:Gr)(x:g.small)(k:Nat)(n:k<g.blocks.length):zq Z9 zhW [.agg g.cells,.int .i64 k] (·=zi (suc g.E k)):=by
 have d:=x.2 _ (Wr n);rw[zHx n];refine fn_x zsZ rfl ?_;refine dcU zlp.eq_1 ?_;have y:=hBig;have e:(g.blocks.map Blk.cells).getD k []=g.blocks[k].cells:=zhv (Wc n);refine Gw3 @uh e @Blk.cells.eq_1 ?_;intros;generalize w:g.blocks[k]=b at d⊢;(refine zA (λh=>?_) (λh=>?_))<;>(try simp only[dcd]at h)
 ·(refine Gw1 @zgL.eq_1 ?_;intros);refine⟨_,?_,rfl⟩;have p:b.stmts=[]:=WP (by omega);have e:b.targets=[]:=by simp[Blk.targets,p]
  rw[e];exact zaP (l:=[]) trivial rfl (Wd _)
 have p:0<b.stmts.length:=by omega
 obtain⟨s,q⟩:∃s,b.stmts[b.stmts.length-1]?=some s:=⟨_,Wc (by omega)⟩
 have c:b.targets=if s.op=6 then[s.next]else if s.op=7 then[s.next,s.els]else if s.op=8 then s.cases else[]:=by
  have:b.stmts.getLast?=some s:=by rw[List.getLast?_eq_getElem?,q]
  simp[Blk.targets,this]
 have u:(b.stmts.map Stm.cells).getD ((b.stmts.length:Int)-1).toNat []=s.cells:=by rw[show((b.stmts.length:Int)-1).toNat=b.stmts.length-1 by omega];exact zhv q
 refine Gw2 u @Stm.cells.eq_1 ?_;intros;refine znr (λ_:Unit=>([(2,.iptr 2 λj=>g.cells.getD j .undef),(7,.own 0 0 0 0 b.targets.length)],[(0,.row 1 (b.targets.map cI) 0)])) 1 (λ_=>True) ?_ ?_
 ·(refine Gw0 ?_;intros);(refine zA (λh=>?_) (λh=>?_))<;>(try simp only[dcd]at h)
  .rw[if_pos h]at c;refine Gw0 ?_;intros;refine⟨(),?_⟩;rw[c];exact(Xg [(0,3,0)] [] rfl (Gin4_1 @uh) (Gin4_1 @uh))
  .rw[if_neg h]at c;refine Gw0 ?_;intros;(refine zA (λh=>?_) (λh=>?_))<;>(try simp only[dcd]at h)
   .rw[if_pos h]at c;refine Gw0 ?_;intros;refine⟨(),?_⟩;rw[c];exact(Xg [(0,3,0)] [] rfl (Gin4_1 @uh) (Gin4_1 @uh))
   .rw[if_neg h]at c;refine Gw0 ?_;intros;(refine zA (λh=>?_) (λh=>?_))<;>(try simp only[dcd]at h)
    .rw[if_pos h]at c;refine Gw0 ?_;intros;refine zH [] 0 _ (zwP s.cases (by rw[<-c];exact d)) rfl rfl Gin4_0 Gin4_0 ?_;rintro v t o ⟨rfl,rfl,rfl⟩;refine Gw0 ?_;intros;refine⟨(),?_⟩;rw[c];exact(Xg [(0,3,0)] [] rfl (Gin4_1 @uh) (Gin4_1 @uh))
    .rw[if_neg h]at c;refine Gw0 ?_;intros;refine⟨(),?_⟩;rw[c];exact(Xg [(0,2,0)] [] rfl (Gin4_1 @uh) (Gin4_1 @uh))
 .rintro _ _ _;unfold zih;refine Gw0 ?_;intros;refine zH [(0,0,0)] 1 _ (zqq b.targets 0 _ _ (zFz g) d) rfl rfl (by simp only[evWB,Xa,Xb,Xd,Xc,Xe,implies_true]) (by simp only[evWB,Xa,Xb,Xd,Xc,Xe,implies_true]) ?_;rintro v t o ⟨m,rfl,rfl,rfl⟩;refine Gw1 @zgL.eq_1 ?_;intros;refine⟨_,?_,rfl⟩;have:=Wl (edgeOk g.blocks.length) b.targets;try simp only[Bool.not_not]
  exact zzn (l:=b.targets.filter (edgeOk g.blocks.length)) (m:=m) trivial rfl (by omega)
def aLL(E:Adj)(n k:Nat):List (List AV):=(Wh n).map λi=>[if i<k then zi (suc E i)else .nilsl]
theorem zMw{E}{n k}:(aLL E n k).length=n:=by simp[aLL]
theorem zDN{E}{n}:aLL E n 0=Wk n [.nilsl]:=by unfold aLL;simp only[Nat.not_lt_zero,if_false];rw[Xs,WQ]
theorem zMI{E}{n k}:(aLL E n k).set k [zi (suc E k)]=aLL E n (k+1):=by
 unfold aLL;rw[zjH];refine Wp λi b=>?_
 unfold updF;split
 .rename_i h;subst h;rw[if_pos (by omega)]
 .show [if i<k then zi (suc E i)else AV.nilsl]=_;by_cases h:i<k
  .rw[if_pos h,if_pos (by omega)]
  .rw[if_neg h,if_neg (by omega)]
theorem zEp{E}{n k}:zE (aLL E n k):=by intro c b;obtain⟨i,_,rfl⟩:=List.mem_map.1 b;split<;>rfl
theorem zLJ{E}{n}(c:E.length=n):aLL E n n=E.map cNs:=by
 subst c;apply WB;intro i;unfold aLL;by_cases b:i<E.length
 .simp[b,suc,Wf]
 .simp[b]
theorem zu2(g:Gr)(c:g.small):zq Z9 zkw [.agg g.cells] (·=zuU g.E):=by
 refine fn_x zuT rfl ?_;refine dcU zoJ.eq_1 ?_;have d:=hBig;have m:=c.1;have b:=g.E_len;refine Gw1 @uh ?_;intros;refine zd (λk:Nat=>([(1,encP 2 g.cells),(3,.own 0 0 0 0 g.blocks.length),(11,.int .i64 g.blocks.length),(12,.int .i64 k)],[(0,.row 1 (aLL g.E g.blocks.length k) 0)])) 1 (λk=>k<=g.blocks.length) (λk=>g.blocks.length-k) 0 (Wd _) (Xg [(0,1,0)] [] rfl (Gin4_2 @uh @zDN) (Gin4_2 @uh @zDN)) ?_;intro k j wf;refine dcU zj2.eq_1 ?_;refine Gw2 @uv @uh ?_;intros;(refine zA (λh=>?_) (λh=>?_))<;>(try simp only[dcd]at h)
 ·(refine Gw1 @Gr.two ?_;intros);refine zc (zb (zsR g c k (by omega)) rfl) ?_;refine Gw1 @zMw ?_;intros;have e:(aLL g.E g.blocks.length k).set k (zi (suc g.E k)).cells=aLL g.E g.blocks.length (k+1):=zMI;refine⟨⟨by omega,rfl,rfl⟩,?_⟩;rw[e];refine Gw0 ?_;intros;exact⟨k+1,by omega,by omega,(Xg [(0,0,0)] [] rfl (by(try simp only[evWB,Xa,Xb,Xd,Xc,Xe,implies_true,Xh,znZ zEp])<;>exact fin4) (by(try simp only[evWB,Xa,Xb,Xd,Xc,Xe,implies_true,Xh,znZ zEp])<;>exact fin4))⟩
 .obtain rfl:k=g.blocks.length:=by omega
  unfold zkS;refine Gw1 @zod.eq_1 ?_;intros;refine⟨_,?_,rfl⟩;rw[zLJ b];have:=vw_NN (H:=[(0,.row 1 (g.E.map cNs) 0)]) (H2:=[]) (σ:=nos) (D:=allR) (t:=false) (r:=0) (q:=0) (g:=0) (l:=g.E) trivial rfl (by omega)
  rwa [b]at this
structure Adj.small(A:Adj):Prop where
 len:A.length<=2000
 row:∀k,(suc A k).length<=2000000
def keepP(l:List Nat)(j:Nat):Bool:=j == 0||(l.getD j 0 != l.getD (j-1) 0)
def keepL(l:List Nat)(n:Nat):List Nat:=(filR (keepP l) n).map (λj=>l.getD j 0)
theorem _root_.Go.Ab.Gr.E_small{g:Gr}(c:g.small):g.E.small:=by
 refine⟨by rw[g.E_len];have:=c.1;omega,λk=>?_⟩;unfold suc Gr.E;rw[Wf,Wt]
 cases d:g.blocks[k]? with
 |none=>simp
 |some b=>simp only[Wu,WD,Xr];have e:=Wl (edgeOk g.blocks.length) b.targets;have h:=c.2 b (List.mem_of_getElem? d);omega
def inB(n:Nat)(l:List Nat):List Bool:=mapR (λi=>decide (i∈l)) n
theorem zGb{n}{l}:(inB n l).length=n:=zKZ
theorem zMJ{n i}{l}(h:i<n):((inB n l).map cB).getD i []=[.bool (decide (i∈l))]:=by simp[inB,mapR,Wf,h]
theorem zLT{n k}{l}:((inB n l).map cB).set k [.bool true]=(inB n (l++[k])).map cB:=by
 unfold inB mapR;rw[Wj,Wj,zjH];refine Wp λi b=>?_
 unfold updF;split
 .rename_i h;subst h;simp
 .rename_i h;simp[h]
theorem zHn{n}:(inB n []).map cB=Wk n [.bool false]:=by
 unfold inB mapR;rw[Wj];have:(cB ∘ λi=>decide (i∈([]:List Nat)))=λ_=>[AV.bool false]:=by funext i;simp
 rw[this,Xs,WQ]
def zez(A:Adj):List AV:=[.ptr 1 0 0 0 0,.iptr 1 λj=>[zuU A].getD j .undef,.ptr 3 0 0 0 0,.ptr 2 0 0 0 0]
def ordH(A:Adj)(s:List Nat×List Nat)(g:Nat):AH:=[(0,.row 1 ((inB A.length s.1).map cB) 0),(1,.row 1 [[.own 0 0 0 0 A.length]] 0),(2,.row 1 [[.own 4 0 g 0 s.2.length]] 0),
 (3,.row 1 [[.fn (.func zd8) (zez A)]] 0),(4,.row 1 (s.2.map cN) g)]
theorem _root_.Go.Ab.um:type_of% @ordH.eq_1:=@ordH.eq_1
theorem _root_.Go.Ab.ul:type_of% @zez.eq_1:=@zez.eq_1
theorem zja(A)(I:A.small)(t:A.ok):∀(f:Nat)(k g:Nat)(s:List Nat×List Nat)(m d:Nat),DfsI A.length m d s->k<A.length->k∉s.1->A.length<=f+m ->
  zad Z9 zd8 ([.int .i64 k]++zez A) (ordH A s g) 5 (λv H R=>∃F,v=.tup []/\H=ordH A (dfs A f k s) F/\R=5)
 |
  0,k,g,s,m,d,u,y,L,hf=>by
  have:=(u.nd.snoc y L).len;have:=u.le;simp at *;omega
 |
  f+1,k,g,s,m,d,u,y,L,hf=>by
  have Q:=zja A I t f;have V:=hBig;have O:=u.nd.len;have P:=u.post;have M:=I.len;refine zab (fn_x zqr rfl ?_);refine dcU zjc.eq_1 ?_;have C:∀c∈suc A k,c<A.length:=t k;have p:DfsI A.length (m+1) (d+1) (s.1++[k],s.2):=⟨u.nd.snoc y L,by have:=u.le;simp;omega,by simp;omega⟩;have n:=zvh A f k s;have q:=I.row k;rw[zLR y]at C n q;refine Gw7 @ul @um @zGb @zuU.eq_1 @uf (gmp y) @zLT ?_;intros;generalize N:A[k]=j at C n q⊢;let S:=λi:Nat=>(j.take i).foldl (zcl A f) (s.1++[k],s.2)
  refine zd (λa:Nat×Nat=>([(0,.int .i64 k),(1,.ptr 1 0 0 0 0),(3,.ptr 3 0 0 0 0),(4,.ptr 2 0 0 0 0),(14,zi j),(15,.int .i64 j.length),(16,.int .i64 a.1)],ordH A (S a.1) a.2)) 5
   (λa=>a.1<=j.length) (λa=>j.length-a.1) (0,g) (Wd _) (Xf [(0,0,0),(1,1,0),(2,2,0),(3,3,0),(4,4,0)] [] rfl rfl rfl (by(try simp only[evWB,Xa,Xb,Xd,Xc,Xe,implies_true,S,Xj,ordH,zez,zuU])<;>exact fin4) (by(try simp only[evWB,Xa,Xb,Xd,Xc,Xe,implies_true,S,Xj,ordH,zez,zuU])<;>exact fin4)) ?_
  rintro⟨i,a0⟩ hi wf;simp only at hi;refine dcU zha.eq_1 ?_;refine Gw2 @um @uf ?_;intros;have D:DfsI A.length (m+1) (d+1) (S i):=zj1 (zpl t f (m+1) (d+1)) (j.take i) _ (λc x=>C c (WF x)) p;have K:=D.nd.len;(refine zA (λh=>?_) (λh=>?_))<;>(try simp only[dcd]at h)
  .have o:i<j.length:=by omega
   have b:S (i+1)=zcl A f (S i) j[i]:=zkL o;have x:=C j[i] (Wr o);generalize S i=B at D K b⊢;refine Gw1 (gmp o) ?_;intros;generalize j[i]=c at b x⊢
   (repeat first|simp(disch:=try exact dis1) only[evD,Xa,Xb,Xc,zGb,zMJ x]|with_reducible first|intro _|refine aJ ?_)
   (refine zA (λw=>?_) (λw=>?_))<;>(try simp only[dcd]at w)
   .have e:zcl A f B c=dfs A f c B:=by unfold zcl;rw[if_neg w]
    rw[e]at b;refine Gw1 @ul ?_;intros;refine⟨by kernel_rfl,?_⟩;refine zH [(0,0,0),(1,1,0),(2,2,0),(3,3,0),(4,4,0)] 5 _ (Q c a0 B (m+1) (d+1) D x w (by omega)) rfl rfl (Gin4_2 @um @ul) (Gin4_2 @um @ul) ?_;rintro v U T ⟨F,rfl,rfl,rfl⟩;refine Gw2 @um @ul ?_;intros;exact⟨(i+1,F),by simp only;omega,by simp only;omega,(Xf [(0,0,0),(1,1,0),(2,2,0),(3,3,0),(4,4,0)] [] rfl rfl rfl (Gin4_3 b @um @ul) (Gin4_3 b @um @ul))⟩
   .have e:zcl A f B c=B:=by unfold zcl;rw[if_pos w]
    rw[e]at b;refine Gw0 ?_;intros;exact⟨(i+1,a0),by simp only;omega,by simp only;omega,(Xf [(0,0,0),(1,1,0),(2,2,0),(3,3,0),(4,4,0)] [] rfl rfl rfl (Gin4_3 b @um @ul) (Gin4_3 b @um @ul))⟩
  .refine dcU zgQ.eq_1 ?_;have o:j.length<=i:=by omega
   have J:S i=j.foldl (zcl A f) (s.1++[k],s.2):=by simp only[S];rw[Wi o]
   have:=D.post;refine Gw1 @ziV.eq_1 ?_;intros;refine⟨.tup [],ordH A (dfs A (f+1) k s) (a0+1),5,?_,a0+1,rfl,rfl,rfl⟩;rw[J,n];exact(Xf [(0,0,0),(1,1,0),(2,2,0),(3,3,0),(4,4,0)] [] rfl rfl rfl (Gin4_2 @um @ul) (Gin4_2 @um @ul))
def revP(l:List Nat)(i x:Nat):Nat:=if x<i\/l.length-i<=x then l.getD (l.length-1-x) 0 else l.getD x 0
def revL(l:List Nat)(i:Nat):List Nat:=(Wh l.length).map (revP l i)
theorem zKC{l}{i}:(revL l i).length=l.length:=by simp[revL]
theorem zBR{l}:revL l 0=l:=by
 apply WB;intro x;unfold revL revP;by_cases b:x<l.length
 .have:¬l.length<=x:=by omega
  simp[b,Wf,this]
 .simp[b]
theorem zKb{l}{i}(h:l.length<=2*i+1):revL l i=l.reverse:=by
 apply WB;intro x;unfold revL revP;by_cases b:x<l.length
 .rw[WG b];simp only[Wt,List.getElem?_range b,Wu];by_cases c:x<i\/l.length-i<=x
  .rw[if_pos c];rw[Wf,Wc (show l.length-1-x<l.length by omega)];rfl
  .rw[if_neg c,show l.length-1-x=x by omega,Wf,Wc b];rfl
 .simp[b]
theorem zD5{l}{i x}(b:x<l.length):((revL l i).map cN).getD x []=[.int .i64 (revP l i x:Int)]:=by simp[revL,Wf,b]
theorem zGc{l}{i}(h:2*i+1<l.length):
  (((revL l i).map cN).set i [.int .i64 (revP l i (l.length-1-i):Int)]).set (l.length-1-i) [.int .i64 (revP l i i:Int)]=(revL l (i+1)).map cN:=by
 unfold revL;rw[Wj,Wj,zjH,zjH];refine Wp λx e=>?_
 have g:=Ws.1 e;unfold updF;simp only[Ww];by_cases c:x=l.length-1-i
 .rw[if_pos c];unfold revP;rw[if_neg (by omega),if_pos (by omega),show l.length-1-x=i by omega]
 .rw[if_neg c];by_cases b:x=i
  .rw[if_pos b];unfold revP;rw[if_neg (by omega),if_pos (by omega),b]
  .rw[if_neg b];unfold revP;by_cases d:x<i\/l.length-i<=x
   .rw[if_pos d,if_pos (by omega)]
   .rw[if_neg d,if_neg (by omega)]
theorem ztM(l:List Nat)(g:Nat)(j:l.length<=1000000):zad Z9 zdF [.own 0 0 g 0 l.length] [(0,.row 1 (l.map cN) g)] 1
  (λv H b=>v=.tup []/\H=[(0,.row 1 (l.reverse.map cN) g)]/\b=1):=by
 refine zab (fn_x zl3 rfl ?_);refine dcU zf4.eq_1 ?_;have c:=hBig;refine Gw0 ?_;intros;refine zd (λi:Nat=>([(0,.own 0 0 g 0 l.length),(2,.int .i64 i),(3,.int .i64 ((l.length:Int)-1-i))],[(0,.row 1 ((revL l i).map cN) g)])) 1 (λi=>2*i<=l.length+1) (λi=>l.length+1-i) 0 (by omega) (Xf [(0,0,0)] [] rfl rfl rfl (Gin4_1 @zBR) (Gin4_1 @zBR)) ?_;intro i d wf;refine dcU ze0.eq_1 ?_;refine Gw0 ?_;intros;(refine zA (λh=>?_) (λh=>?_))<;>(try simp only[dcd]at h)
 .have e:((l.length:Int)-1-i).toNat=l.length-1-i:=by omega
  (repeat first|simp(disch:=try exact dis1) only[evD,Xa,Xb,Xc,e,zKC,zD5 (l:=l) (i:=i) (show l.length-1-i<l.length by omega),zD5 (l:=l) (i:=i) (show i<l.length by omega),List.length_set]|with_reducible first|intro _|refine aJ ?_)
  rw[zGc (by omega)];exact⟨i+1,by omega,by omega,(Xf [(0,0,0)] [] rfl rfl rfl Gin4_0 Gin4_0)⟩
 ·(refine Gw1 @zf1.eq_1 ?_;intros);refine⟨.tup [],[(0,.row 1 (l.reverse.map cN) g)],1,?_,rfl,rfl,rfl⟩;rw[zKb (by omega)];exact(Xf [(0,0,0)] [] rfl rfl rfl Gin4_0 Gin4_0)
def ordL(A:Adj)(r:Nat):List Nat:=(dfs A A.length r ([],[])).2.reverse
theorem zMg{A}(b:A.ok){r}(c:r<A.length):DfsI A.length 0 0 (dfs A A.length r ([],[])) :=
 zpl b A.length 0 0 r _ ⟨⟨by simp,by simp⟩,by simp,by simp⟩ c (by simp)
theorem zse(A:Adj)(g:A.small)(b:A.ok)(r:Nat)(j:r<A.length):zq Z9 zfr [zuU A,.int .i64 r] (·=zi (ordL A r)):=by
 refine fn_x zlL rfl ?_;unfold zhg;have o:=hBig;have p:=g.len;have hd:=zMg b j;have c:=hd.nd.len;have d:=hd.post;have n:DfsI A.length 0 0 ([],[]):=⟨⟨by simp,by simp⟩,by simp,by simp⟩;refine Gw1 @zuU.eq_1 ?_;intros;(refine zA (λh=>?_) (λh=>?_))<;>(try simp only[dcd]at h)
 .omega
 refine Gw0 ?_;intros;refine⟨by kernel_rfl,?_⟩;refine zH [(0,1,0),(1,2,0),(2,3,0),(3,4,0)] 5 _ (zja A g b A.length r 0 ([],[]) 0 0 n j (by simp) (by omega)) rfl rfl (Gin4_4 @um @ul @zHn @zuU.eq_1) (Gin4_4 @um @ul @zHn @zuU.eq_1) ?_;rintro v k e ⟨m,rfl,rfl,rfl⟩;unfold ordL;generalize dfs A A.length r ([],[])=s at c d⊢;refine Gw2 @um @ul ?_;intros;refine zH [(0,9,0)] 1 _ (ztM s.2 m (by omega)) rfl rfl Gin4_0 Gin4_0 ?_;rintro v k e ⟨rfl,rfl,rfl⟩;refine Gw1 @zhe.eq_1 ?_;intros;refine⟨_,?_,rfl⟩;rw[show s.2.length=s.2.reverse.length by simp];exact zng trivial rfl (by simp;omega)
theorem zqG(A)(r:Nat)(b:A.length<=r):zq Z9 zfr [zuU A,.int .i64 r] (·=zi []):=by
 refine fn_x zlL rfl ?_;unfold zhg;refine Gw1 @zuU.eq_1 ?_;intros;(refine zA (λh=>?_) (λh=>?_))<;>(try simp only[dcd]at h)
 ·(refine Gw1 @zhe.eq_1 ?_;intros);refine⟨_,?_,rfl⟩;exact zng (l:=[]) trivial rfl (Wd _)
 .omega
theorem dominator_Order_ok(g:Gr)(b:g.small):zq Z9 zcP [.agg g.cells] (·=zi (orderL g.E)):=by
 refine fn_x zsP rfl ?_;refine dcU zlN.eq_1 ?_;refine Gw2 @uh @Gr.two ?_;intros;refine zc (zb (zu2 g b) rfl) ?_;refine Gw0 ?_;intros;by_cases c:0<g.E.length
 .refine zc (zb (zse g.E (Gr.E_small b) g.E_ok 0 c) rfl) ?_;refine Gw1 @zhm.eq_1 ?_;intros;refine⟨_,.sl _ _ _ _,?_⟩;have:orderL g.E=ordL g.E 0:=by unfold orderL ordL;rw[if_neg (by omega)]
  rw[this];rfl
 .refine zc (zb (zqG g.E 0 (by omega)) rfl) ?_;refine Gw1 @zhm.eq_1 ?_;intros;refine⟨_,.sl _ _ _ _,?_⟩;have:orderL g.E=[]:=by unfold orderL;rw[if_pos (by omega)]
  rw[this];rfl
structure TI(A:Adj)(r:Nat)(l:List Nat)(f:Nat->Nat)(T:Nat->Option Nat):Prop where
 wt:WT r l T
 sd:Sd A r l T
 gd:T=(λ_=>none)\/∃T0,Gd A r l f T0 T
structure Bst(U:Nat->Option Nat)(r:Nat)(l qs:List Nat)(best:Option Nat):Prop where
 no:best=none->∀p∈qs,p∈l->¬Hd r U p
 yes:∀c,best=some c->c∈l/\Hd r U c/\∀x,Ch U c x↔∀p∈qs,p∈l->Hd r U p->Ch U p x
theorem dF{p}(h:¬p){b:Decidable p}:@decide p b=false:=decide_eq_false h
theorem dT{p}(h:p){b:Decidable p}:@decide p b=true:=decide_eq_true h
end Go.Ab.Dm
namespace Go.Ab.Dm
structure SL(A:Adj)(r:Nat)(l:List Nat)(inc:Bool)(S:Adj)(n:Nat):Prop where
 nd:∀b,b<n->(suc S b).Nodup
 mem:∀a b,b<n->(a∈suc S b↔(b∈l/\a∈l/\a≠b/\(a≠r\/inc=true)/\Dm A r a b))
end Go.Ab.Dm
namespace Go.Ab.Dm
open Go.RowKit Go.Proofs
theorem orderL_nd{E}(c:E.ok):NdL E.length (orderL E):=by
 by_cases d:0<E.length
 .have b:orderL E=ordL E 0:=by unfold orderL ordL;rw[if_neg (by omega)]
  rw[b];exact⟨(rpo c d).nd,(rpo c d).lt⟩
 .have b:orderL E=[]:=by unfold orderL;rw[if_pos (by omega)]
  rw[b];exact⟨by simp,by simp⟩
end Go.Ab.Dm
namespace Go.Ab
def insU(n:Int):List Int->List Int
 |[]=>[n]
 |x::l=>if x<n then x::insU n l else if x=n then x::l else n::x::l
def zeU(a b:List Int):List Int:=b.foldl (λa x=>insU x a) a
def Asc(l:List Int):Prop:=l.Pairwise (· < ·)
theorem zzw{n y}:∀{l:List Int},y∈insU n l↔y=n\/y∈l
 |[]=>by simp[insU]
 |
  x::l=>by
  unfold insU;split
  .rw[We,zzw,We];constructor
   .rintro(h|h|h)
    .exact .inr (.inl h)
    .exact .inl h
    .exact .inr (.inr h)
   .rintro(h|h|h)
    .exact .inr (.inl h)
    .exact .inl h
    .exact .inr (.inr h)
  .split
   .rename_i h;subst h;simp
   .simp
theorem zDX{n}:∀{l:List Int},Asc l->Asc (insU n l)
 |[],_=>by simp[insU,Asc]
 |
  x::l,h=>by
  have c:=λy (b:y∈l)=>WC h b
  have e:=Xk h;unfold insU;split
  .rename_i d;refine Xt (λy b=>?_) (zDX e);rcases zzw.1 b with rfl|b
   .exact d
   .exact c y b
  .split
   .exact h
   .refine Xt (λy b=>?_) h;rcases We.1 b with rfl|b
    .omega
    .have:=c y b;omega
theorem zmo{y}:∀{b a:List Int},y∈zeU a b↔y∈a\/y∈b
 |[],a=>by simp[zeU]
 |
  x::b,a=>by
  have:=zmo (y:=y) (b:=b) (a:=insU x a);unfold zeU at this⊢;rw[Xu,this,zzw,We];constructor
  .rintro((h|h)|h)
   .exact .inr (.inl h)
   .exact .inl h
   .exact .inr (.inr h)
  .rintro(h|h|h)
   .exact .inl (.inr h)
   .exact .inl (.inl h)
   .exact .inr h
theorem zmX:∀{b a:List Int},Asc a->Asc (zeU a b)
 |[],a,h=>h
 |
  x::b,a,h=>by
  have:=zmX (b:=b) (zDX (n:=x) h);unfold zeU at this⊢;rw[Xu];exact this
theorem zCh:∀{a b:List Int},Asc a->Asc b->(∀x,x∈a↔x∈b)->a=b
 |[],[],_,_,_=>rfl
 |[],y::b,_,_,h=>by have:=(h y).2 (by simp);cases this
 |x::a,[],_,_,h=>by have:=(h x).1 (by simp);cases this
 |
  x::a,y::b,ha,hb,h=>by
  have j:=λz (c:z∈a)=>WC ha c
  have k:=λz (c:z∈b)=>WC hb c
  have e:x=y:=by
   rcases We.1 ((h x).1 (by simp))with d|d
   .exact d
   .rcases We.1 ((h y).2 (by simp))with g|g
    .exact g.symm
    .have:=j y g;have:=k x d;omega
  subst e;congr 1;refine zCh (Xk ha) (Xk hb) λz=>?_
  constructor
  .intro c;rcases We.1 ((h z).1 (WR _ c))with rfl|d
   .have:=j z c;omega
   .exact d
  .intro c;rcases We.1 ((h z).2 (WR _ c))with rfl|d
   .have:=k z c;omega
   .exact d
def zLa(a b:List Int):List Int:=a.filter λx=> !decide (x∈b)
mutual
def zfY:Ex->List Int
 |.mk op _ v _ l=>zkP (if op=2 then[v]else[]) l
def zkP:List Int->List Ex->List Int
 |a,[]=>a
 |a,x::l=>zkP (zeU a (zfY x)) l
end
mutual
def occX:Ex->List Int
 |.mk op _ v _ l=>(if op=2 then[v]else[])++zd6 l
def zd6:List Ex->List Int
 |[]=>[]
 |x::l=>occX x++zd6 l
end
mutual
theorem zmT{y:Int}:∀e:Ex,y∈zfY e↔y∈occX e
 |.mk op _ v _ l=>by rw[zfY,occX,zxT,Wa]
theorem zxT{y:Int}:∀(a:List Int)(l:List Ex),y∈zkP a l↔y∈a\/y∈zd6 l
 |a,[]=>by rw[zkP,zd6];simp
 |a,x::l=>by rw[zkP,zxT,zmo,zmT x,zd6,Wa,or_assoc]
end
theorem zym:∀(a:List Int)(l:List Ex),Asc a->Asc (zkP a l)
 |a,[],h=>by rw[zkP];exact h
 |a,x::l,h=>by rw[zkP];exact zym _ l (zmX h)
theorem zHa(e):Asc (zfY e):=by obtain⟨op,n,v,w,l⟩:=e;rw[zfY];refine zym _ _ ?_;split<;>simp[Asc]
def zw1:List Int->List Ex->List Int
 |a,[]=>a
 |a,x::l=>zw1 (zeU a (zfY x)) l
def zkQ(s:St):List Int:=zw1 [] s.e
theorem zBe:∀(a:List Int)(l:List Ex),Asc a->Asc (zw1 a l)
 |a,[],h=>h
 |a,x::l,h=>zBe _ l (zmX h)
theorem zsk{y}:∀(a:List Int)(l:List Ex),y∈zw1 a l↔y∈a\/y∈zd6 l
 |a,[]=>by rw[zw1,zd6];simp
 |a,x::l=>by rw[zw1,zsk,zmo,zmT x,zd6,Wa,or_assoc]
theorem zF7(s):Asc (zkQ s):=zBe _ _ (by simp[Asc])
def znd(s:St):List Int:=if s.op=1\/s.op=3 then[s.var]else[]
def zMo(s:St):Bool:=decide (s.op=9\/s.op=10\/s.op=5)
def zLz(exit:List Int)(s:St)(after:List Int):List Int :=
 if zMo s=true then zeU (zeU (zLa after (znd s)) (zkQ s)) exit else zeU (zLa after (znd s)) (zkQ s)
def beginB(exit:List Int)(l:List St)(e:List Int):List Int:=l.foldr (zLz exit) e
def zLL(exit:List Int)(l:List St)(e:List Int):List Int:=if l.length=0 then[]else beginB exit l e
def endT(b:List (List Int))(a:List Int)(t:Int):List Int:=if 0<=t/\t<b.length then zeU a (b.getD t.toNat [])else a
def endB(b:List (List Int))(l:List St):List Int:=(zaO l).foldl (endT b) []
def newB(exit:List Int)(g:List Bl)(b:List (List Int))(i:Nat):List Int:=zLL exit ((g.map (·.stmts)).getD i []) (endB b ((g.map (·.stmts)).getD i []))
structure LInv(exit:List Int)(g:List Bl)(ins:List (List Int)):Prop where
 len:ins.length=g.length
 asc:∀i,Asc (ins.getD i [])
 sub:∀i,∀x∈ins.getD i [],x∈newB exit g ins i
end Go.Ab
namespace Go.Ab
open Go.RowKit Go.Proofs
def leB(a b:List Bool):Prop:=∀i,a.getD i false=true->b.getD i false=true
theorem leB.refl(a):leB a a:=λ_ h=>h
theorem leB.trans{a b c}(h:leB a b)(k:leB b c):leB a c:=λi x=>k i (h i x)
theorem zv1{o:List Bool}{b i:Nat}{x:Bool}(c:b<o.length):(o.set b x).getD i false=if i=b then x else o.getD i false:=by
 simp only[Wm];by_cases h:i=b
 .subst h;rw[if_pos rfl,List.getElem?_set_self c];rfl
 .rw[if_neg h,List.getElem?_set_ne (Ne.symm h)]
theorem zJP{a b}(p:a.length=b.length)(h:leB a b)(k:leB b a):a=b:=by
 refine List.ext_getElem p λi m n=>?_
 have g:a.getD i false=a[i]:=by simp[Wm,m]
 have j:b.getD i false=b[i]:=by simp[Wm,n]
 have d:=h i;have e:=k i;rw[g,j]at d e
 cases c:a[i]with
 |true=>exact(d c).symm
 |false=>
  cases o:b[i]with
  |true=>rw[e o]at c;cases c
  |false=>rfl
def cntT(l:List Bool):Nat:=(l.filter id).length
theorem zME(l):cntT l<=l.length:=Wl _ _
theorem zEk:∀{l:List Bool}{b:Nat},b<l.length->l.getD b false=false->cntT (l.set b true)=cntT l+1
 |[],b,h,_=>by cases h
 |
  x::l,0,_,hx=>by
  have:x=false:=by simpa using hx
  subst this;simp[cntT]
 |
  x::l,b+1,h,hx=>by
  have c:=zEk (l:=l) (b:=b) (by simpa using h) (by simpa using hx);unfold cntT at c⊢;cases x<;>simp at c⊢<;>omega
structure MonoF(n:Nat)(F:List Bool->Nat->Bool):Prop where
 mono:∀o o' b,b<n->leB o o'->F o b=true->F o' b=true
section
variable {n:Nat}{F:List Bool->Nat->Bool}
def zk5(F:List Bool->Nat->Bool)(o:List Bool)(b:Nat):List Bool:=o.set b (F o b)
def upB(n:Nat)(F:List Bool->Nat->Bool)(o:List Bool):Prop:=o.length=n/\∀b,b<n->o.getD b false=true->F o b=true
theorem zvM{o}{b}:(zk5 F o b).length=o.length:=by simp[zk5]
theorem zEt{o}{b}(d:upB n F o)(c:b<n):leB o (zk5 F o b):=λi h=>by
 unfold zk5;rw[zv1 (by rw[d.1];exact c)];split
 .rename_i e;subst e;exact d.2 _ c h
 .exact h
theorem zzc(j:MonoF n F){o}{b}(d:upB n F o)(g:b<n):upB n F (zk5 F o b):=by
 refine⟨by rw[zvM,d.1],λi k h=>?_⟩;have c:=zEt d g;unfold zk5 at h;rw[zv1 (by rw[d.1];exact g)]at h;split at h
 .rename_i e;subst e;exact j.mono _ _ _ g c h
 .exact j.mono _ _ _ k c (d.2 i k h)
theorem zIr{o}{b}(k:upB n F o)(j:b<n):zk5 F o b=o/\F o b=o.getD b false\/cntT (zk5 F o b)=cntT o+1:=by
 have d:b<o.length:=by rw[k.1];exact j
 have e:o.getD b false=o[b]:=by simp[Wm,d]
 unfold zk5
 cases h:F o b with
 |false=>
  have g:o.getD b false=false:=by
   cases c:o.getD b false with
   |false=>rfl
   |true=>rw[k.2 b j c]at h;cases h
  refine .inl ⟨?_,g.symm⟩;rw[e]at g;rw[<-g];exact WS d
 |true=>
  cases c:o.getD b false with
  |true=>refine .inl ⟨?_,rfl⟩;rw[e]at c;rw[<-c];exact WS d
  |false=>exact .inr (zEk d c)
theorem zBX{o Y}{b}(g:MonoF n F)(k:upB n F o)(d:b<n)(j:∀b,b<n->F Y b=true->Y.getD b false=true)(h:leB o Y):leB (zk5 F o b) Y:=λi c=>by
 unfold zk5 at c;rw[zv1 (by rw[k.1];exact d)]at c;split at c
 .rename_i e;subst e;exact j _ d (g.mono _ _ _ d h c)
 .exact h i c
def zpz(F:List Bool->Nat->Bool)(b:List Nat)(o:List Bool):List Bool:=b.foldl (zk5 F) o
theorem zwY(m:MonoF n F):∀{bs:List Nat}{o:List Bool},(∀b∈bs,b<n)->upB n F o->upB n F (zpz F bs o)/\leB o (zpz F bs o)/\(zpz F bs o=o/\(∀b∈bs,F o b=o.getD b false)\/cntT o<cntT (zpz F bs o))
 |[],o,_,e=>⟨e,leB.refl _,.inl ⟨rfl,λb h=>by cases h⟩⟩
 |
  b::bs,o,h,e=>by
  have c:=h b (by simp);obtain⟨p,q,j⟩:=zwY m (bs:=bs) (o:=zk5 F o b) (λx g=>h x (by simp[g])) (zzc m e c);refine⟨p,(zEt e c).trans q,?_⟩;show(zpz F bs (zk5 F o b)=o/\_)\/cntT o<cntT (zpz F bs (zk5 F o b));rcases zIr e c with ⟨k,s⟩|k
  .rw[k]at j⊢;rcases j with ⟨d,t⟩|d
   .exact .inl ⟨d,λx g=>by
    rcases We.1 g with rfl|g
    .exact s
    .exact t x g⟩
   .exact .inr d
  .right;rcases j with ⟨d,_⟩|d
   .rw[d];omega
   .omega
theorem zxV(c:MonoF n F){Y}(e:∀b,b<n->F Y b=true->Y.getD b false=true):∀{bs:List Nat}{o:List Bool},(∀b∈bs,b<n)->upB n F o->leB o Y->leB (zpz F bs o) Y
 |[],o,_,_,h=>h
 |b::bs,o,d,g,h=>zxV c e (bs:=bs) (λx j=>d x (by simp[j])) (zzc c g (d b (by simp))) (zBX c g (d b (by simp)) e h)
def zqx(F:List Bool->Nat->Bool)(b:List Nat):Nat->List Bool->List Bool
 |0,o=>o
 |k+1,o=>zqx F b k (zpz F b o)
theorem zBl{bs}{o}(h:zpz F bs o=o):∀k,zqx F bs k o=o
 |0=>rfl
 |k+1=>by rw[zqx,h,zBl h k]
theorem zEj(e:MonoF n F){bs}(g:∀b∈bs,b<n):∀(k:Nat)(o:List Bool),upB n F o->n<cntT o+k->upB n F (zqx F bs k o)/\∀b∈bs,F (zqx F bs k o) b=(zqx F bs k o).getD b false
 |
  0,o,c,h=>by
  have:=zME o;rw[c.1]at this;omega
 |
  k+1,o,c,h=>by
  obtain⟨j,q,m⟩:=zwY e g c;rcases m with ⟨d,p⟩|d
  .rw[zBl d];exact⟨c,p⟩
  .rw[zqx];exact zEj e g k _ j (by omega)
theorem zAz(c:MonoF n F){Y}(g:∀b,b<n->F Y b=true->Y.getD b false=true){e}(d:∀b∈e,b<n):∀(k:Nat)(o:List Bool),upB n F o->leB o Y->leB (zqx F e k o) Y
 |0,o,_,h=>h
 |k+1,o,j,h=>zAz c g d k _ (zwY c d j).1 (zxV c g d j h)
def zii(n:Nat)(F:List Bool->Nat->Bool):List Bool:=zqx F (Wh n) (n+1) (Wk n false)
theorem zGh:upB n F (Wk n false):=⟨by simp,λb c h=>by simp[Wm,c]at h⟩
theorem zx9:∀{c:List Nat}{o:List Bool},(zpz F c o).length=o.length
 |[],o=>rfl
 |
  b::c,o=>by
  show(zpz F c (zk5 F o b)).length=_;rw[zx9,zvM]
theorem zA3{bs}:∀{k:Nat}{o:List Bool},(zqx F bs k o).length=o.length
 |0,o=>rfl
 |k+1,o=>by rw[zqx,zA3,zx9]
theorem zFN(n)(F):(zii n F).length=n:=by unfold zii;rw[zA3,List.length_replicate]
theorem zBD(g:MonoF n F):(zii n F).length=n/\∀b,b<n->F (zii n F) b=(zii n F).getD b false:=by obtain⟨d,e⟩:=zEj g (bs:=Wh n) (λb c=>Ws.1 c) (n+1) _ zGh (by omega);exact⟨d.1,λb c=>e b (Ws.2 c)⟩
theorem zF1(c:MonoF n F){Y}(d:∀b,b<n->F Y b=true->Y.getD b false=true):leB (zii n F) Y :=
 zAz c d (λb e=>Ws.1 e) _ _ zGh λi h=>by simp only[Wm,List.getElem?_replicate]at h;split at h<;>cases h
theorem zGe(d:MonoF n F){X:List Bool}(j:X.length=n)(e:∀b,b<n->F X b=X.getD b false)(c:leB X (zii n F)):X=zii n F:=by refine zJP (by rw[j,(zBD d).1]) c (zF1 d λb g h=>?_);rw[<-e b g];exact h
end
end Go.Ab
namespace Go.Ab
open Go.RowKit Go.Proofs Go.Maps Go.Sort Go.Shelf
end Go.Ab
