/-
  Part 22 of the proof: how the calls of this program run, over values instead of memory, and what each function computes.
-/
import Derived.Test.YtmlhipilbnjhiaaGreatNu
set_option maxRecDepth 100000
set_option linter.unusedVariables false
set_option linter.unusedSimpArgs false
set_option linter.unnecessarySimpa false
set_option linter.unusedSectionVars false
open Go.Ab.Ent renaming tab->Xa,keep->Xb,tabB->Xh
open Go.Ab.Bl renaming cells->Xc
open Go.Ab.St renaming cells->Xd
open Nat renaming reduceBEq->Xe,reduceAdd->Xf,reduceLeDiff->Xg,reduceSub->Xi,reduceLT->Xj,le_trans->Xk,mul_one->Xl,add_zero->Xm,zero_add->Xn
open Go.Proofs.Tryz renaming prog->Z9
open Nat renaming zero_le→Wa,le_refl→We,mul_le_mul→WG,add_sub_cancel→WX
open List renaming getElem_mem→Wc,append_nil→Wd,drop_of_length_le→Wf,getD_eq_getElem?_getD→Wg,map_append→Wh,length_map→Wi,length_append→Wj,drop_eq_getElem_cons→Wk,append_assoc→Wl,eq_nil_of_length_eq_zero→Wm,all_cons→Wn,findIdx?_eq_some_iff_getElem→Wo,findIdx?_eq_none_iff→Wp,getElem?_eq_getElem→Wq,range→Wr,take_length→Ws,length_take→Wt,getElem?_map→Wv,mem_iff_getElem→Ww,length_singleton→Wx,mem_map→Wy,take_zero→Wz,map_set→WA,map_map→WB,singleton_append→WC,cons_append→WD,nil_append→WE,replicate→WH,pairwise_iff_getElem→WI,length_cons→WJ,length_filter_le→WK,any_eq_false→WL,length_set→WM,length_nil→WN,any_cons→WO,getElem_map→WR,getElem?_append_right→WV,nodup_iff_pairwise_ne→WW,length_range→WY,take_of_length_le→WZ,any_eq_true→W0,take_succ_cons→W3
open Bool renaming true_and→Wu,and_eq_true→WF,true_or→WP,false_or→WQ
open Array renaming getElem?_modify→WS
open Option renaming map_eq_some_iff→WU
namespace Go.Ab.Dm
open Go.RowKit Go.Proofs
theorem zfw(g:Gr)(b:g.small):zo Z9 zaR [.agg g.cells] (·=encNN (predL g.E)):=by rw[<-zw2];exact zj6 g b
theorem zxQ{c}:tI (some c)=(c:Int):=rfl
theorem zyU{E:Adj}{k:Nat}(h:k<(predL E).length):suc (predL E) k=(predL E)[k]:=zwU h
theorem zvw(g:Gr)(B:g.small):z7 Z9 zeZ [.agg g.cells] [] 0
  (λv H nx=>∃gs,v=.own 0 0 0 0 g.blocks.length/\H=[(0,.row 1 (fe 1 g.blocks.length (nx1 g.E g.blocks.length) gs) 0),(1,.fam 1 (fi cN g.blocks.length (nx1 g.E g.blocks.length) gs))]/\nx=2):=by
 refine zaK (fn_x zvi rfl ?_);refine dcU zo0.eq_1 ?_;have J:=hBig;have u:=g.E_len;have K:=B.1;have C:=zfw g B;have w:(predL g.E).length=g.blocks.length:=by rw[zyl,u]
 refine Gw2 @uh @uo ?_;intros;refine zd (ze C rfl) ?_;refine Gw1 @ud ?_;intros
 refine zf (λs:Nat×(Nat->Nat)=>([(3,.own 0 0 0 0 g.blocks.length),(13,encNN (predL g.E)),(14,.int .i64 g.blocks.length),(15,.int .i64 s.1)],[(0,.row 1 (fe 1 g.blocks.length (nx1 g.E s.1) s.2) 0),(1,.fam 1 (fi cN g.blocks.length (nx1 g.E s.1) s.2))])) 2
  (λs=>s.1<=g.blocks.length) (λs=>g.blocks.length-s.1) (0,λ_=>0) (Wa _) (Xa [(0,1,0)] [] rfl (Gin4_3 @ud @zC2 w) (Gin4_3 @ud @zC2 w)) ?_
 rintro⟨k,gs⟩ hk wf;simp only at hk;refine dcU zle.eq_1 ?_;refine Gw1 @ud ?_;intros;(refine zi (λh=>?_) (λh=>?_))<;>(try simp only[dcd]at h)
 .have F:k<g.blocks.length:=by omega
  have t:k<(predL g.E).length:=by omega
  have y:=zyU t;have x:=zwQ (E:=g.E) (b:=k);rw[y]at x;refine Gw2 (gmp t) @ue ?_;intros
  refine zf (λs:Nat×(Nat->Nat)=>([(3,.own 0 0 0 0 g.blocks.length),(4,.int .i64 k),(13,encNN (predL g.E)),(14,.int .i64 g.blocks.length),(15,.int .i64 k),(20,zc (predL g.E)[k]),(21,.int .i64 (predL g.E)[k].length),(22,.int .i64 s.1)],[(0,.row 1 (fe 1 g.blocks.length (nx2 g.E k s.1) s.2) 0),(1,.fam 1 (fi cN g.blocks.length (nx2 g.E k s.1) s.2))])) 2
   (λs=>s.1<=(predL g.E)[k].length) (λs=>(predL g.E)[k].length-s.1) (0,gs) (Wa _) (Xa [(0,0,0),(1,1,0)] [] rfl (Gin4_2 @ud @zDD) (Gin4_2 @ud @zDD)) ?_
  rintro⟨i,o⟩ hi wf;simp only at hi;refine dcU zlm.eq_1 ?_;refine Gw2 @ud @ue ?_;intros;(refine zi (λz=>?_) (λz=>?_))<;>(try simp only[dcd]at z)
  .have q:i<(predL g.E)[k].length:=by omega
   have e:i<(suc (predL g.E) k).length:=by rw[y];exact q
   have m:=zLI (E:=g.E) (b:=k) (i:=i) e;have j:=zNt (E:=g.E) (b:=k) (i:=i) e;have d:(suc (predL g.E) k)[i]<g.blocks.length:=by have:=((mem_predL (E:=g.E) (by omega)).1 (Wc e)).1;omega
   simp only[y]at m j d;refine Gw1 (gmp q) ?_;intros;generalize (predL g.E)[k][i]=p at m j d⊢;have I:=zNJ (E:=g.E) (b:=k) (i:=i) (p:=p)
   (repeat first|simp(disch:=try exact dis1) only[evD,Xe,Xf,Xg,zrT,zwa d]|with_reducible first|intro _|refine aJ ?_)
   refine zd (zaB (D:=allR) (zdh (nx2 g.E k i p) k) (.cons (zel trivial (ztj (c:=cN) (n:=g.blocks.length) (ll:=nx2 g.E k i) (gs:=o) rfl d) (by omega)) (.cons (.int _ _ _) .nil)) (.inl rfl)) ?_;rw[decide_eq_false j]
   (repeat first|simp(disch:=try exact dis1) only[evD,Xe,Xf,Xg,zrT,zwa d,znS d,zAD (c:=cN) (a:=k) (ca:=[AV.int .i64 (k:Int)]) rfl,zBF (ll:=nx2 g.E k i) (k:=p) k rfl]|with_reducible intro _|((with_reducible apply And.intro);omega))
   rw[m];exact⟨(i+1,_),by simp only;omega,by simp only;omega,(Xa [(0,0,0),(1,1,0)] [] rfl (Gin4_1 @ud) (Gin4_1 @ud))⟩
  .obtain rfl:i=(predL g.E)[k].length:=by omega
   have A:=zNk (E:=g.E) (b:=k) (by omega);rw[y]at A;rw[A];refine dcU zk0.eq_1 ?_;refine Gw0 ?_;intros;exact⟨(k+1,o),by simp only;omega,by simp only;omega,(Xa [(0,0,0),(1,1,0)] [] rfl (Gin4_1 @ud) (Gin4_1 @ud))⟩
 .obtain rfl:k=g.blocks.length:=by omega
  unfold zk9;refine Gw1 @zoT.eq_1 ?_;intros;exact⟨.own 0 0 0 0 g.blocks.length,_,2,(Xa [(0,0,0),(1,1,0)] [] rfl Gin4_0 Gin4_0),gs,rfl,rfl,rfl⟩
theorem zmq(g:Gr)(b:g.small):zo Z9 zeZ [.agg g.cells] (·=encNN (zm2 g.E)):=by
 refine z7.mono (zvw g b) ?_;rintro v H nx ⟨c,rfl,rfl,rfl⟩;refine⟨_,?_,rfl⟩;have d:=b.1;have e:zm2 g.E=(Wr g.blocks.length).map (nx1 g.E g.blocks.length):=by unfold zm2;rw[g.E_len]
 rw[e,zBx];exact zFD trivial rfl (by unfold big;omega) rfl (λ_ _=>trivial) (λi _=>Xk zrt (by unfold big;omega)) (λ_=>rfl)
def cP(e:Nat×Nat):List AV:=[.int .i64 (e.1:Int),.int .i64 (e.2:Int)]
def zjk(l:List (Nat×Nat)):AV:=encL 2 cP l
def bk2(E:Adj)(a i:Nat):List (Nat×Nat):=bk1 E a++bkA E a ((nx1 E E.length a).take i)
theorem zC6{E:Adj}:bk1 E 0=[]:=rfl
theorem zCV{E:Adj}{a:Nat}:bk2 E a 0=bk1 E a:=by simp[bk2,bkA]
theorem zMq{E:Adj}{a:Nat}(h:a∈ordE E):bk2 E a (nx1 E E.length a).length=bk1 E (a+1):=by unfold bk2;rw[Ws,zxc,if_pos h]
theorem zKE{E:Adj}{a:Nat}(h:a∉ordE E):bk1 E (a+1)=bk1 E a:=by rw[zxc,if_neg h,Wd]
theorem zKM{E:Adj}{a i:Nat}(h:i<(nx1 E E.length a).length):bk2 E a (i+1)=bk2 E a i++if isBk E a (nx1 E E.length a)[i]then[(a,(nx1 E E.length a)[i])]else[]:=by unfold bk2;rw[zLA h,Wl]
theorem zMI{E:Adj}{a i:Nat}(h:a<E.length)(c:E.length<=1000):(bk2 E a i).length<=1001000:=by
 unfold bk2;rw[Wj];have d:=zBf (E:=E) (a:=a);have e:=zIA (E:=E) (a:=a) (l:=(nx1 E E.length a).take i);have g:((nx1 E E.length a).take i).length<=E.length:=by rw[Wt];have:=zrt (E:=E) (b:=E.length) (p:=a);omega
 have:a*E.length<=1000*1000:=WG (by omega) c;omega
theorem zx2{E:Adj}(d:E.ok){a:Nat}(e:a<E.length):((reachL E).map λb=>[AV.bool b]).getD a []=[.bool (decide (a∈ordE E))]:=by
 rw[<-inB_order d];unfold inB;rw[zg (by rw[zxV];exact e)];simp only[mapR,WR,List.getElem_range];have c:orderL E=ordE E:=by unfold orderL ordE ordL;rw[if_neg (by omega)]
 rw[c]
theorem zqW(g:Gr)(v:g.small):zo Z9 ze0 [.agg g.cells] (·=zjk (zhW g.E)):=by
 refine fn_x zpW rfl ?_;refine dcU zkE.eq_1 ?_;have H:=hBig;have c:=g.E_len;have J:=v.1;have B:=zli g v;have A:=dominator_Reachable_ok g v;have z:=zmq g v;have F:(treeL g.E).length=g.blocks.length:=by simp[treeL,c]
 have u:(reachL g.E).length=g.blocks.length:=by simp[reachL,c]
 have h:(zm2 g.E).length=g.blocks.length:=by simp[zm2,c]
 have t:∀k,k<g.blocks.length->((zm2 g.E).map λl=>[zc l]).getD k []=[zc (nx1 g.E g.E.length k)]:=λk x=>by rw[zg (by omega)];simp[zm2]
 have y:=λa b=>zmZ (treeL g.E) a b (by omega)
 refine Gw2 @uh @uo ?_;intros;refine zd (ze B rfl) ?_;refine Gw2 @uh @uo ?_;intros;refine zd (ze A rfl) ?_;refine Gw2 @uh @uo ?_;intros;refine zd (ze z rfl) ?_;refine Gw1 @ud ?_;intros
 refine zf (λs:Nat×Nat=>([(3,za (treeL g.E)),(4,zR (reachL g.E)),(5,.own 0 0 s.2 0 (bk1 g.E s.1).length),(15,encNN (zm2 g.E)),(16,.int .i64 g.blocks.length),(17,.int .i64 s.1)],[(0,.row 2 ((bk1 g.E s.1).map cP) s.2)])) 1
  (λs=>s.1<=g.blocks.length) (λs=>g.blocks.length-s.1) (0,0) (Wa _) (Xa [(0,1,0)] [] rfl (Gin2_3 @ud h @zC6) (Gin2_3 @ud h @zC6)) ?_
 rintro⟨k,γ⟩ x wf;simp only at x;refine dcU zhO.eq_1 ?_;by_cases q:k<g.blocks.length
 case neg=>
  obtain rfl:k=g.blocks.length:=by omega
  refine Gw1 @dF ?_;intros;unfold zhZ;refine Gw1 @zkz.eq_1 ?_;intros;refine⟨_,?_,rfl⟩;rw[show zhW g.E=bk1 g.E g.blocks.length by unfold zhW;rw[c]];have w:=zBf (E:=g.E) (a:=g.blocks.length);have:g.blocks.length*g.E.length<=1000*1000:=WG (by omega) (by omega)
  exact zlO trivial rfl (by omega) (λa _ j I=>by
   match j with
   |0=>exact .int _ _ _
   |1=>exact .int _ _ _
   |j+2=>omega)
 have m:=zx2 g.E_ok (a:=k) (by omega);by_cases e:k∈ordE g.E
 case neg=>
  rw[decide_eq_false e]at m
  (repeat first|simp(disch:=try exact dis1) only[evD,Xe,Xf,Xg,dT,encNN,zR,t k q,m,u,h]|with_reducible first|intro _|refine aJ ?_)
  refine dcU zeU.eq_1 ?_;refine Gw0 ?_;intros;exact⟨(k+1,γ),by simp only;omega,by simp only;omega,by rw[zKE e];exact(Xa [(0,0,0)] [] rfl (Gin2_1 @ud) (Gin2_1 @ud))⟩
 rw[decide_eq_true e]at m
 (repeat first|simp(disch:=try exact dis1) only[evD,Xe,Xf,Xg,dT,encNN,zR,t k q,m,u,h]|with_reducible first|intro _|refine aJ ?_)
 refine Gw1 @ue ?_;intros;have D:=zrt (E:=g.E) (b:=g.E.length) (p:=k)
 refine zf (λs:Nat×Nat=>([(3,za (treeL g.E)),(4,zR (reachL g.E)),(5,.own 0 0 s.2 0 (bk2 g.E k s.1).length),(6,.int .i64 k),(15,encNN (zm2 g.E)),(16,.int .i64 g.blocks.length),(17,.int .i64 k),(27,zc (nx1 g.E g.E.length k)),(28,.int .i64 (nx1 g.E g.E.length k).length),(29,.int .i64 s.1)],[(0,.row 2 ((bk2 g.E k s.1).map cP) s.2)])) 1
  (λs=>s.1<=(nx1 g.E g.E.length k).length) (λs=>(nx1 g.E g.E.length k).length-s.1) (0,γ) (Wa _) (Xa [(0,0,0)] [] rfl (Gin2_2 @ud @zCV) (Gin2_2 @ud @zCV)) ?_
 rintro⟨i,n⟩ hi wf;simp only at hi;refine dcU zhP.eq_1 ?_;by_cases o:i<(nx1 g.E g.E.length k).length
 case neg=>
  obtain rfl:i=(nx1 g.E g.E.length k).length:=by omega
  refine Gw1 @dF ?_;intros;refine dcU zeU.eq_1 ?_;refine Gw0 ?_;intros;exact⟨(k+1,n),by simp only;omega,by simp only;omega,by rw[<-zMq e];exact(Xa [(0,0,0)] [] rfl (Gin2_1 @ud) (Gin2_1 @ud))⟩
 have d:=zKM (E:=g.E) (a:=k) (i:=i) o;have C:=zMI (E:=g.E) (a:=k) (i:=i) (by omega) (by omega);have hd:=y ((nx1 g.E g.E.length k)[i]:Nat) k;refine Gw3 @dT @ue (gmp o) ?_;intros;generalize (nx1 g.E g.E.length k)[i]=p at d hd⊢;refine zd (ze hd rfl) ?_
 cases w:domL (treeL g.E) p k with
 |true=>rw[if_pos (show isBk g.E k p=true from w)]at d;refine Gw0 ?_;intros;exact⟨(i+1,n+1),by simp only;omega,by simp only;omega,by rw[d];exact(Xa [(0,0,0)] [] rfl (Gin2_8 @ud @m9A @m9P @ui @ug @m9C @m9N @cP.eq_1) (Gin2_8 @ud @m9A @m9P @ui @ug @m9C @m9N @cP.eq_1))⟩
 |false=>rw[if_neg (show ¬isBk g.E k p=true by unfold isBk;rw[w];decide),Wd]at d;refine Gw0 ?_;intros;exact⟨(i+1,n),by simp only;omega,by simp only;omega,by rw[d];exact(Xa [(0,0,0)] [] rfl (Gin2_1 @ud) (Gin2_1 @ud))⟩
end Go.Ab.Dm
namespace Go.Ab
open Go.RowKit Go.Proofs Go.Sort Go.Shelf
theorem zGi{α:Type}[Inhabited α]{w:World}{b j off:Nat}{k:α->Value}{d:Array α}(h:FzOk w b):FzOk (putRow k w j off d) b:=by
 intro c e u s g;unfold putRow mapBlock at g;simp only[WS]at g;by_cases p:j=b
 .subst p;rw[if_pos rfl]at g
  cases n:w.heap[j]? with
  |none=>rw[n]at g;cases g
  |some o=>
   rw[n]at g
   cases o with
   |cells c0 q f0=>
    obtain⟨v,t⟩:=f0;simp only[Option.map_some,onCells,Option.some.injEq,Obj.cells.injEq,Prod.mk.injEq]at g;obtain⟨rfl,rfl,rfl,rfl⟩:=g;rcases h c0 q _ _ n with m|m
    .exact .inl m
    .exact .inr (by unfold putCells;simpa using m)
   |_=>simp[onCells]at g
 .rw[if_neg p]at g;exact h c e u s g
section
variable {w:World}{L:Nat->Prop}{ι:Inj}{H:AH}{nx:Nat}
theorem zys{r q g:Nat}{zs:List Int}(F:H.get r q=some (.row 1 (zs.map λn=>[.int .i64 n]) g))(hlen:zs.length<=1000000):
  z7 Z9 zdl [.own r q g 0 zs.length] H nx (λv H' nx'=>(v,H',nx')=(.tup [],H.set r q (.row 1 ((zj5 zs).map λn=>[.int .i64 n]) g),nx)):=by
 intro w L ι vs rel hv
 obtain⟨mv,hvs,hmv⟩:∃mv,vs=#[mv]/\VR w (Lt L ι H) ι mv (.own r q g 0 zs.length):=by
  rcases vs with ⟨l⟩
  cases hv with
  |cons s t=>cases t;exact⟨_,rfl,s⟩
 subst hvs;have C:(zj5 zs).length=zs.length:=(zdL zs).length_eq
 cases hmv with
 |own _ _ _ _ _ _ a c l J d hn hc N=>
  obtain⟨l',S,ok⟩:=rel.row _ _ _ _ _ F;rw[J]at S;cases S;have y:∀l0,ι r q g=some l0->l0=l:=λl0 V=>by rw[J]at V;cases V;rfl
  have U:l.sz=1:=ok.hsz;have nil:∀{M:Nat->Prop}{ι':Inj}{A:World},VR A M ι' (.tuple #[]) (.tup []):=.tup _ _ _ rfl (λi v a h=>by simp at h);rcases Nat.eq_zero_or_pos zs.length with V|o
  .obtain rfl:zs=[]:=Wm V;refine(AnyM.slices_Sort_int_none zxv a c w).mono λe A ⟨he,p⟩=>?_
   subst p;have X:Chg A ι H r q g l A:=⟨rfl,rfl,rfl,We _,λ_ _ _=>rfl,λo=>.inl ⟨1,_,g,l,F,J,o,rfl⟩,y,λY l2 t=>rel.gen r q _ _ _ F Y l2 t⟩;refine⟨_,_,_,_,_,he,X.step (.inl ⟨_,_,F⟩) rel (rel.idx _ _ _ _ J) (We _) (.mk' ok.hsz (ok.plain d).len d (ok.plain d).there (ok.plain d).fz (λi c h=>by simp[zj5]at h) (λi c' j a s t=>by simp[zj5]at s)),We _,nil,rfl⟩
  .obtain rfl:=N (by omega);have T:l.off+0*l.sz=l.off:=by omega
   rw[T];have u:0<l.cap*l.sz:=by rw[U];omega
   have m:=ok.blk_lt u;have D:∀{W:List Int}{j:Nat},j<W.length->(W.toArray)[j]! = W.getD j 0:=λ{W j} h=>by simp[h,List.getD]
   have P:∀j,j<zs.length->w.cell? ⟨l.block,l.off+j,none⟩=some (.int .i64 (zs.getD j 0))/\InR .i64 (zs.getD j 0):=by
    intro j K;have e:zs.getD j 0=zs[j]:=by simp[List.getD,K]
    obtain⟨v,s,_,t⟩:=ok.holds d j [.int .i64 zs[j]] 0 (.int .i64 zs[j]) (by rw[Wv,Wq K];rfl) rfl
    cases t with
    |int _ _ _ h3=>rw[e];simp only[Xl,Xm]at s;exact⟨s,h3⟩
   have hH:Holds (Value.int .i64) w l.block l.off zs.toArray:=λj K=>by
    have Q:j<zs.length:=by simpa using K
    rw[D Q];exact⟨(P j Q).1,((ok.plain d).there j (by have:=(ok.plain d).len;simp only[Wi]at this;omega)).2⟩
   refine(AnyM.slices_Sort_int zxv l.block l.off c zs w hH m (by omega)).mono λe A ⟨he,n,os,p⟩=>?_
   rw[znQ (List.Perm.refl zs)]at p;have x:∀j,j<zs.length->A.cell? ⟨l.block,l.off+j,none⟩=some (.int .i64 ((zj5 zs).getD j 0)):=λj K=>by rw[p,cell?_grow _ _ _ (by simpa using m),putRow_ahead,cell?_ahead,cell?_putRow _ _ _ _ zs.toArray _ hH (by simpa using C) j (by simpa [C]using K),D (by omega)]
   have B:∀a:Addr,a.block<w.heap.size->(a.block≠l.block\/a.off<l.off\/l.off+zs.length<=a.off)->A.cell? a=w.cell? a:=λa N hx=>by rw[p,cell?_grow _ _ _ (by simpa using N),putRow_ahead,cell?_ahead,cell?_putRow_other _ _ _ _ _ _ (by simpa [C]using hx)]
   have O:∀a:Addr,a.block<w.heap.size->A.frozen? a=w.frozen? a:=λa N=>by rw[p,frozen?_grow _ _ _ (by simpa using N),putRow_ahead,frozen?_ahead,frozen?_putRow]
   have I:∀b,b<w.heap.size->b≠l.block->A.heap[b]?=w.heap[b]? := λb Z hne=>by rw[p,heap_grow_old _ _ (by simpa using Z)];simp only[putRow,mapBlock,heap_ahead,WS];rw[if_neg (Ne.symm hne)]
   have X:Chg w ι H r q g l A:=⟨by rw[p];rfl,by rw[p];rfl,by rw[p];rfl,by rw[p];simp,λb Z hn=>I b Z (λhbe=>hn ⟨1,_,g,l,F,J,u,hbe.symm⟩),λo=>.inl ⟨1,_,g,l,F,J,o,rfl⟩,y,λY l2 t=>rel.gen r q _ _ _ F Y l2 t⟩;have hfz:FzOk A l.block:=by have s:FzOk (putRow (Value.int .i64) (Sort.ahead w n) l.block l.off (zj5 zs).toArray) l.block:=zGi (((ok.plain d).fz (by rw[<-U];exact u)).of_heap rfl);rw[p];exact s.of_heap (heap_grow_old _ _ (by simpa using m))
   refine⟨_,_,_,_,_,he,X.step (.inl ⟨_,_,F⟩) rel (rel.idx _ _ _ _ J) (We _) (.mk' ok.hsz (by have:=(ok.plain d).len;simp only[Wi]at this⊢;omega) d (λk R=>?_) (λ_=>hfz) (λi c h=>?_) (λi c' j a s t=>?_)),We _,nil,rfl⟩
   .rw[O _ m];refine⟨?_,((ok.plain d).there k R).2⟩;by_cases hk2:k<zs.length
    .rw[x k hk2];rfl
    .rw[B _ m (.inr (.inr (by simp only;omega)))];exact((ok.plain d).there k R).1
   .rw[Wv]at h;obtain⟨z,_,rfl⟩:=WU.1 h;rfl
   .rw[Wv]at s;obtain⟨z,hz,rfl⟩:=WU.1 s
    match j with
    |0=>
     cases t;have hi:i<zs.length:=by rw[<-C];exact(List.getElem?_eq_some_iff.1 hz).1
     refine⟨.int .i64 z,?_,rfl,.int _ _ _ ?_⟩
     .simp only[Xl,Xm];rw[x i hi,Wg,hz];rfl
     .obtain⟨k,R,hke⟩:=Ww.1 ((zdL zs).mem_iff.1 (List.mem_of_getElem? hz));have:=(P k R).2;simp only[List.getD,Wq R,Option.getD_some]at this;rw[hke]at this;exact this
    |j+1=>cases t
end
end Go.Ab
namespace Go.Ab
open Go.RowKit Go.Proofs Go.Ab.Dm
def ziF(l:List Int)(j:Nat):Bool:=j == 0||(l.getD j 0 != l.getD (j-1) 0)
def zbS(l:List Int)(n:Nat):List Int:=(filR (ziF l) n).map (λj=>l.getD j 0)
def zcg(l:List Int):List Int:=zbS l l.length
theorem zwb{l}{n}:(zbS l n).length<=n:=by unfold zbS;rw[Wi];exact filR_le
theorem zvX{l}{j}(b:j<l.length)(h:ziF l j=true):zbS l (j+1)=zbS l j++[l[j]]:=by unfold zbS;rw[filR_pos h,Wh];simp[Wg,b]
theorem zzf{l}{j}(h:ziF l j=false):zbS l (j+1)=zbS l j:=by unfold zbS;rw[filR_neg h]
theorem zrA{l}{n}(c:n<=l.length)(h:∀j,j<n->ziF l j=true):zbS l n=l.take n:=by
 induction n with
 |zero=>rfl
 |succ n ih=>rw[zvX (by omega) (h n (by omega)),ih (by omega) (λj b=>h j (by omega)),List.take_add_one,Wq (by omega)];rfl
theorem zlC{l}{j}(c:1<=j)(b:j<l.length):ziF l j=(l[j] != l[j-1]):=by unfold ziF;rw[Wg,Wg,Wq b,Wq (show j-1<l.length by omega)];simp;omega
def curI(K l:List Int):List Int:=K++l.drop K.length
theorem zCU{K l}(h:K.length<=l.length):(curI K l).length=l.length:=by simp[curI];omega
theorem zJz{K l}{j}(h:K.length<=j)(b:j<l.length):(curI K l)[j]?=some l[j]:=by unfold curI;rw[WV h,List.getElem?_drop,show K.length+(j-K.length)=j by omega,Wq b]
theorem zxZ{K l}{j}(h:K.length<=j)(b:j<l.length):((curI K l).map cI).getD j []=[.int .i64 l[j]]:=by simp[Wg,zJz h b]
theorem zLz{K l}{v}(h:K.length<l.length):(curI K l).set K.length v=curI (K++[v]) l:=by unfold curI;rw[List.set_append_right _ _ (We _),Nat.sub_self,Wk h,List.set_cons_zero];simp
theorem zIC{K l}{v}(h:K.length<l.length):((curI K l).map cI).set K.length [.int .i64 v]=(curI (K++[v]) l).map cI:=by rw[<-zLz h,WA]
theorem zFM{l}{n}(h:n<=l.length):curI (l.take n) l=l:=by unfold curI;rw[Wt,Nat.min_eq_left h,List.take_append_drop]
theorem zlN(l)(g)(Z:l.length<=100000000000):
  z7 Z9 zW [.own 0 0 g 0 l.length] [(0,.row 1 (l.map cI) g)] 1
   (λv H nx=>∃m,v=.own 0 0 g 0 (zcg l).length/\H=[(0,.row 1 ((zcg l++m).map cI) g)]/\nx=1):=by
 refine zaK (fn_x zft rfl ?_);refine dcU zdn.eq_1 ?_;have Y:=hBig;have s:∀K m,(∀j,j<l.length->ziF l j=true)->K=(4,AV.undef)->m=0->zcg l=l:=λK m h _ _=>by unfold zcg;rw[zrA (We _) h,Ws]
 refine Gw0 ?_;intros;(refine zi (λh=>?_) (λh=>?_))<;>(try simp only[dcd]at h)
 ·(refine Gw1 @zaw.eq_1 ?_;intros)
  have b:∀j,j<l.length->ziF l j=true:=λj S=>by
   have:j=0:=by omega
   subst this;rfl
  have e:=s (4,.undef) 0 b rfl rfl;refine⟨.own 0 0 g 0 l.length,[(0,.row 1 ((l++[]).map cI) g)],1,?_,[],by rw[e],by rw[e],rfl⟩;rw[Wd];exact(Xh [(0,0,0)] [] rfl rfl rfl Qk Qk)
 refine Gw0 ?_;intros;refine zf (λi:Nat=>([(0,.own 0 0 g 0 l.length),(3,.int .i64 i)],[(0,.row 1 (l.map cI) g)])) 1 (λi=>1<=i/\i<=l.length/\∀j,j<i->ziF l j=true) (λi=>l.length-i) 1 ⟨by omega,by omega,λj S=>(by rw[show j=0 by omega];rfl)⟩ (Xh [(0,0,0)] [] rfl rfl rfl Qk Qk) ?_;intro i ⟨x,W,b⟩ wf;refine dcU zcD.eq_1 ?_;refine Gw0 ?_;intros;(refine zi (λO=>?_) (λO=>?_))<;>(try simp only[dcd]at O)
 .have n:i<l.length:=by omega
  have y:i-1<l.length:=by omega
  have T:((i:Int)-1).toNat=i-1:=by omega
  refine Gw3 (gmp n) T (gmp y) ?_;intros;(refine zi (λP=>?_) (λP=>?_))<;>(try simp only[dcd]at P)
  .have o:ziF l i=false:=by rw[zlC x n];simp;omega
   have I:zbS l i=l.take i:=zrA (by omega) b;have z:zbS l (i+1)=l.take i:=by rw[zzf o,I]
   have k:(zbS l (i+1)).length=i:=by rw[z,Wt];omega
   have c:curI (zbS l (i+1)) l=l:=by rw[z,zFM (by omega)]
   have B:((l.length:Int)-i).toNat=l.length-i:=by omega
   refine Gw1 B ?_;intros
   refine zf (λa:Nat=>([(0,.own 0 0 g 0 l.length),(3,.int .i64 (zbS l (i+a)).length),(4,.own 0 0 g i (l.length-i)),(5,.int .i64 a)],[(0,.row 1 ((curI (zbS l (i+a)) l).map cI) g)])) 1
    (λa=>1<=a/\i+a<=l.length/\(zbS l (i+a)).length<i+a) (λa=>l.length-(i+a)) 1 ⟨by omega,by omega,by omega⟩ (Xh [(0,0,0)] [] rfl rfl rfl (Gin2_2 c k) (Gin2_2 c k)) ?_
   intro a ⟨U,V,C⟩ wf;refine dcU zcv.eq_1 ?_;refine Gw0 ?_;intros;(refine zi (λQ=>?_) (λQ=>?_))<;>(try simp only[dcd]at Q)
   .have d:i+a<l.length:=by omega
    have t:i+a-1<l.length:=by omega
    have L:i+((a:Int)-1).toNat=i+a-1:=by omega
    have M:=zxZ (K:=zbS l (i+a)) (l:=l) (by omega) d;have N:=zxZ (K:=zbS l (i+a)) (l:=l) (by omega) t;have u:=zCU (K:=zbS l (i+a)) (l:=l) (by omega);refine Gw3 L M N ?_;intros;(refine zi (λR=>?_) (λR=>?_))<;>(try simp only[dcd]at R)
    .have J:ziF l (i+a)=true:=by rw[zlC (by omega) d];simp;omega
     have q:=zvX d J;have A:=zIC (K:=zbS l (i+a)) (l:=l) (v:=l[i+a]) (by omega);rw[<-q]at A;have p:(zbS l (i+a+1)).length=(zbS l (i+a)).length+1:=by rw[q];simp
     refine Gw4 L M N A ?_;intros;exact⟨a+1,⟨by omega,by omega,by rw[show i+(a+1)=i+a+1 by omega,p];omega⟩,by omega,(Xh [(0,0,0)] [] rfl rfl rfl (Gin2_2 (show i+(a+1)=i+a+1 by omega) p) (Gin2_2 (show i+(a+1)=i+a+1 by omega) p))⟩
    .have J:ziF l (i+a)=false:=by rw[zlC (by omega) d];simp;omega
     have q:=zzf J;refine Gw0 ?_;intros;exact⟨a+1,⟨by omega,by omega,by rw[show i+(a+1)=i+a+1 by omega,q];omega⟩,by omega,(Xh [(0,0,0)] [] rfl rfl rfl (Gin2_2 (show i+(a+1)=i+a+1 by omega) q) (Gin2_2 (show i+(a+1)=i+a+1 by omega) q))⟩
   .have D:i+a=l.length:=by omega
    rw[D]at C⊢;have X:((l.length:Int)-(zbS l l.length).length).toNat=l.length-(zbS l l.length).length:=by omega
    have u:=zCU (K:=zbS l l.length) (l:=l) (by omega);have w:((curI (zbS l l.length) l).map cI).take (zbS l l.length).length++WH (l.length-(zbS l l.length).length) [AV.int .i64 0]++((curI (zbS l l.length) l).map cI).drop ((zbS l l.length).length+(l.length-(zbS l l.length).length))=(zbS l l.length++WH (l.length-(zbS l l.length).length) 0).map cI:=by rw[Wf (by rw[Wi,u];omega),Wd,<-List.map_take,Wh,List.map_replicate];congr 2;unfold curI;rw[List.take_append_of_le_length (We _),Ws]
    refine dcU zcC.eq_1 ?_;refine Gw3 @zaw.eq_1 X w ?_;intros;refine⟨.own 0 0 g 0 (zcg l).length,[(0,.row 1 ((zcg l++WH (l.length-(zbS l l.length).length) 0).map cI) g)],1,?_,_,rfl,rfl,rfl⟩;exact(Xh [(0,0,0)] [] rfl rfl rfl (Gin2_1 @zcg.eq_1) (Gin2_1 @zcg.eq_1))
  .have o:ziF l i=true:=by rw[zlC x n];simp;omega
   refine dcU zcu.eq_1 ?_;refine Gw0 ?_;intros;refine⟨i+1,⟨by omega,by omega,λj S=>?_⟩,by omega,(Xh [(0,0,0)] [] rfl rfl rfl Qk Qk)⟩;by_cases F:j=i
   .subst F;exact o
   .exact b j (by omega)
 .obtain rfl:i=l.length:=by omega
  unfold zcx;have e:=s (4,.undef) 0 b rfl rfl;refine Gw1 @zaw.eq_1 ?_;intros;refine⟨.own 0 0 g 0 l.length,[(0,.row 1 ((l++[]).map cI) g)],1,?_,[],by rw[e],by rw[e],rfl⟩;rw[Wd];exact(Xh [(0,0,0)] [] rfl rfl rfl Qk Qk)
theorem zGY{p}:∀{n j:Nat},j<n->p j=false->(filR p n).length<n
 |
  n+1,j,hj,hp=>by
  by_cases h:j=n
  .subst h;rw[filR_neg hp];have:=filR_le (p:=p) (n:=j);omega
  .have c:=zGY (n:=n) (by omega) hp
   cases b:p n with
   |true=>rw[filR_pos b,Wj,Wx];omega
   |false=>rw[filR_neg b];omega
theorem zvp{l}(k:l.Pairwise (·<=·)):(zcg l).length<l.length↔¬l.Nodup:=by
 constructor
 .intro h g
  have:zcg l=l:=by
   unfold zcg;rw[zrA (We _) (λj b=>?_),Ws];by_cases n:j=0
   .subst n;rfl
   .rw[zlC (by omega) b];have:=WW.1 g;rw[WI]at this;have:=this (j-1) j (by omega) b (by omega);simp only[bne_iff_ne,ne_eq];exact λe=>this e.symm
  rw[this]at h;omega
 .intro g;unfold zcg zbS;rw[Wi]
  have:∃j,j<l.length/\ziF l j=false:=by
   refine Classical.byContradiction λo=>g ?_
   have c:∀j,j<l.length->ziF l j=true:=λj b=>by
    cases s:ziF l j with
    |true=>rfl
    |false=>exact absurd ⟨j,b,s⟩ o
   rw[WW,WI];intro i j p b q e;have d:=c (i+1) (by omega);rw[zlC (by omega) (by omega)]at d;simp only[WX,bne_iff_ne,ne_eq]at d;rw[WI]at k;have u:=k i (i+1) p (by omega) (by omega);rcases Nat.lt_or_ge (i+1) j with m|m
   .have:=k (i+1) j (by omega) b m;omega
   .obtain rfl:j=i+1:=by omega
    exact d e.symm
  obtain⟨j,b,t⟩:=this;exact zGY b t
theorem zuQ(l):decide ((zcg (zj5 l)).length<(zj5 l).length) = !decide l.Nodup:=by
 have h:=zvp (zkB l);have d:=(zdL l).nodup_iff;by_cases b:l.Nodup
 .rw[decide_eq_true b,decide_eq_false (λc=>h.1 c (d.2 b))];rfl
 .rw[decide_eq_false b,decide_eq_true (h.2 (λc=>b (d.1 c)))];rfl
theorem ztI{len b r q g j f:Nat}{k:IntKind}{i:Int}{H:AH}{nx:Nat}:xopR (.aaddr len b) [.ptr r q g j f,.int k i] H nx=⟨0<=i/\i<len,True,.ptr r q g j (f+i.toNat*b),H,nx⟩:=rfl
theorem ad0:Int.toNat 0=0:=rfl
theorem ad1:Int.toNat 1=1:=rfl
def keyP(S:List Nat):List (Int×Int):=S.zipIdx.map λp=>((p.1:Int),(p.2:Int))
theorem zxr{S:List Nat}:(keyP S).map (·.1)=zif S:=by
 unfold keyP zif;rw[WB];conv=>rhs;rw[<-List.zipIdx_map_fst 0 S,WB]
 rfl
theorem zym{S:List Nat}{x:Nat}:keyP (S++[x])=keyP S++[((x:Int),(S.length:Int))]:=by unfold keyP;rw[List.zipIdx_append,Wh];simp
theorem zCA{S:List Nat}:(keyP S).length=S.length:=by simp[keyP]
theorem zDh{S:List Nat}:(keyP S).map (·.2)=(Wr S.length).map λ(i:Nat)=>(i:Int):=by unfold keyP;rw[WB,List.range_eq_range',<-List.zipIdx_map_snd 0 S,WB];rfl
theorem zM5{S:List Nat}:∀p∈keyP S,p.2<(S.length:Int):=λp c=>by have:p.2∈(keyP S).map (·.2):=Wy.2 ⟨p,c,rfl⟩;rw[zDh]at this;obtain⟨i,b,e⟩:=Wy.1 this;have:=List.mem_range.1 b;omega
theorem zIY{S:List Nat}:((keyP S).map (·.2)).Nodup:=by rw[zDh];exact zrH List.nodup_range
theorem zDC:∀ {b:List (Int×Int)},entI ((enL b).map cm)=some b
 |[]=>rfl
 |
  p::b=>by
  show(match entI ((enL b).map cm)with|some l=>some ((p.1,p.2)::l)|none=>none)=_;rw[zDC]
theorem zCD{S:List Nat}{x:Nat}:(x:Int)∈(keyP S).map (·.1)↔x∈S:=by rw[zxr,zH7]
def stS(S:List Nat):List MC:=setM S.length (keyP S)
theorem znN{S:List Nat}:(stS S).map cm=[.int .i64 (S.length:Int),.undef,.undef]::(enL (keyP S)).map cm:=rfl
theorem zKx{S:List Nat}{x:Nat}:(stS (S++[x])).map cm=[.int .i64 ((S.length:Int)+1),.undef,.undef]::((enL (keyP S)).map cm++[[.int .i64 (x:Int),.bool true,.int .i64 (S.length:Int)]]):=by rw[znN,zym,Wj,Wx];unfold enL;rw[Wh,Wh];rfl
theorem zqV{S:List Nat}{n:Nat}(b:S.Nodup)(h:∀x∈S,x<n):S.length<=n:=by
 have:=Dm.nodup_sub_len b (m:=Wr n) (λx c=>List.mem_range.2 (h x c))
 rwa [WY]at this
def mB(E:Adj)(S R:List Nat):Nat:=zFS (λx=>(suc (predL E) x).length+1) E.length S+R.length
theorem Qp{p:Prop}(h:p:=by(try simp only[evWB,Nat.reduceBEq,Nat.reduceAdd,Nat.reduceSub,Nat.reduceLeDiff,Nat.reduceLT,implies_true,encNN,List.append_nil])<;>exact fin6):p:=h
theorem Qq{p:Prop}(h:p:=by(try simp only[evWB,Nat.reduceBEq,Nat.reduceAdd,Nat.reduceSub,Nat.reduceLeDiff,Nat.reduceLT,implies_true,encNN,znN,List.append_assoc,List.singleton_append])<;>exact fin6):p:=h
theorem Qr{p:Prop}(h:p:=by(try simp only[evWB,Nat.reduceBEq,Nat.reduceAdd,Nat.reduceSub,Nat.reduceLeDiff,Nat.reduceLT,implies_true,encNN,znN,zR,List.append_assoc,List.singleton_append])<;>exact fin6):p:=h
theorem ut:type_of% @zjk.eq_1:=@zjk.eq_1
theorem uk:type_of% @zR.eq_1:=@zR.eq_1
theorem zxF(g:Gr)(hg:g.small){last:Nat->St}(Q:EdgeOk g.E last)(b:Nat)(hb:b<g.blocks.length):zo Z9 zkf [.agg g.cells,.int .i64 b,zjk (zhW g.E)] (·=zc (zgl g.E b)):=by
 refine fn_x zw3 rfl ?_;refine dcU zqf.eq_1 ?_;have hB:=hBig;have F:=g.E_len;have hn:=hg.1;have hP:=zfw g hg;have hR:=dominator_Reachable_ok g hg;have hpl:(predL g.E).length=g.blocks.length:=by rw[zyl,F]
 have X:(reachL g.E).length=g.blocks.length:=by simp[reachL,F]
 have hbl:(zhW g.E).length<=1000000:=by have h1:=zBf (E:=g.E) (a:=g.E.length);have h2:g.E.length*g.E.length<=1000*1000:=WG (by omega) (by omega);unfold zhW;omega
 have hf0:∀k:Int,zfp (.int .i64 k) [] 0=some none:=λ_=>rfl
 refine Gw3 @uh @uo hf0 ?_;intros;refine zd (ze hP rfl) ?_;refine Gw2 @uh @uo ?_;intros;refine zd (ze hR rfl) ?_;have Y:(stS [b]).map cm=[[.int .i64 1,.undef,.undef],[.int .i64 (b:Int),.bool true,.int .i64 0]]:=rfl;have hmz:∀l:List (Nat×Nat),(l.map cP).length=l.length:=λl=>Wi _
 refine Gw1 @ut ?_;intros
 refine zf (λs:Nat×Nat=>([(1,.int .i64 b),(7,.mp 0 0),(8,encNN (predL g.E)),(9,zR (reachL g.E)),(10,.own 1 0 s.2 0 (srcL g.E b ((zhW g.E).take s.1)).length),(22,zjk (zhW g.E)),(23,.int .i64 (zhW g.E).length),(24,.int .i64 s.1)],[(0,.row 3 ((stS [b]).map cm) 0),(1,.row 1 ((srcL g.E b ((zhW g.E).take s.1)).map cN) s.2)])) 2
  (λs=>s.1<=(zhW g.E).length) (λs=>(zhW g.E).length-s.1) (0,0) (Wa _) ?start ?_
 case start=>exact(Xa [(0,1,0),(1,2,0)] [] rfl (by(try simp only[evWB,Xe,Xf,Xi,Xg,Xj,implies_true,encNN,zjk,Y,Wz,srcL])<;>exact fin6) (by(try simp only[evWB,Xe,Xf,Xi,Xg,Xj,implies_true,encNN,zjk,Y,Wz,srcL])<;>exact fin6))
 rintro⟨i,γ⟩ hi wf;simp only at hi;clear wf;refine dcU zmJ.eq_1 ?_;by_cases W:i<(zhW g.E).length
 case pos=>
  have Z:=zCt (E:=g.E) (b:=b) (l:=(zhW g.E).take i);rw[Wt]at Z;have o:=zF5 (E:=g.E) (b:=b) W;have U:=zg (f:=cP) (d:=[]) W;generalize (zhW g.E)[i]=e at o U;obtain⟨x,y⟩:=e;simp only at o;have hcp:cP (x,y)=[.int .i64 (x:Int),.int .i64 (y:Int)]:=rfl;refine Gw7 @dT @ut U hcp @ztI @ad0 @ad1 ?_;intros;by_cases hy:y=b
  .rw[if_pos hy]at o;have hyi:(y:Int)=(b:Int):=by omega
   refine Gw4 @dT @ztI @ad0 @ad1 ?_;intros;exact⟨(i+1,γ+1),by simp only;omega,by simp only;omega,by rw[o];exact(Xa [(0,0,0),(1,1,0)] [] rfl (Gin6_8 @ud @ut @m9A @m9P @ui @ug @m9C @m9N) (Gin6_8 @ud @ut @m9A @m9P @ui @ug @m9C @m9N))⟩
  .rw[if_neg hy,Wd]at o;have hyi:¬(y:Int)=(b:Int):=by omega
   refine Gw1 @dF ?_;intros;exact⟨(i+1,γ),by simp only;omega,by simp only;omega,by rw[o];exact(Xa [(0,0,0),(1,1,0)] [] rfl (Gin6_2 @ud @ut) (Gin6_2 @ud @ut))⟩
 obtain rfl:i=(zhW g.E).length:=by omega
 rw[Ws];have Z:=zCt (E:=g.E) (b:=b) (l:=zhW g.E);have hB0:BodyI g.E b [b] (srcL g.E b (zhW g.E)):=BodyI.start Q λp=>zJb Q
 refine Gw1 @dF ?_;intros;unfold zmH;refine Gw0 ?_;intros
 refine zf (λs:List Nat×List Nat×List Nat×Nat=>([(7,.mp 0 0),(8,encNN (predL g.E)),(9,zR (reachL g.E)),(10,.own 1 0 s.2.2.2 0 s.2.1.length)],[(0,.row 3 ((stS s.1).map cm) 0),(1,.row 1 ((s.2.1++s.2.2.1).map cN) s.2.2.2)])) 2
  (λs=>BodyI g.E b s.1 s.2.1/\mB g.E s.1 s.2.1<=3000000) (λs=>mB g.E s.1 s.2.1) ([b],srcL g.E b (zhW g.E),[],γ) ⟨hB0,?bound⟩ ?start2 ?_
 case bound=>
  simp only[mB,zFS]
  have h1:∀l:List Nat,(l.map λx=>(suc (predL g.E) x).length+1).sum<=l.length*1001:=λl=>by
   induction l with
   |nil=>simp
   |cons a l ih=>rw[List.map_cons,List.sum_cons,WJ];have:=zwQ (E:=g.E) (b:=a);omega
  have h2:=h1 ((Wr g.E.length).filter λx=>decide (x∉[b]));have h3:=WK (λx=>decide (x∉[b])) (Wr g.E.length);rw[WY]at h3;omega
 case start2=>exact(Xa [(0,0,0),(1,1,0)] [] rfl Qp Qp)
 rintro⟨S,R,J,O⟩ ⟨A,hM⟩ wf;simp only at A hM;clear wf;refine dcU zmK.eq_1 ?_
 have hSl:S.length<=g.blocks.length:=zqV A.nd λx hx=>by
  have:=A.inl x hx;rcases this with rfl|⟨_,_,_,_,h,_⟩
  .exact hb
  .have:=zen Q h;omega
 by_cases T:0<R.length
 case neg=>
  obtain rfl:R=[]:=Wm (by omega);have D:=zBg Q (b:=b) (by omega) A.nd λx=>A.done Q
  refine Gw1 @dF ?_;intros;refine dcU zmx.eq_1 ?_;refine Gw0 ?_;intros;refine zad (zy4 0) ?_;intro v H' n' hv;cases hv;refine Gw0 ?_;intros;refine zad (zuJ (rb:=2) (r:=0) (c:=(S.length:Int)) (u:=.undef) (u':=.undef) (es:=(enL (keyP S)).map cm) (ps:=keyP S) rfl rfl zDC (by rw[zxr];exact zrH A.nd) zIY zM5 (by rw[zCA];omega)) ?_;intro v H' n' hv;cases hv;rw[zxr,D];have hl2:(keyP S).length=(zgl g.E b).length:=by rw[zCA,<-zk7 (l:=S),<-zk7 (l:=zgl g.E b),<-D,(zdL _).length_eq]
  rw[hl2];have hbo:=zp5 (E:=g.E) (b:=b);refine Gw1 @zqD.eq_1 ?_;intros;have q:zc (zgl g.E b)=za (zif (zgl g.E b)):=(zh2 _).symm;rw[q,<-zk7];exact⟨_,zb3 (l:=zif (zgl g.E b)) trivial rfl (by rw[zk7];omega),rfl⟩
 obtain⟨r,x,rfl⟩:∃r x,R=r++[x]:=⟨R.dropLast,R.getLast (by intro h;rw[h]at T;simp at T),(List.dropLast_concat_getLast _).symm⟩;have m:(r++[x]).length=r.length+1:=by simp
 have w:(((r.length+1:Nat):Int)-1).toNat=r.length:=by omega
 have M:((((r.length+1:Nat):Int))-1-0).toNat=r.length:=by omega
 have t:(List.map cN (r++[x]++J)).getD r.length []=[.int .i64 (x:Int)]:=by rw[Wl,Wh,Wg,WV (by simp)];simp
 have L:(r++[x]++J).length=r.length+1+J.length:=by simp;omega
 have hxl:x<g.blocks.length:=by have:=A.lt x (by simp);omega
 have hmB:mB g.E S (r++[x])=mB g.E S r+1:=by simp[mB];omega
 have hrM:r.length<=mB g.E S r:=by unfold mB;omega
 have B:=zx2 g.E_ok (a:=x) (by omega);have htk:List.take r.length (List.map cN (r++[x]++J))=List.map cN r:=by rw[Wl,Wh,List.take_left' (by simp)]
 have hx2:x<(predL g.E).length:=by omega
 have hsu:=zyU hx2;have V:=zg (f:=λr=>[zc r]) (d:=[]) hx2;rw[<-hsu]at V;by_cases z:x∈S
 .obtain⟨j,hj,hje,hf⟩:=zuP (zCD.2 z);refine Gw8 @dT w t L m @znN hf M ?_;intros;refine⟨(S,r,x::J,O),⟨A.skip (.inl z),by simp only;omega⟩,by simp only;omega,?_⟩;simp only[Wl,WC];exact(Xa [(0,0,0),(1,1,0)] [] rfl Qq Qq)
 have hf:=zrD (λh=>z (zCD.1 h));by_cases C:x∈ordE g.E;case neg=>rw[decide_eq_false C]at B;refine Gw11 @dT w t L m @znN hf M @uk B X ?_;intros;refine⟨(S,r,x::J,O),⟨A.skip (.inr C),by simp only;omega⟩,by simp only;omega,?_⟩;simp only[Wl,WC];exact(Xa [(0,0,0),(1,1,0)] [] rfl Qr Qr)
 rw[decide_eq_true C]at B;have hS':=zKx (S:=S) (x:=x);have hlw:=zE6 (f:=λx=>(suc (predL g.E) x).length+1) (n:=g.E.length) z (by omega);have hpn:(suc (predL g.E) x).length<=g.E.length:=zwQ;have hT:=A.take (l:=suc (predL g.E) x) (λy=>mem_predL (by omega)) Q z C;have hM2:mB g.E (S++[x]) (r++suc (predL g.E) x)+1<mB g.E S (r++[x])+1:=by unfold mB;rw[Wj,Wj,hlw];simp only[Wx];omega
 refine Gw14 @dT w t L m @znN hf M @uk B X @ud V hpl ?_;intros;have hel:∀(l:List Nat) H,zdx 1 (encL 1 (λ(n:Nat)=>[AV.int .i64 (n:Int)]) l) H=some (l.map cN):=λl H=>zcI (λ_ _=>rfl)
 have I:(r++suc (predL g.E) x).map cN=r.map cN++(suc (predL g.E) x).map cN:=Wh;have K:(r++suc (predL g.E) x).length=r.length+(suc (predL g.E) x).length:=Wj;generalize suc (predL g.E) x=P at *;refine Gw5 @ue hel @ad0 @Nat.zero_add htk ?_;intros;have q:(enL (keyP (S++[x]))).map cm=(enL (keyP S)).map cm++[[.int .i64 (x:Int),.bool true,.int .i64 (S.length:Int)]]:=by rw[zym];unfold enL;rw[Wh,Wh];rfl
 have N:((S++[x]).length:Int)=(S.length:Int)+1:=by rw[Wj,Wx];rfl
 refine⟨(S++[x],r++P,[],O+1),⟨hT,by simp only;omega⟩,by simp only;omega,?_⟩;simp only[q,N,Wd,I,K];exact(Xa [(0,0,0),(1,1,0)] [] rfl (by(try simp only[evWB,Xe,Xf,Xi,Xg,Xj,implies_true,encNN,zR,Wd,I,K,q,N])<;>exact fin6) (by(try simp only[evWB,Xe,Xf,Xi,Xg,Xj,implies_true,encNN,zR,Wd,I,K,q,N])<;>exact fin6))
def exF(N:Adj)(l:List Nat)(b:Nat):List Nat:=(suc N b).filter λn=>decide (n∉l)
def exA(N:Adj)(l:List Nat)(i:Nat):List Nat:=(l.take i).flatMap (exF N l)
def ex2(N:Adj)(l:List Nat)(i:Nat)(m:List Nat):List Nat:=exA N l i++m.filter λn=>decide (n∉l)
def zzW(N:Adj)(l:List Nat):List Int:=zcg (zj5 (zif (exA N l l.length)))
theorem zC5{N:Adj}{l:List Nat}{i:Nat}(h:i<l.length):exA N l (i+1)=ex2 N l i (suc N l[i]):=by unfold exA ex2;rw[List.take_succ_eq_append_getElem h,List.flatMap_append,List.flatMap_singleton];rfl
theorem zLp{N:Adj}{l:List Nat}{i:Nat}{m:List Nat}{j:Nat}(h:j<m.length):ex2 N l i (m.take (j+1))=ex2 N l i (m.take j)++if m[j]∈l then[]else[m[j]]:=by unfold ex2;rw[filter_take_succ h,Wl];by_cases b:m[j]∈l<;>simp[b]
theorem zLq{N:Adj}{l:List Nat}{i:Nat}{m:List Nat}:ex2 N l i (m.take 0)=exA N l i:=by simp[ex2]
theorem zDS{l:List Nat}{x:Nat}:zif (l++[x])=zif l++[(x:Int)]:=by simp[zif]
theorem zHy{N:Adj}{l:List Nat}(c:∀b,(suc N b).length<=1000):∀i,(exA N l i).length<=i*1000
 |0=>by simp[exA]
 |
  i+1=>by
  have d:=zHy c (l:=l) i;by_cases h:i<l.length
  .rw[zC5 h,ex2,Wj];have:=WK (λn=>decide (n∉l)) (suc N l[i]);have:=c l[i];omega
  .have e:exA N l (i+1)=exA N l i:=by unfold exA;rw[WZ (by omega),WZ (by omega)]
   rw[e];exact Xk d (Nat.mul_le_mul_right _ (Nat.le_succ _))
theorem zvm(N:Adj)(l:List Nat)(M:∀b,(suc N b).length<=1000)(V:l.length<=1000)(P:∀b∈l,b<N.length):zo Z9 zgt [encNN N,zc l] (·=za (zzW N l)):=by
 refine fn_x zvq rfl ?_;refine dcU zoM.eq_1 ?_;have U:=hBig;refine Gw1 @ue ?_;intros
 refine zf (λs:Nat×Nat=>([(0,encNN N),(1,zc l),(5,.own 0 0 s.2 0 (zif (exA N l s.1)).length),(10,zc l),(11,.int .i64 l.length),(12,.int .i64 s.1)],[(0,.row 1 ((zif (exA N l s.1)).map cI) s.2)])) 1
  (λs=>s.1<=l.length) (λs=>l.length-s.1) (0,0) (Wa _) ?start ?_
 case start=>have L:zif (exA N l 0)=[]:=rfl;exact(Xa [(0,1,0)] [] rfl (Gin2_3 @ud @ue L) (Gin2_3 @ud @ue L))
 rintro⟨i,γ⟩ hi wf;simp only at hi;clear wf;refine dcU zk6.eq_1 ?_;have O:=zHy (l:=l) M i;by_cases o:i<l.length
 case pos=>
  have h:=P l[i] (Wc o);have e:=zg (f:=λr=>[zc r]) (d:=[]) h;have J:suc N l[i]=N[l[i]]:=zwU h;rw[<-J]at e;have k:=zC5 (N:=N) o;have u:=M l[i];have B:=zg (f:=cN) (d:=[]) o;generalize l[i]=b at e k u h B;have C:(l.map λ(n:Nat)=>[AV.int .i64 (n:Int)]).getD i []=[.int .i64 (b:Int)]:=B;generalize suc N b=m at e k u;refine Gw3 @dT @ue C ?_;intros;refine Gw3 @ud e @dT ?_;intros;have K:ex2 N l i []=exA N l i:=zLq (m:=m);refine Gw1 @ue ?_;intros
  refine zf (λs:Nat×Nat=>([(0,encNN N),(1,zc l),(5,.own 0 0 s.2 0 (zif (ex2 N l i (m.take s.1))).length),(10,zc l),(11,.int .i64 l.length),(12,.int .i64 i),(19,zc m),(20,.int .i64 m.length),(21,.int .i64 s.1)],[(0,.row 1 ((zif (ex2 N l i (m.take s.1))).map cI) s.2)])) 1
   (λs=>s.1<=m.length) (λs=>m.length-s.1) (0,γ) (Wa _) ?start2 ?_
  case start2=>exact(Xa [(0,0,0)] [] rfl (by(try simp only[evWB,Xe,Xf,Xi,Xg,Xj,implies_true,encNN,zc,Wz,K])<;>exact fin2) (by(try simp only[evWB,Xe,Xf,Xi,Xg,Xj,implies_true,encNN,zc,Wz,K])<;>exact fin2))
  rintro⟨j,t⟩ hj wf;simp only at hj;clear wf;refine dcU zlh.eq_1 ?_;by_cases H:j<m.length
  case neg=>
   obtain rfl:j=m.length:=by omega
   rw[Ws];refine Gw1 @dF ?_;intros;refine dcU zlg.eq_1 ?_;refine Gw0 ?_;intros;exact⟨(i+1,t),by simp only;omega,by simp only;omega,by rw[k];exact(Xa [(0,0,0)] [] rfl (Gin2_2 @ud @ue) (Gin2_2 @ud @ue))⟩
  have c:=zLp (N:=N) (l:=l) (i:=i) H;have D:=zg (f:=cN) (d:=[]) H;have R:(ex2 N l i (m.take j)).length<=1000000+1000:=by unfold ex2;rw[Wj];have:=WK (λn=>decide (n∉l)) (m.take j);rw[Wt]at this;omega
  generalize m[j]=x at c D;have F:(m.map λ(n:Nat)=>[AV.int .i64 (n:Int)]).getD j []=[.int .i64 (x:Int)]:=D;refine Gw3 @dT @ue F ?_;intros;have A:=zdh l x;refine zd (ze A rfl) ?_;have w:=zk7 (l:=ex2 N l i (m.take j));by_cases I:x∈l
  .rw[if_pos I,Wd]at c;rw[decide_eq_true I];refine Gw0 ?_;intros;exact⟨(j+1,t),by simp only;omega,by simp only;omega,by rw[c];exact(Xa [(0,0,0)] [] rfl (Gin2_2 @ud @ue) (Gin2_2 @ud @ue))⟩
  .rw[if_neg I]at c;rw[decide_eq_false I];refine Gw0 ?_;intros;exact⟨(j+1,t+1),by simp only;omega,by simp only;omega,by rw[c,zDS];exact(Xa [(0,0,0)] [] rfl (Gin2_8 @ud @ue @m9A @m9P @ui @ug @m9C @m9N) (Gin2_8 @ud @ue @m9A @m9P @ui @ug @m9C @m9N))⟩
 obtain rfl:i=l.length:=by omega
 refine Gw1 @dF ?_;intros;refine dcU zlw.eq_1 ?_;have w:=zk7 (l:=exA N l l.length);have p:=(zdL (zif (exA N l l.length))).length_eq;unfold zzW;generalize zif (exA N l l.length)=z at w p⊢;refine Gw0 ?_;intros;refine zad (zys (r:=0) (q:=0) (g:=γ) (zs:=z) rfl (by omega)) ?_;intro v T W S;cases S;rw[<-p];generalize zj5 z=y at p⊢;refine Gw0 ?_;intros;refine zaV [(0,0,0)] 1 _ (zlN y γ (by omega)) rfl rfl Gin1_0 Gin1_0 ?_;rintro _ _ _ ⟨m,rfl,rfl,rfl⟩;have Q:(zcg y).length<=y.length:=zwb;refine Gw1 @zo1.eq_1 ?_;intros;exact⟨_,zC1 (l:=zcg y) (m:=m) trivial rfl (by omega),rfl⟩
structure LoopR where
 h:Nat
 body:List Nat
 ex:List Int
 par:Int
def cLo(p:LoopR):List AV:=[.int .i64 (p.h:Int),zc p.body,za p.ex,.int .i64 p.par]
theorem zEJ(l:List LoopR)(g:Nat)(h:l.length<=100000):z7 Z9 zaE [.own 0 0 g 0 l.length] [(0,.row 4 (l.map cLo) g)] 1
  (λv H nx=>v=.own 1 0 0 0 l.length/\H=[(0,.row 4 (l.map cLo) g),(1,.row 4 (l.map cLo) 0)]/\nx=2):=by
 refine zaK (fn_x zfl rfl ?_);refine dcU zcp.eq_1 ?_;have e:=hBig;by_cases d:l.length=0
 .obtain rfl:l=[]:=Wm d;have c:nilB false (.own 0 0 g 0 0)=some none:=rfl;refine Gw1 c ?_;intros;rename_i b;cases b
  ·(refine Gw1 @zay.eq_1 ?_;intros);exact⟨.own 1 0 0 0 0,[(0,.row 4 [] g),(1,.row 4 [] 0)],2,(Xh [(0,0,0),(1,2,1)] [] rfl rfl rfl Qk Qk),rfl,rfl,rfl⟩
  ·(refine Gw1 @zay.eq_1 ?_;intros);exact⟨.own 1 0 0 0 0,[(0,.row 4 [] g),(1,.row 4 [] 0)],2,(Xh [(0,0,0),(1,2,0)] [] rfl rfl rfl Qk Qk),rfl,rfl,rfl⟩
 .have c:nilB false (.own 0 0 g 0 l.length)=some (some false):=by unfold nilB;simp only[zbt d];rfl
  refine Gw2 c @zay.eq_1 ?_;intros;exact⟨.own 1 0 0 0 l.length,[(0,.row 4 (l.map cLo) g),(1,.row 4 (l.map cLo) 0)],2,(Xh [(0,0,0),(1,2,1)] [] rfl rfl rfl Qk Qk),rfl,rfl,rfl⟩
theorem zw8(l:List LoopR)(b:Nat)(I:l.length<=1000)(x:∀p∈l,p.body.length<=1000):zo Z9 zhT [encL 4 cLo l,.int .i64 b] (λv=>∃n:Int,v=.int .i64 n):=by
 refine fn_x zwM rfl ?_;refine dcU zqa.eq_1 ?_;have H:=hBig;refine Gw0 ?_;intros
 refine zf (λs:Nat×Int=>([(0,encL 4 cLo l),(1,.int .i64 b),(5,.int .i64 s.2),(8,encL 4 cLo l),(9,.int .i64 l.length),(10,.int .i64 s.1)],[])) 0
  (λs=>s.1<=l.length /\ -1<=s.2/\s.2<s.1/\s.2<l.length) (λs=>l.length-s.1) (0,-1) ⟨Wa _,by simp only;omega,by simp only;omega,by simp only;omega⟩ ?start ?_
 case start=>exact(Xa [] [] rfl Qk Qk)
 rintro⟨i,m⟩ ⟨D,A,B,C⟩ wf;simp only at D A B C;clear wf;refine dcU zmC.eq_1 ?_;by_cases t:i<l.length;case neg=>refine Gw1 @dF ?_;intros;unfold zmw;refine Gw1 @zqH.eq_1 ?_;intros;exact⟨_,.int _ _ _,_,rfl⟩
 have g:=zg (f:=cLo) (d:=[]) t;have u:=x _ (Wc t);generalize l[i]=p at g u;have q:=zdh p.body b;have o:cLo p=[.int .i64 (p.h:Int),zc p.body,za p.ex,.int .i64 p.par]:=rfl;rw[o]at g;refine Gw4 @dT g @ua o ?_;intros;refine zcG (ze q rfl) ?_;by_cases z:b∈p.body;case neg=>rw[decide_eq_false z];refine Gw0 ?_;intros;exact⟨(i+1,m),⟨by simp only;omega,by simp only;omega,by simp only;omega,by simp only;omega⟩,by simp only;omega,(Xa [] [] rfl Qk Qk)⟩
 rw[decide_eq_true z];by_cases J:m<0
 ·(refine Gw3 @dT @ue @uf ?_;intros);exact⟨(i+1,(i:Int)),⟨by simp only;omega,by simp only;omega,by simp only;omega,by simp only;omega⟩,by simp only;omega,(Xa [] [] rfl Qk Qk)⟩
 obtain⟨k,rfl⟩:∃k:Nat,m=k:=⟨m.toNat,by omega⟩;have y:k<l.length:=by omega
 have e:=zg (f:=cLo) (d:=[]) y;have w:=x _ (Wc y);generalize l[k]=j at e w;have c:cLo j=[.int .i64 (j.h:Int),zc j.body,za j.ex,.int .i64 j.par]:=rfl;rw[c]at e;by_cases F:p.body.length<j.body.length
 ·(refine Gw7 @dF @dT e @ua c @ue @uf ?_;intros);exact⟨(i+1,(i:Int)),⟨by simp only;omega,by simp only;omega,by simp only;omega,by simp only;omega⟩,by simp only;omega,(Xa [] [] rfl Qk Qk)⟩
 ·(refine Gw7 @dF @dT e @ua c @ue @uf ?_;intros);exact⟨(i+1,(k:Int)),⟨by simp only;omega,by simp only;omega,by simp only;omega,by simp only;omega⟩,by simp only;omega,(Xa [] [] rfl Qk Qk)⟩
end Go.Ab
namespace Go.Ab
open Go.RowKit Go.Proofs
def zh7:List St->Int
 |[]=>0
 |s::l=>if s.check≠0 then s.check else zh7 l
def zlc:List Bl->Int
 |[]=>0
 |b::l=>if zh7 b.stmts≠0 then zh7 b.stmts else zlc l
def zfa(g:G):Int:=if (!g.blocks.isEmpty&&g.blocks.all λb=>zeR b.stmts g.blocks.length)=true then zlc g.blocks else 18
theorem zui{l:List St}{i:Nat}(h:i<l.length):zh7 (l.drop i)=if l[i].check≠0 then l[i].check else zh7 (l.drop (i+1)):=by rw[Wk h,zh7]
theorem ztB{l:List Bl}{i:Nat}(h:i<l.length):zlc (l.drop i)=if zh7 l[i].stmts≠0 then zh7 l[i].stmts else zlc (l.drop (i+1)):=by rw[Wk h,zlc]
structure fewB(g:G):Prop where
 blocks:g.blocks.length<=12
 stmts:∀b∈g.blocks,b.stmts.length<=8
theorem zrj(g)(z:fewB g):zo Z9 zfR [.agg g.cells] (·=.int .i64 (zfa g)):=by
 refine fn_x zrb rfl ?_;refine dcU zk8.eq_1 ?_;have D:=hBig;obtain⟨x,u⟩:=z;obtain⟨k,l⟩:=g;simp only at x u;simp only[G.cells,zfa];refine Gw2 @ua @dF ?_;intros;refine zf (λs:Nat×Nat=>([(1,encP 2 [.int .u32 k,encL 2 Xc l]),(3,.int .i64 s.2),(4,.int .i64 s.1)],[])) 0 (λs=>s.1<=l.length/\s.2<=8*s.1) (λs=>l.length-s.1) (0,0) ⟨Wa _,We _⟩ (Xb rfl fin5) ?_;rintro⟨i,n⟩ ⟨o,A⟩ wf;simp only at o A;refine dcU ziW.eq_1 ?_;by_cases h:i<l.length
 .have e:(l.map Xc).getD i []=[.int .u32 l[i].addr,encL 8 Xd l[i].stmts]:=zg h;have B:=u l[i] (Wc h);refine Gw3 @ua @dT e ?_;intros;exact⟨(i+1,n+l[i].stmts.length),⟨by simp only;omega,by simp only;omega⟩,by simp only;omega,Xb rfl fin5⟩
 refine Gw2 @ua @dF ?_;intros;refine dcU zis.eq_1 ?_;by_cases p:l.length=0
 .obtain rfl:l=[]:=Wm p;refine Gw5 @ua @dT @dF @ug @zdR.eq_1 ?_;intros;exact izO
 have y:l.isEmpty=false:=by cases l with|nil=>simp at p|cons a l=>rfl
 rw[y];refine Gw2 @ua @dF ?_;intros;refine zf (λi:Nat=>([(1,encP 2 [.int .u32 k,encL 2 Xc l]),(5,.int .i64 i)],[])) 0 (λi=>i<=l.length/\((l.drop i).all λb=>zeR b.stmts l.length)=(l.all λb=>zeR b.stmts l.length)) (λi=>l.length-i) 0 ⟨Wa _,rfl⟩ (Xb rfl fin5) ?_;rintro i ⟨o,c⟩ wf;refine dcU ziu.eq_1 ?_;by_cases h:i<l.length
 .have e:(l.map Xc).getD i []=[.int .u32 l[i].addr,encL 8 Xd l[i].stmts]:=zg h;rw[Wk h,Wn]at c;refine Gw3 @ua @dT e ?_;intros;refine zcG (ze (ztT l[i] l.length) rfl) ?_
  cases q:zeR l[i].stmts l.length with
  |true=>rw[q,Wu]at c;refine Gw0 ?_;intros;exact⟨i+1,⟨by omega,c⟩,by omega,Xb rfl fin5⟩
  |false=>rw[q,Bool.false_and]at c;rw[<-c];refine Gw1 @zdR.eq_1 ?_;intros;exact izO
 rw[Wf (by omega)]at c;replace c:(l.all λb=>zeR b.stmts l.length)=true:=by rw[<-c];rfl
 rw[c];refine Gw2 @ua @dF ?_;intros;unfold ziU;refine Gw0 ?_;intros;refine zf (λi:Nat=>([(1,encP 2 [.int .u32 k,encL 2 Xc l]),(6,.int .i64 i)],[])) 0 (λi=>i<=l.length/\zlc (l.drop i)=zlc l) (λi=>l.length-i) 0 ⟨Wa _,rfl⟩ (Xb rfl fin5) ?_;rintro i ⟨o,c⟩ wf;refine dcU ziw.eq_1 ?_;by_cases h:i<l.length
 .have e:(l.map Xc).getD i []=[.int .u32 l[i].addr,encL 8 Xd l[i].stmts]:=zg h;rw[ztB h]at c;refine Gw3 @ua @dT e ?_;intros;generalize l[i].stmts=m at e c;generalize l[i].addr=w at e;refine zf (λj:Nat=>([(1,encP 2 [.int .u32 k,encL 2 Xc l]),(6,.int .i64 i),(7,.int .i64 j)],[])) 0 (λj=>j<=m.length/\zh7 (m.drop j)=zh7 m) (λj=>m.length-j) 0 ⟨Wa _,rfl⟩ (Xb rfl fin5) ?_;rintro j ⟨F,d⟩ C;refine dcU ziB.eq_1 ?_;by_cases t:j<m.length
  .rw[zui t]at d;refine Gw6 @ua @dT e (gmp t) @St.len @St.eight ?_;intros;refine zd (ze (zsS m[j]) rfl) ?_;by_cases v:m[j].check=0
   .rw[if_neg (by omega)]at d;refine Gw1 @dF ?_;intros;exact⟨j+1,⟨by omega,d⟩,by omega,Xb rfl fin5⟩
   .rw[if_pos v]at d;rw[<-d,if_pos v]at c;rw[<-c];refine Gw2 @dT @zdR.eq_1 ?_;intros;exact izO
  .rw[Wf (by omega),zh7]at d;rw[<-d,if_neg (by omega)]at c;refine Gw3 @ua @dF e ?_;intros;refine dcU ziC.eq_1 ?_;refine Gw0 ?_;intros;exact⟨i+1,⟨by omega,c⟩,by omega,Xb rfl fin5⟩
 rw[Wf (by omega),zlc]at c;rw[<-c];refine Gw2 @ua @dF ?_;intros;unfold ziP;refine Gw1 @zdR.eq_1 ?_;intros;exact izO
structure PredT(fv:AV)(l:List St)(p:St->Bool):Prop where
 ex:∃f caps,fv=.fn (.func f) caps/\zga Z9 f=true/\zI caps=true/\∀s∈l,zo Z9 f ([.agg s.cells]++caps) (·=.bool (p s))
theorem zAI{fv}{l}{p}(g:PredT fv l p){s}(h:s∈l){H}{nx}{k}(e:k (.bool (p s)) H nx):znI Z9 fv [.agg s.cells] H nx k:=by obtain⟨f,b,rfl,d,c,j⟩:=g.ex;rw[zh6];refine⟨d,zd (ze (j s h) ?_) e⟩;simp only[WD,WE,Wn,WF];exact⟨rfl,zd6 c⟩
theorem zCT{fv}{l}{p}(h:PredT fv l p){H H2}{σ}{D}{t}:Vw H H2 σ D t fv fv:=by
 obtain⟨f,c,rfl,j,g,k⟩:=h.ex;refine .fn _ _ _ _ rfl λi a b d e=>?_
 rw[d]at e;cases e;exact zq (zbF g d)
theorem zom(l)(fv)(p)(n:PredT fv l p):zo Z9 zaC [encL 8 Xd l,fv] (·=.int .i64 (idxI (l.findIdx? p))):=by
 refine fn_x zfm rfl ?_;refine dcU zcl.eq_1 ?_;have q:=hBig;refine Gw0 ?_;intros;refine zf (λi:Nat=>([(0,encL 8 Xd l),(1,fv),(7,.int .i64 l.length),(8,.int .i64 i)],[])) 0 (λi=>i<=l.length/\∀j (h:j<l.length),j<i->p l[j]=false) (λi=>l.length-i) 0 ⟨Wa _,λj _ h=>by omega⟩ (Xb rfl fin5) ?_;intro i ⟨s,c⟩ wf;refine dcU zbK.eq_1 ?_;refine Gw0 ?_;intros;(refine zi (λh=>?_) (λh=>?_))<;>(try simp only[dcd]at h)
 .have b:i<l.length:=by omega
  refine Gw3 (gmp b) @St.len @St.eight ?_;intros;refine zAI n (Wc b) ?_;refine Gw0 ?_;intros;(refine zi (λg=>?_) (λg=>?_))<;>(try simp only[dcd]at g)
  ·(refine Gw1 @za3.eq_1 ?_;intros);have e:l.findIdx? p=some i:=by rw[Wo];exact⟨b,g,λj d=>by rw[c j (by omega) d];simp⟩
   rw[e];exact izO
  ·(refine Gw0 ?_;intros);refine⟨i+1,⟨by omega,λj d m=>?_⟩,by omega,Xb rfl fin5⟩;by_cases k:j=i
   .subst k;simpa using g
   .exact c j d (by omega)
 .unfold zbQ;refine Gw1 @za3.eq_1 ?_;intros;have e:l.findIdx? p=none:=by rw[Wp];intro x o;obtain⟨j,d,rfl⟩:=Ww.1 o;exact c j d (by omega)
  rw[e];exact izO
theorem zJD{l:List St}{p:St->Bool}:decide (idxI (l.findIdx? p) >= 0)=l.any p:=by
 cases h:l.findIdx? p with
 |none=>have:=Wp.1 h;rw[decide_eq_false (by simp[idxI])];symm;rw[WL];intro x d;rw[this x d];simp
 |some i=>obtain⟨b,c,_⟩:=Wo.1 h;rw[decide_eq_true (by simp[idxI])];exact(zww b c).symm
theorem zmg(l)(fv)(p)(b:PredT fv l p):zo Z9 zau [encL 8 Xd l,fv] (·=.bool (l.any p)):=by refine fn_x zeK rfl ?_;refine dcU zbI.eq_1 ?_;refine Gw0 ?_;intros;refine zd (zaB (D:=noR) (zom l fv p b) (.cons (zV rfl) (.cons (zCT b) .nil)) (.inl rfl)) ?_;refine Gw1 @zbU.eq_1 ?_;intros;refine⟨_,.bool _ _,?_⟩;rw[<-zJD]
structure PredI(fv:AV)(l:List Int)(p:Int->Bool):Prop where
 ex:∃f caps,fv=.fn (.func f) caps/\zga Z9 f=true/\zI caps=true/\∀s∈l,zo Z9 f ([.int .i64 s]++caps) (·=.bool (p s))
theorem zBC{fv}{l}{p}(g:PredI fv l p){s}(h:s∈l){H}{nx}{k}(e:k (.bool (p s)) H nx):znI Z9 fv [.int .i64 s] H nx k:=by obtain⟨f,b,rfl,d,c,j⟩:=g.ex;rw[zh6];refine⟨d,zd (ze (j s h) ?_) e⟩;simp only[WD,WE,Wn,WF];exact⟨rfl,zd6 c⟩
theorem zDv{fv}{l}{p}(h:PredI fv l p){H H2}{σ}{D}{t}:Vw H H2 σ D t fv fv:=by
 obtain⟨f,c,rfl,j,g,k⟩:=h.ex;refine .fn _ _ _ _ rfl λi a b d e=>?_
 rw[d]at e;cases e;exact zq (zbF g d)
theorem zov(l)(fv)(p)(n:PredI fv l p):zo Z9 zaG [za l,fv] (·=.int .i64 (idxI (l.findIdx? p))):=by
 refine fn_x zeX rfl ?_;refine dcU zcN.eq_1 ?_;have q:=hBig;refine Gw1 @uf ?_;intros;refine zf (λi:Nat=>([(0,za l),(1,fv),(7,.int .i64 l.length),(8,.int .i64 i)],[])) 0 (λi=>i<=l.length/\∀j (h:j<l.length),j<i->p l[j]=false) (λi=>l.length-i) 0 ⟨Wa _,λj _ h=>by omega⟩ (Xb rfl fin5) ?_;intro i ⟨s,c⟩ wf;refine dcU zb6.eq_1 ?_;refine Gw0 ?_;intros;(refine zi (λh=>?_) (λh=>?_))<;>(try simp only[dcd]at h)
 .have b:i<l.length:=by omega
  refine Gw2 @uf (gmp b) ?_;intros;refine zBC n (Wc b) ?_;refine Gw0 ?_;intros;(refine zi (λg=>?_) (λg=>?_))<;>(try simp only[dcd]at g)
  ·(refine Gw1 @zaW.eq_1 ?_;intros);have e:l.findIdx? p=some i:=by rw[Wo];exact⟨b,g,λj d=>by rw[c j (by omega) d];simp⟩
   rw[e];exact izO
  ·(refine Gw0 ?_;intros);refine⟨i+1,⟨by omega,λj d m=>?_⟩,by omega,Xb rfl fin5⟩;by_cases k:j=i
   .subst k;simpa using g
   .exact c j d (by omega)
 .unfold zb2;refine Gw1 @zaW.eq_1 ?_;intros;have e:l.findIdx? p=none:=by rw[Wp];intro x o;obtain⟨j,d,rfl⟩:=Ww.1 o;exact c j d (by omega)
  rw[e];exact izO
theorem zKD{l:List Int}{p:Int->Bool}:decide (idxI (l.findIdx? p) >= 0)=l.any p:=by
 cases h:l.findIdx? p with
 |none=>have:=Wp.1 h;rw[decide_eq_false (by simp[idxI])];symm;rw[WL];intro x d;rw[this x d];simp
 |some i=>obtain⟨b,c,_⟩:=Wo.1 h;rw[decide_eq_true (by simp[idxI])];exact(zww b c).symm
theorem zme(l)(fv)(p)(b:PredI fv l p):zo Z9 zbd [za l,fv] (·=.bool (l.any p)):=by refine fn_x zh3 rfl ?_;refine dcU zdU.eq_1 ?_;refine Gw0 ?_;intros;refine zd (zaB (D:=noR) (zov l fv p b) (.cons (zV rfl) (.cons (zDv b) .nil)) (.inl rfl)) ?_;refine Gw1 @zdT.eq_1 ?_;intros;refine⟨_,.bool _ _,?_⟩;rw[<-zKD]
end Go.Ab
namespace Go.Ab
open Go.RowKit Go.Proofs Go.Ab.Dm
structure PredP(fv:AV)(l:List (Nat×Nat))(p:Nat×Nat->Bool):Prop where
 ex:∃f caps,fv=.fn (.func f) caps/\zga Z9 f=true/\zI caps=true/\∀s∈l,zo Z9 f ([.agg (cP s)]++caps) (·=.bool (p s))
theorem zBs{c:AV}{l:List (Nat×Nat)}{p:Nat×Nat->Bool}(h:PredP c l p){s:Nat×Nat}(j:s∈l){H:AH}{nx:Nat}{k:AV->AH->Nat->Prop}(g:k (.bool (p s)) H nx):znI Z9 c [.agg (cP s)] H nx k:=by obtain⟨f,b,rfl,e,d,m⟩:=h.ex;rw[zh6];refine⟨e,zd (ze (m s j) ?_) g⟩;simp only[WD,WE,Wn,WF];exact⟨rfl,zd6 d⟩
theorem zKc{c:AV}{l:List (Nat×Nat)}{p:Nat×Nat->Bool}(k:PredP c l p){H h:AH}{σ:Nat->Nat->Option (Nat×Nat×Nat)}{D:Nat->Nat->Prop}{t:Bool}:Vw H h σ D t c c:=by
 obtain⟨f,d,rfl,m,j,n⟩:=k.ex;refine .fn _ _ _ _ rfl λi a b e g=>?_
 rw[e]at g;cases g;exact zq (zbF j e)
theorem cP_two(e:Nat×Nat):[(cP e).getD 0 .undef,(cP e).getD 1 .undef]=cP e:=rfl
theorem cP_len(e:Nat×Nat):(cP e).length=2:=rfl
theorem zoE(l:List (Nat×Nat))(k:AV)(p:Nat×Nat->Bool)(o:PredP k l p):zo Z9 za8 [zjk l,k] (·=.int .i64 (idxI (l.findIdx? p))):=by
 refine fn_x zhu rfl ?_;refine dcU zdQ.eq_1 ?_;have s:=hBig;refine Gw1 @ut ?_;intros;refine zf (λi:Nat=>([(0,zjk l),(1,k),(7,.int .i64 l.length),(8,.int .i64 i)],[])) 0 (λi=>i<=l.length/\∀j (h:j<l.length),j<i->p l[j]=false) (λi=>l.length-i) 0 ⟨Wa _,λj _ h=>by omega⟩ (Xb rfl fin5) ?_;intro i ⟨t,c⟩ wf;refine dcU zc2.eq_1 ?_;refine Gw0 ?_;intros;(refine zi (λh=>?_) (λh=>?_))<;>(try simp only[dcd]at h)
 .have b:i<l.length:=by omega
  refine Gw4 @ut (gmp b) @cP_len @cP_two ?_;intros;refine zBs o (Wc b) ?_;refine Gw0 ?_;intros;(refine zi (λg=>?_) (λg=>?_))<;>(try simp only[dcd]at g)
  ·(refine Gw1 @zbH.eq_1 ?_;intros);have e:l.findIdx? p=some i:=by rw[Wo];exact⟨b,g,λj d=>by rw[c j (by omega) d];simp⟩
   rw[e];exact izO
  ·(refine Gw0 ?_;intros);refine⟨i+1,⟨by omega,λj d n=>?_⟩,by omega,Xb rfl fin5⟩;by_cases m:j=i
   .subst m;simpa using g
   .exact c j d (by omega)
 .unfold zc0;refine Gw1 @zbH.eq_1 ?_;intros;have e:l.findIdx? p=none:=by rw[Wp];intro x q;obtain⟨j,d,rfl⟩:=Ww.1 q;exact c j d (by omega)
  rw[e];exact izO
theorem zI2{l:List (Nat×Nat)}{p:Nat×Nat->Bool}:decide (0<=idxI (l.findIdx? p))=l.any p:=by
 rw[Bool.eq_iff_iff,decide_eq_true_eq]
 cases h:l.findIdx? p with
 |none=>
  rw[Wp]at h;constructor
  .intro b;simp[idxI]at b
  .intro b;obtain⟨x,e,c⟩:=W0.1 b;rw[h x e]at c;cases c
 |some i=>obtain⟨d,b,_⟩:=Wo.1 h;exact⟨λ_=>W0.2 ⟨_,Wc d,b⟩,λ_=>by simp[idxI]⟩
theorem zl6(l:List (Nat×Nat))(b:AV)(p:Nat×Nat->Bool)(c:PredP b l p):zo Z9 zaP [zjk l,b] (·=.bool (l.any p)):=by refine fn_x zgk rfl ?_;refine dcU zcX.eq_1 ?_;refine Gw0 ?_;intros;refine zd (zaB (D:=noR) (zoE l b p c) (.cons (zV rfl) (.cons (zKc c) .nil)) (.inl rfl)) ?_;refine Gw1 @zcW.eq_1 ?_;intros;refine⟨_,.bool _ _,?_⟩;rw[<-zI2]
theorem zA4(l:List (Nat×Nat))(h:Nat):PredP (.fn (.func zhE) [encP 1 [.int .i64 h]]) l (λe=>decide (e.2=h)):=by refine⟨_,_,rfl,by kernel_rfl,rfl,λs c=>?_⟩;refine fn_x zu0 rfl ?_;refine dcU znM.eq_1 ?_;have b:cP s=[.int .i64 (s.1:Int),.int .i64 (s.2:Int)]:=rfl;refine Gw6 b @ub @ztI @ad0 @ad1 @znU.eq_1 ?_;intros;exact bxO (decide_eq_decide.2 (by omega))
theorem zFV{H:AH}{f d c:Nat}{h:Int}(k:H.get d 0=some (.row 1 [[.int .i64 h]] c)):Vw H [] nos allR false (.fn (.func f) [.ptr d 0 c 0 0]) (.fn (.func f) [encP 1 [.int .i64 h]]):=by
 refine .fn _ _ _ _ rfl λi a b e g=>?_
 match i with
 |0=>
  cases e;cases g;refine .frzp _ d 0 c 0 0 1 1 [[.int .i64 h]] _ trivial k (by simp) (by omega) λj m=>?_
  obtain rfl:j=0:=by omega
  exact .int _ _ _
 |i+1=>cases e
noncomputable def mkLo(E:Adj)(h:Nat):LoopR:=⟨h,zgl E h,zzW (zm2 E) (zgl E h),-1⟩
noncomputable def loL(E:Adj)(i:Nat):List LoopR:=(((ordE E).take i).filter (zoB E)).map (mkLo E)
theorem zKl{E:Adj}{i:Nat}(h:i<(ordE E).length):loL E (i+1)=loL E i++if zoB E (ordE E)[i]then[mkLo E (ordE E)[i]]else[]:=by unfold loL;rw[filter_take_succ h,Wh];cases zoB E (ordE E)[i]<;>simp
theorem zNo{E:Adj}{i:Nat}:(loL E i).length<=i:=by unfold loL;rw[Wi];exact zkP _ _ _
def zsE(p:LoopR):Nat×List Nat:=(p.h,p.body)
theorem zH6{E:Adj}{b:Nat}:(suc (zm2 E) b).length<=E.length:=by
 unfold suc zm2;rw[Wg,Wv]
 cases(Wr E.length)[b]? with
 |none=>exact Wa _
 |some x=>exact zrt
theorem zF6{E:Adj}:(zm2 E).length=E.length:=by simp[zm2]
theorem zxL(g:Gr)(y:g.small){last:Nat->St}(o:EdgeOk g.E last):zo Z9 zgc [.agg g.cells] (λv=>∃P:List LoopR,v=encL 4 cLo P/\P.map zsE=(loL g.E (ordE g.E).length).map zsE):=by
 refine fn_x zw9 rfl ?_;refine dcU zqK.eq_1 ?_;have hB:=hBig;have hlen:=g.E_len;have hn:=y.1;have hpos:=o.pos;have W:=zqW g y;have X:=zmq g y;have hO:=zgp g y;have hoe:orderL g.E=ordE g.E:=by unfold orderL ordE ordL;rw[if_neg (by omega)]
 rw[hoe]at hO;have hol:(ordE g.E).length<=g.blocks.length:=zqV (rpo o.ok o.pos).nd λx U=>by have:=zen o U;omega
 have J:=λb=>zJn o (b:=b)
 refine Gw2 @uh @uo ?_;intros;refine zd (ze W rfl) ?_;refine Gw2 @uh @uo ?_;intros;refine zd (ze X rfl) ?_;refine Gw2 @uh @uo ?_;intros;refine zd (ze hO rfl) ?_;refine Gw1 @ue ?_;intros
 refine zf (λs:Nat×Nat=>([(1,encP 2 g.cells),(3,zjk (zhW g.E)),(4,encNN (zm2 g.E)),(5,.own 0 0 s.2 0 (loL g.E s.1).length),(16,zc (ordE g.E)),(17,.int .i64 (ordE g.E).length),(18,.int .i64 s.1)],[(0,.row 4 ((loL g.E s.1).map cLo) s.2)])) 1
  (λs=>s.1<=(ordE g.E).length) (λs=>(ordE g.E).length-s.1) (0,0) (Wa _) ?start ?_
 case start=>have h0:loL g.E 0=[]:=rfl;exact(Xa [(0,1,0)] [] rfl (Gin2_5 @ud @ue @ut h0 @uh) (Gin2_5 @ud @ue @ut h0 @uh))
 rintro⟨i,γ⟩ hi wf;simp only at hi;clear wf;unfold zmT;have hll:=zNo (E:=g.E) (i:=i);by_cases z:i<(ordE g.E).length
 case pos=>
  have c:=zKl z;have Q:=zen o (Wc z);have N:((ordE g.E).map λ(n:Nat)=>[AV.int .i64 (n:Int)]).getD i []=[.int .i64 ((ordE g.E)[i]:Int)]:=zg (f:=cN) (d:=[]) z;generalize (ordE g.E)[i]=h at c Q N;have hb:=zxF g y o h (by omega);have hbl:=zp5 (E:=g.E) (b:=h)
  have U:=zvm (zm2 g.E) (zgl g.E h) (λb=>by have:=zH6 (E:=g.E) (b:=b);omega) (by omega) (λb hbm=>by
   rw[zF6];rcases(zuE o (by omega)).1 hbm with rfl|⟨_,_,_,_,h4,_⟩
   .exact Q
   .exact zen o h4)
  have w:=zl6 (zhW g.E) _ _ (zA4 (zhW g.E) h);rw[J]at w;refine Gw3 @dT @ue N ?_;intros;refine zd (zaB (D:=allR) w (.cons (zV rfl) (.cons (zFV (h:=(h:Int)) rfl) .nil)) (.inl rfl)) ?_
  cases hh:zoB g.E h with
  |false=>rw[hh]at c;simp only[Bool.false_eq_true,if_false,Wd]at c;refine Gw0 ?_;intros;exact⟨(i+1,γ),by simp only;omega,by simp only;omega,by rw[c];exact(Xa [(0,0,0)] [] rfl (Gin2_4 @ud @ue @ut @ub) (Gin2_4 @ud @ue @ut @ub))⟩
  |true=>
   rw[hh]at c;simp only[if_true]at c;refine Gw2 @ub @uo ?_;intros;refine zd (ze hb rfl) ?_;have m:cLo (mkLo g.E h)=[.int .i64 (h:Int),zc (zgl g.E h),za (zzW (zm2 g.E) (zgl g.E h)),.int .i64 (-1)]:=rfl;generalize mkLo g.E h=me at c m;generalize zzW (zm2 g.E) (zgl g.E h)=ex at U m;generalize zgl g.E h=bo at U m;refine Gw0 ?_;intros
   (repeat' with_reducible apply And.intro)
   all_goals try omega
   all_goals try(refine zd (ze U rfl) ?_)
   all_goals(refine Gw2 @ue @uf ?_;intros;try with_reducible exact trivial)
   all_goals exact⟨(i+1,γ+1),by simp only;omega,by simp only;omega,by rw[c];exact(Xa [(0,0,0)] [] rfl (Gin2_12 @ud @ue @uf @ut @ub @m9A @m9P @ui @ug @m9C @m9N m) (Gin2_12 @ud @ue @uf @ut @ub @m9A @m9P @ui @ug @m9C @m9N m))⟩
 obtain rfl:i=(ordE g.E).length:=by omega
 generalize hL:loL g.E (ordE g.E).length=L at hll;have Y:∀p∈L,p.body.length<=1000:=λp C=>by rw[<-hL]at C;unfold loL at C;obtain⟨h,_,rfl⟩:=Wy.1 C;have:=zp5 (E:=g.E) (b:=h);show(zgl g.E h).length<=1000;omega
 refine Gw1 @dF ?_;intros;refine dcU zmO.eq_1 ?_;refine Gw0 ?_;intros
 refine zf (λs:Nat×List LoopR=>([(5,.own 0 0 γ 0 L.length),(40,.int .i64 L.length),(41,.int .i64 s.1)],[(0,.row 4 (s.2.map cLo) γ)])) 1
  (λs=>s.1<=L.length/\s.2.map zsE=L.map zsE) (λs=>L.length-s.1) (0,L) ⟨Wa _,rfl⟩ ?start2 ?_
 case start2=>exact(Xa [(0,0,0)] [] rfl Qk Qk)
 rintro⟨k,P⟩ ⟨hk,I⟩ wf;simp only at hk I;clear wf;have S:P.length=L.length:=by have:=congrArg List.length I;simpa using this
 have Z:∀p∈P,p.body.length<=1000:=λp C=>by
  have:zsE p∈L.map zsE:=by rw[<-I];exact Wy.2 ⟨p,C,rfl⟩
  obtain⟨q,hq,e⟩:=Wy.1 this;have e2:q.body=p.body:=congrArg Prod.snd e;rw[<-e2];exact Y q hq
 refine dcU zmI.eq_1 ?_;by_cases hk':k<L.length
 case neg=>
  refine Gw1 @dF ?_;intros;unfold zmV;refine Gw1 @zqd.eq_1 ?_;intros;rw[<-S];refine⟨_,zlO (f:=cLo) (l:=P) trivial rfl (by omega) (λa _ j hj=>?_),P,rfl,by rw[I]⟩
  match j with
  |0=>exact .int _ _ _
  |1=>exact .sl _ _ _ _
  |2=>exact .sl _ _ _ _
  |3=>exact .int _ _ _
  |j+4=>omega
 have t:k<P.length:=by omega
 have O:=zg (f:=cLo) (d:=[]) t;have K:∀p:LoopR,cLo p=[.int .i64 (p.h:Int),zc p.body,za p.ex,.int .i64 p.par]:=λ_=>rfl
 have T:∀v:Int,(P.map cLo).set k [.int .i64 ((P[k].h:Nat):Int),zc P[k].body,za P[k].ex,.int .i64 v]=(P.set k { P[k]with par:=v }).map cLo:=λv=>by rw[WA];rfl
 have R:∀v:Int,(P.set k { P[k]with par:=v }).map zsE=P.map zsE:=λv=>by
  rw[WA];have:zsE { P[k]with par:=v }=(P.map zsE)[k]'(by rw[Wi];exact t):=by rw[WR];rfl
  rw[this,List.set_getElem_self]
 have B:zo Z9 zhT [encL 4 cLo (P.set k { P[k]with body:=[] }),.int .i64 ((P[k].h:Nat):Int)] (λv=>∃n:Int,v=.int .i64 n):=zw8 _ _ (by rw[WM];omega) (λp C=>by
  rcases List.mem_or_eq_of_mem_set C with h|rfl
  .exact Z p h
  .exact Wa _)
 refine Gw1 @dT ?_;intros;rw[<-S];refine zaV [(0,0,0)] 1 _ (zEJ P γ (by omega)) rfl rfl fin9 fin9 ?_;rintro _ _ _ ⟨rfl,rfl,rfl⟩;have F:∀{ρ:Nat->Nat}{l:List LoopR}{g:Nat},AObj.ren ρ (.row 4 (l.map cLo) g)=.row 4 (l.map cLo) g:=λ{ρ l g}=>by simp only[AObj.ren];rw[zgq (zU λ_=>rfl)]
 refine Gw5 @F O K @ue @uf ?_;intros
 have M:∀{H:AH}{V:List AV},V=[.int .i64 ((P[k].h:Nat):Int),.nilsl,za P[k].ex,.int .i64 P[k].par]->H.get 2 0=some (.row 4 ((P.map cLo).set k V) 0)->Vw H [] nos allR false (.own 2 0 0 0 P.length) (encL 4 cLo (P.set k { P[k]with body:=[] })):=λ{H V} hcs y=>by
  have e:encL 4 cLo (P.set k { P[k]with body:=[] })=.sl 4 P.length (λi j=>(((P.set k { P[k]with body:=[] }).map cLo).getD i []).getD j .undef):=by unfold encL;rw[WM]
  rw[e];refine .frz _ 2 0 0 0 P.length 4 _ _ trivial y (by omega) (by rw[WM,Wi];omega) (λi j hi hj=>?_);rw[Xn,WA];simp only[Wg,List.getElem?_set];by_cases A:k=i
  .subst A;rw[if_pos rfl,if_pos rfl,Wi,if_pos t,if_pos t,hcs]
   match j with
   |0=>exact .int _ _ _
   |1=>exact zkH
   |2=>exact .sl _ _ _ _
   |3=>exact .int _ _ _
   |j+4=>omega
  .rw[if_neg A,if_neg A,Wv,Wq hi]
   match j with
   |0=>exact .int _ _ _
   |1=>exact .sl _ _ _ _
   |2=>exact .sl _ _ _ _
   |3=>exact .int _ _ _
   |j+4=>omega
 refine zlq B (.cons (M rfl rfl) (.cons (.int _ _ _) .nil)) (λa ⟨n,e⟩=>.inl (by rw[e];rfl)) ?_;rintro _ ⟨v,rfl⟩;have u:=T v;simp only[zc,za]at u;refine Gw5 O K @ue @uf u ?_;intros;exact⟨(k+1,P.set k { P[k]with par:=v }),⟨by simp only;omega,(R v).trans I⟩,by simp only;omega,(Xa [(0,0,0)] [] rfl (Gin2_1 u) (Gin2_1 u))⟩
end Go.Ab
namespace Go.Ab
open Go.RowKit Go.Proofs
theorem zIE(l)(h:l.length<=100000000):z7 Z9 zM [za l] [] 0 (λv H nx=>v=.own 0 0 0 0 l.length/\H=[(0,.row 1 (l.map cI) 0)]/\nx=1):=by
 refine zaK (fn_x zdX rfl ?_);unfold zcz za;conv in Z8 _ _=>reduce
 have g:=hBig;have c:∀H,zdx 1 (encL 1 (λn=>[.int .i64 n]) l) H=some (l.map cI):=λH=>zEP
 refine Gw1 @zqu ?_;intros
 cases d:(l.length == 0)with
 |true=>
  have e:l=[]:=Wm (by simpa using d);subst e;refine Gw0 ?_;intros;rename_i b;cases b
  ·(refine Gw2 c @z8.eq_1 ?_;intros);exact⟨.own 0 0 0 0 0,[(0,.row 1 [] 0)],1,(Xa [(0,1,1)] [] rfl Qk Qk),rfl,rfl,rfl⟩
  ·(refine Gw1 @z8.eq_1 ?_;intros);exact⟨.own 0 0 0 0 0,[(0,.row 1 [] 0)],1,(Xa [(0,1,0)] [] rfl Qk Qk),rfl,rfl,rfl⟩
 |false=>refine Gw2 c @z8.eq_1 ?_;intros;exact⟨.own 0 0 0 0 l.length,[(0,.row 1 (l.map cI) 0)],1,(Xa [(0,1,1)] [] rfl Qk Qk),rfl,rfl,rfl⟩
theorem renI{ρ:Nat->Nat}{l:List Int}{g:Nat}:AObj.ren ρ (.row 1 (l.map cI) g)=.row 1 (l.map cI) g:=by simp only[AObj.ren];rw[zgq (zU λ_=>rfl)]
theorem zmN(b:Bl)(t:∀s∈b.stmts,s.cases.length<=100000000):zo Z9 zeN [.agg b.cells] (·=za (zaM b.stmts)):=by
 refine fn_x zsQ rfl ?_;refine dcU zmv.eq_1 ?_;have x:=hBig;obtain⟨w,l⟩:=b;simp only at t;simp only[Xc];by_cases u:l.length=0
 .obtain rfl:l=[]:=Wm u;refine Gw4 @ua @dT @ug @zdc.eq_1 ?_;intros;exact⟨_,zb3 (l:=[]) trivial rfl (by simp only[WN];omega),rfl⟩
 have c:l.length-1<l.length:=by omega
 have h:(((l.length:Nat):Int)-1).toNat=l.length-1:=by omega
 have g:=t _ (Wc c);have k:=zg (f:=Xd) (d:=[]) c;rw[znA c];generalize l[l.length-1]=s at k g;obtain⟨op,var,m,next,j,v,e,n⟩:=s;simp only[Xd]at k g;unfold zfS;simp only;refine Gw5 @ua @dT @dF h k ?_;intros;by_cases o:op=6
 .rw[if_pos o];refine Gw6 @dT @dF @ua @uf @uu @zdc.eq_1 ?_;intros;exact⟨_,zb3 (l:=[next]) trivial rfl (by simp only[Wx];omega),rfl⟩
 rw[if_neg o];by_cases p:op=7
 .rw[if_pos p];refine Gw6 @dT @dF @ua @uf @uu @zdc.eq_1 ?_;intros;exact⟨_,zb3 (l:=[next,j]) trivial rfl (by simp only[WJ,WN];omega),rfl⟩
 rw[if_neg p];by_cases q:op=8
 .rw[if_pos q];refine Gw4 @dT @dF @ua @uu ?_;intros;refine zaV [] 0 _ (zIE n g) rfl rfl Gin1_0 Gin1_0 ?_;rintro _ _ _ ⟨rfl,rfl,rfl⟩;refine Gw2 @renI @zdc.eq_1 ?_;intros;exact⟨_,zb3 (l:=n) trivial rfl (by omega),rfl⟩
 rw[if_neg q];refine Gw6 @dT @dF @ua @uf @uu @zdc.eq_1 ?_;intros;exact⟨_,zb3 (l:=[]) trivial rfl (by simp only[WN];omega),rfl⟩
theorem zsk:∀(l:List St)(h:l.length-1<l.length),zkA l=(zp6 (l[l.length-1]'h) && !((l.take (l.length-1)).any zp6))
 |[],h=>by simp at h
 |
  [x],h=>by
  rw[zkA,zkA];simp
 |
  x::y::l,h=>by
  have b:=zsk (y::l) (by simp);rw[zkA,b];simp only[WJ,WX,List.isEmpty_cons,W3,WO];have e:(x::y::l)[l.length+1]=(y::l)[l.length]:=rfl;rw[e];cases zp6 x<;>cases zp6 (y::l)[l.length]<;>simp
theorem zLk{α:Type}{f:α->List AV}{H c:AH}{σ:Nat->Nat->Option (Nat×Nat×Nat)}{D:Nat->Nat->Prop}{t:Bool}{l:List α}{b i n z:Nat}(p:i<=l.length)(k:n=i)(o:z=0)(h:∀a,zI (f a)=true):
  Vw H c σ D t (.sl b n (λa j=>((l.map f).getD (z+a) []).getD j .undef)) (encL b f (l.take i)):=by
 subst k o;have e:(l.take n).length=n:=by rw[Wt];omega
 unfold encL;rw[e];refine .slf _ _ _ _ _ (λa j g q=>?_);have d:(List.map f (List.take n l)).getD a []=(l.map f).getD (0+a) []:=by rw[Xn,List.map_take,Wg,List.getElem?_take_of_lt g,Wg]
 rw[d,zg (show 0+a<l.length by omega),Wg]
 cases m:(f l[0+a])[j]? with
 |none=>exact .undef _ _
 |some x=>exact zq (zbF (h _) m)
theorem zwi(l):PredT (.fn (.func zdO) []) l zp6:=⟨_,_,rfl,by kernel_rfl,rfl,λs _=>zmu s⟩
theorem zvb(t ad)(l):zo Z9 zgW [.int .i64 t,encP 2 [.int .u32 ad,encL 2 Xc l]] (·=.bool (!inN l.length t)):=by
 refine fn_x zvu rfl ?_;unfold zoI inN;conv in Z8 _ _=>reduce
 have d:=hBig;by_cases b:0<=t
 .by_cases c:t<l.length
  .rw[decide_eq_true ⟨b,c⟩];refine Gw4 @ua @dT @dF @zhF.eq_1 ?_;intros;exact bzO
  .rw[decide_eq_false (λh=>c h.2)];refine Gw4 @ua @dT @dF @zhF.eq_1 ?_;intros;exact bzO
 .rw[decide_eq_false (λh=>b h.1)];refine Gw4 @ua @dT @dF @zhF.eq_1 ?_;intros;exact bzO
theorem zrR(b)(l)(m):PredI (.fn (.func zgW) [encP 2 [.int .u32 b,encL 2 Xc l]]) m (λt=> !inN l.length t):=⟨_,_,rfl,by kernel_rfl,rfl,λs _=>zvb s b l⟩
theorem zy2(g)(A:fewB g)(v:∀b∈g.blocks,∀s∈b.stmts,s.cases.length<=100000000):zo Z9 zmb [.agg g.cells] (·=.bool (!g.blocks.isEmpty&&g.blocks.all λb=>zeR b.stmts g.blocks.length)):=by
 refine fn_x zy6 rfl ?_;refine dcU zsm.eq_1 ?_;have C:=hBig;obtain⟨y,B⟩:=A;obtain⟨n,l⟩:=g;simp only at y B v;simp only[G.cells];by_cases u:l.length=0
 .obtain rfl:l=[]:=Wm u;refine Gw4 @ua @dT @ug @zeT.eq_1 ?_;intros;exact bzO
 have z:l.isEmpty=false:=by cases l with|nil=>simp at u|cons a l=>rfl
 rw[z];generalize x:(l.all λb=>zeR b.stmts l.length)=R;refine Gw2 @ua @dF ?_;intros;refine zf (λi:Nat=>([(1,encP 2 [.int .u32 n,encL 2 Xc l]),(11,encL 2 Xc l),(12,.int .i64 l.length),(13,.int .i64 i)],[])) 0 (λi=>i<=l.length/\((l.drop i).all λb=>zeR b.stmts l.length)=R) (λi=>l.length-i) 0 ⟨Wa _,x⟩ (Xb rfl fin5) ?_;rintro i ⟨F,c⟩ wf;unfold znr;by_cases o:i<l.length
 .have k:(l.map Xc).getD i []=[.int .u32 l[i].addr,encL 8 Xd l[i].stmts]:=zg o;have e:=zmN l[i] (v _ (Wc o));rw[Wk o,Wn]at c;simp only[Xc]at e;generalize l[i].stmts=m at k c e;generalize l[i].addr=w at k e;by_cases j:m.length=0
  .obtain rfl:m=[]:=Wm j;replace c:R=false:=by rw[<-c];rfl
   subst c;refine Gw5 @ua @dT k @ug @zeT.eq_1 ?_;intros;exact bzO
  have d:m.length-1<m.length:=by omega
  have h:(((m.length:Nat):Int)-1).toNat=m.length-1:=by omega
  have p:m.isEmpty=false:=by cases m with|nil=>simp at j|cons a l=>rfl
  unfold zeR at c;rw[p,zsk m d]at c;refine Gw8 @ua @dT @dF k h (gmp d) @St.len @St.eight ?_;intros;refine zd (ze (zmu m[m.length-1]) rfl) ?_;generalize zp6 m[m.length-1]=q at c
  cases q with
  |false=>
   replace c:R=false:=by rw[<-c];rfl
   subst c;refine Gw1 @zeT.eq_1 ?_;intros;exact bzO
  |true=>
   refine Gw3 @ua @znR h ?_;intros;refine zd (zaB (D:=noR) (zmg (m.take (m.length-1)) _ _ (zwi _)) (.cons (zLk (by omega) (by omega) rfl (λ_=>rfl)) (.cons (zCT (zwi (m.take (m.length-1)))) .nil)) (.inl rfl)) ?_;generalize (m.take (m.length-1)).any zp6=q at c
   cases q with
   |true=>
    replace c:R=false:=by rw[<-c];rfl
    subst c;refine Gw1 @zeT.eq_1 ?_;intros;exact bzO
   |false=>
    refine Gw1 @ua ?_;intros;refine zd (ze e rfl) ?_;refine Gw1 @ua ?_;intros;refine zd (zaB (D:=noR) (zme (zaM m) _ _ (zrR n l _)) (.cons (zV rfl) (.cons (zDv (zrR n l (zaM m))) .nil)) (.inl rfl)) ?_;rw[List.all_eq_not_any_not]at c;generalize ((zaM m).any λt=> !inN l.length t)=q at c
    cases q with
    |true=>
     replace c:R=false:=by rw[<-c];rfl
     subst c;refine Gw1 @zeT.eq_1 ?_;intros;exact bzO
    |false=>
     replace c:((l.drop (i+1)).all λb=>zeR b.stmts l.length)=R:=by rw[<-c];rfl
     refine Gw0 ?_;intros;exact⟨i+1,⟨by omega,c⟩,by omega,(Xa [] [] rfl Qk Qk)⟩
 .rw[Wf (by omega)]at c;replace c:R=true:=by rw[<-c];rfl
  subst c;refine Gw2 @ua @dF ?_;intros;unfold zm9;refine Gw1 @zeT.eq_1 ?_;intros;exact bzO
theorem zmM(g)(t:fewB g)(A:∀b∈g.blocks,∀s∈b.stmts,s.cases.length<=100000000):zo Z9 zca [.agg g.cells] (·=.int .i64 (zfa g)):=by
 refine fn_x zsU rfl ?_;refine dcU zmR.eq_1 ?_;have D:=hBig;have e:=zy2 g t A;obtain⟨z,p⟩:=t;obtain⟨x,l⟩:=g;simp only at z p e;simp only[G.cells,zfa]at e⊢;refine Gw1 @ua ?_;intros;refine zf (λs:Nat×Nat=>([(1,encP 2 [.int .u32 x,encL 2 Xc l]),(3,.int .i64 s.2),(12,encL 2 Xc l),(13,.int .i64 l.length),(14,.int .i64 s.1)],[])) 0 (λs=>s.1<=l.length/\s.2<=8*s.1) (λs=>l.length-s.1) (0,0) ⟨Wa _,We _⟩ (Xb rfl fin5) ?_;rintro⟨i,n⟩ ⟨u,B⟩ wf;simp only at u B;refine dcU zjK.eq_1 ?_;by_cases h:i<l.length
 .have k:(l.map Xc).getD i []=[.int .u32 l[i].addr,encL 8 Xd l[i].stmts]:=zg h;have o:=p l[i] (Wc h);refine Gw3 @ua @dT k ?_;intros;exact⟨(i+1,n+l[i].stmts.length),⟨by simp only;omega,by simp only;omega⟩,by simp only;omega,(Xa [] [] rfl Qk Qk)⟩
 refine Gw2 @ua @dF ?_;intros;refine dcU zjf.eq_1 ?_
 (repeat first|simp(disch:=try exact dis1) only[evD,Xe,Xf,Xg,fldP,dF,zxn,tab,List.getD_cons_zero,List.getD_cons_succ]|with_reducible first|intro _|refine aJ ?_)
 refine zd (ze e rfl) ?_;generalize (!l.isEmpty&&l.all λb=>zeR b.stmts l.length)=q
 cases q with
 |false=>refine Gw1 @zfT.eq_1 ?_;intros;exact izO
 |true=>
 rw[if_pos rfl];refine Gw1 @ua ?_;intros;refine zf (λi:Nat=>([(36,encL 2 Xc l),(37,.int .i64 l.length),(38,.int .i64 i)],[])) 0 (λi=>i<=l.length/\zlc (l.drop i)=zlc l) (λi=>l.length-i) 0 ⟨Wa _,rfl⟩ (Xb rfl fin5) ?_;rintro i ⟨u,d⟩ wf;refine dcU zjo.eq_1 ?_;by_cases h:i<l.length
 .have k:(l.map Xc).getD i []=[.int .u32 l[i].addr,encL 8 Xd l[i].stmts]:=zg h;have o:=p l[i] (Wc h);rw[ztB h]at d;refine Gw3 @ua @dT k ?_;intros;generalize l[i].stmts=m at k d o;generalize l[i].addr=y at k;refine zf (λj:Nat=>([(36,encL 2 Xc l),(37,.int .i64 l.length),(38,.int .i64 i),(43,encL 8 Xd m),(44,.int .i64 m.length),(45,.int .i64 j)],[])) 0 (λj=>j<=m.length/\zh7 (m.drop j)=zh7 m) (λj=>m.length-j) 0 ⟨Wa _,rfl⟩ (Xa [] [] rfl Qk Qk) ?_;rintro j ⟨F,c⟩ C;refine dcU zjh.eq_1 ?_;by_cases v:j<m.length
  .rw[zui v]at c;refine Gw6 @ua @dT (gmp v) @St.len @St.eight @St.flat ?_;intros;refine zd (ze (ztz m[j]) rfl) ?_;by_cases w:m[j].check=0
   .rw[if_neg (by omega)]at c;refine Gw1 @dF ?_;intros;exact⟨j+1,⟨by omega,c⟩,by omega,(Xa [] [] rfl Qk Qk)⟩
   .rw[if_pos w]at c;rw[<-c,if_pos w]at d;rw[<-d];refine Gw2 @dT @zfT.eq_1 ?_;intros;exact izO
  .rw[Wf (by omega),zh7]at c;rw[<-c,if_neg (by omega)]at d;refine Gw2 @ua @dF ?_;intros;refine dcU zje.eq_1 ?_;refine Gw0 ?_;intros;exact⟨i+1,⟨by omega,d⟩,by omega,Xb rfl fin5⟩
 rw[Wf (by omega),zlc]at d;rw[<-d];refine Gw2 @ua @dF ?_;intros;unfold zjW;refine Gw1 @zfT.eq_1 ?_;intros;exact izO
def stOk(s:St):Bool:=decide (s.cases.length<=8)&&(decide (s.e.length<=3)&&zkT s.e)
def blOk(b:Bl):Bool:=decide (b.stmts.length<=8)&&b.stmts.all stOk
def fewG(g:G):Bool:=(g.blocks.take 14).all blOk&&decide (g.blocks.length<=12)
theorem zJF{l:List Bl}{i:Nat}(h:i<l.length)(b:i<14):((l.drop i).take (14-i)).all blOk=(blOk l[i]&&((l.drop (i+1)).take (14-(i+1))).all blOk):=by rw[Wk h,show 14-i=(14-(i+1))+1 by omega,W3,Wn]
theorem zEg(g:G):zo Z9 zqb [.agg g.cells] (·=.bool (fewG g)):=by
 refine fn_x zEH rfl ?_;refine dcU zwk.eq_1 ?_;have V:=hBig;obtain⟨y,l⟩:=g;simp only[G.cells,fewG];generalize O:(l.take 14).all blOk=R;refine Gw1 @ua ?_;intros;refine zf (λi:Nat=>([(1,encP 2 [.int .u32 y,encL 2 Xc l]),(3,.int .i64 i)],[])) 0 (λi=>(i<=l.length/\i<=14)/\((l.drop i).take (14-i)).all blOk=R) (λi=>l.length-i) 0 ⟨⟨Wa _,Wa _⟩,O⟩ (Xb rfl fin5) ?_;rintro i ⟨⟨W,P⟩,c⟩ wf;refine dcU zpT.eq_1 ?_;have q:R=true->wpX Z9 0 zmf (retK zhp λv J x=>∃a,Frz J v a/\a=.bool (R&&decide (l.length<=12))) [(1,encP 2 [.int .u32 y,encL 2 Xc l]),(3,.int .i64 i),(15,.bool false)] [] 0:=by intro S;subst S;refine dcU zmf.eq_1 ?_;refine Gw2 @ua @zhp.eq_1 ?_;intros;exact bxO (decide_eq_decide.2 (by omega))
 by_cases F:i<l.length
 case neg=>
  rw[Wf (by omega),List.take_nil]at c;replace c:R=true:=by rw[<-c];rfl
  refine Gw2 @ua @dF ?_;intros;exact q c
 by_cases B:i<14
 case neg=>
  rw[show 14-i=0 by omega,Wz]at c;replace c:R=true:=by rw[<-c];rfl
  have hd:decide ((i:Int)<14)=false:=decide_eq_false (by omega);refine Gw3 @ua @dT hd ?_;intros;exact q c
 have p:(l.map Xc).getD i []=[.int .u32 l[i].addr,encL 8 Xd l[i].stmts]:=zg F;rw[zJF F B]at c;unfold blOk at c;by_cases A:l[i].stmts.length<=8
 case neg=>
  rw[decide_eq_false A]at c;replace c:R=false:=by rw[<-c];rfl
  subst c;refine Gw4 @ua @dT p @zhp.eq_1 ?_;intros;exact bzO
 rw[decide_eq_true A,Wu]at c;refine Gw4 @ua @dT @dF p ?_;intros;generalize l[i].stmts=m at p c A;generalize l[i].addr=K at p;generalize N:m.all stOk=M at c;refine zf (λj:Nat=>([(1,encP 2 [.int .u32 y,encL 2 Xc l]),(3,.int .i64 i),(4,.int .i64 j)],[])) 0 (λj=>j<=m.length/\(m.drop j).all stOk=M) (λj=>m.length-j) 0 ⟨Wa _,N⟩ (Xb rfl fin5) ?_;rintro j ⟨X,b⟩ T;refine dcU zqk.eq_1 ?_;by_cases H:j<m.length
 case neg=>
  rw[Wf (by omega)]at b;replace b:M=true:=by rw[<-b];rfl
  subst b;refine Gw3 @ua @dF p ?_;intros;refine dcU zqh.eq_1 ?_;refine Gw0 ?_;intros;exact⟨i+1,⟨⟨by omega,by omega⟩,by rw[<-c,Wu];rfl⟩,by omega,Xb rfl fin5⟩
 rw[Wk H,Wn]at b;have n:=zg (f:=Xd) (d:=[]) H;generalize m[j]=s at b n;obtain⟨op,var,o,next,z,C,e,D⟩:=s;simp only[Xd]at n;simp only[stOk]at b;refine Gw4 @ua @dT p n ?_;intros;by_cases t:D.length<=8
 case neg=>
  rw[decide_eq_false t]at b;replace b:M=false:=by rw[<-b];rfl
  subst b;replace c:R=false:=by rw[<-c];rfl
  subst c;refine Gw4 @ua @uf @dT @zhp.eq_1 ?_;intros;exact bzO
 rw[decide_eq_true t,Wu]at b;by_cases u:e.length<=3
 case neg=>
  rw[decide_eq_false u]at b;replace b:M=false:=by rw[<-b];rfl
  subst b;replace c:R=false:=by rw[<-c];rfl
  subst c;refine Gw5 @ua @uf @dF @dT @zhp.eq_1 ?_;intros;exact bzO
 rw[decide_eq_true u,Wu]at b;refine Gw4 @ua @uf @dF @dT ?_;intros;generalize L:zkT e=E at b;refine zf (λk:Nat=>([(1,encP 2 [.int .u32 y,encL 2 Xc l]),(3,.int .i64 i),(4,.int .i64 j),(5,.ptr 0 0 0 0 0),(6,.int .i64 k)],[(0,.row 8 [[.int .i64 op,.int .i64 var,.int .i64 o,.int .i64 next,.int .i64 z,.int .u32 C,encL 5 encX e,za D]] 0)])) 1 (λk=>k<=e.length/\zkT (e.drop k)=E) (λk=>e.length-k) 0 ⟨Wa _,L⟩ (Xa [(0,0,0)] [] rfl Qk Qk) ?_;rintro k ⟨Y,h⟩ U;refine dcU zp0.eq_1 ?_;by_cases w:k<e.length
 case neg=>
  rw[Wf (by omega)]at h;replace h:E=true:=by rw[<-h];rfl
  subst h;refine Gw2 @ua @dF ?_;intros;refine dcU zqg.eq_1 ?_;refine Gw0 ?_;intros;exact⟨j+1,⟨by omega,by rw[<-b,Wu]⟩,by omega,(Xa [] [] rfl Qk Qk)⟩
 rw[zx1 w]at h;have Q:=zkw e[k] 70 200 (by omega);refine Gw5 @ua @dT (gmp w) @zbl @zba ?_;intros;refine zd (ze (zzz (zeQ e[k]) e[k] 70 200 (We _) (by omega) (by omega) (by omega) (by omega)) (flX rfl)) ?_;by_cases I:zhY e[k] 70 200<0
 .rw[if_pos I]at h;subst h;replace b:M=false:=by rw[<-b];rfl
  subst b;replace c:R=false:=by rw[<-c];rfl
  subst c;refine Gw2 @dT @zhp.eq_1 ?_;intros;exact bzO
 .rw[if_neg I]at h;refine Gw1 @dF ?_;intros;exact⟨k+1,⟨by omega,h⟩,by omega,(Xa [(0,0,0)] [] rfl Qk Qk)⟩
mutual
def zpR:Nd->Bool->Bool
 |.mk f _ l,b=>if (f.kind=7\/f.kind=8)/\b=false then true else zgU l (b||zbE f.kind)
def zgU:List Nd->Bool->Bool
 |[],_=>false
 |x::l,b=>zpR x b||zgU l b
end
theorem zuh:∀(l:List Nd)(b:Bool),zgU l b=l.any (zpR · b)
 |[],b=>by rw[zgU];rfl
 |x::l,b=>by rw[zgU,zuh l b];rfl
theorem flNB{b:Bool}{e:Nd}:([AV.agg (encN e),.bool b]).all AV.flat=true:=flN (r:=[.bool b]) rfl
structure PredN(fv:AV)(l:List Nd)(p:Nd->Bool):Prop where
 ex:∃f caps,fv=.fn (.func f) caps/\zga Z9 f=true/\zI caps=true/\∀s∈l,zo Z9 f ([.agg (encN s)]++caps) (·=.bool (p s))
theorem zBL{c:AV}{l:List Nd}{p:Nd->Bool}(j:PredN c l p){s:Nd}(m:s∈l){H:AH}{nx:Nat}{k:AV->AH->Nat->Prop}(h:k (.bool (p s)) H nx):znI Z9 c [.agg (encN s)] H nx k:=by obtain⟨f,b,rfl,g,d,n⟩:=j.ex;rw[zh6];refine⟨g,zd (ze (n s m) ?_) h⟩;simp only[WD,WE,Wn,WF];exact⟨by have:=flN (r:=[]) rfl (e:=s);simpa using this,zd6 d⟩
theorem zCP{c:AV}{l:List Nd}{p:Nd->Bool}(k:PredN c l p){H h:AH}{σ:Nat->Nat->Option (Nat×Nat×Nat)}{D:Nat->Nat->Prop}{t:Bool}:Vw H h σ D t c c:=by
 obtain⟨f,d,rfl,m,j,n⟩:=k.ex;refine .fn _ _ _ _ rfl λi a b e g=>?_
 rw[e]at g;cases g;exact zq (zbF j e)
theorem zop(l:List Nd)(k:AV)(p:Nd->Bool)(o:PredN k l p):zo Z9 zaD [encL 5 encN l,k] (·=.int .i64 (idxI (l.findIdx? p))):=by
 refine fn_x zfj rfl ?_;refine dcU zck.eq_1 ?_;have s:=hBig;refine Gw0 ?_;intros;refine zf (λi:Nat=>([(0,encL 5 encN l),(1,k),(7,.int .i64 l.length),(8,.int .i64 i)],[])) 0 (λi=>i<=l.length/\∀j (h:j<l.length),j<i->p l[j]=false) (λi=>l.length-i) 0 ⟨Wa _,λj _ h=>by omega⟩ (Xb rfl fin5) ?_;intro i ⟨t,c⟩ wf;refine dcU zbM.eq_1 ?_;refine Gw0 ?_;intros;(refine zi (λh=>?_) (λh=>?_))<;>(try simp only[dcd]at h)
 .have b:i<l.length:=by omega
  refine Gw3 (gmp b) @zx @zC ?_;intros;refine zBL o (Wc b) ?_;refine Gw0 ?_;intros;(refine zi (λg=>?_) (λg=>?_))<;>(try simp only[dcd]at g)
  ·(refine Gw1 @za2.eq_1 ?_;intros);have e:l.findIdx? p=some i:=by rw[Wo];exact⟨b,g,λj d=>by rw[c j (by omega) d];simp⟩
   rw[e];exact izO
  ·(refine Gw0 ?_;intros);refine⟨i+1,⟨by omega,λj d n=>?_⟩,by omega,Xb rfl fin5⟩;by_cases m:j=i
   .subst m;simpa using g
   .exact c j d (by omega)
 .unfold zbN;refine Gw1 @za2.eq_1 ?_;intros;have e:l.findIdx? p=none:=by rw[Wp];intro x q;obtain⟨j,d,rfl⟩:=Ww.1 q;exact c j d (by omega)
  rw[e];exact izO
theorem zJx{l:List Nd}{p:Nd->Bool}:decide (idxI (l.findIdx? p) >= 0)=l.any p:=by
 cases h:l.findIdx? p with
 |none=>have:=Wp.1 h;rw[decide_eq_false (by simp[idxI])];symm;rw[WL];intro x d;rw[this x d];simp
 |some i=>obtain⟨b,c,_⟩:=Wo.1 h;rw[decide_eq_true (by simp[idxI])];exact(zww b c).symm
theorem zd7(l:List Nd)(b:AV)(p:Nd->Bool)(c:PredN b l p):zo Z9 zG [encL 5 encN l,b] (·=.bool (l.any p)):=by refine fn_x zeG rfl ?_;refine dcU zbT.eq_1 ?_;refine Gw0 ?_;intros;refine zd (zaB (D:=noR) (zop l b p c) (.cons (zV rfl) (.cons (zCP c) .nil)) (.inl rfl)) ?_;refine Gw1 @zbV.eq_1 ?_;intros;refine⟨_,.bool _ _,?_⟩;rw[<-zJx]
theorem zn3{H:AH}{f r g n:Nat}{c:List AV}(j:H.get r 0=some (.row n [c] g))(h:c.all AV.flat0=true)(k:c.length=n):Vw H [] nos allR false (.fn (.func f) [.ptr r 0 g 0 0]) (.fn (.func f) [encP n c]):=by
 refine .fn _ _ _ _ rfl λi a b d e=>?_
 match i with
 |0=>cases d;cases e;exact zKV trivial j h k
 |i+1=>cases d
theorem Qh{p q:Prop}(k:q)(h:Im q p:=by(repeat first|simp(disch:=try exact dis1) only[evD,Nat.reduceBEq,Nat.reduceAdd,Nat.reduceLeDiff,fldP,dT,dF,zK]|((with_reducible apply Im.i);intro _)|((with_reducible apply Im.a);omega));exact Im.r):p:=h k
theorem zok:∀(k:Nat)(e:Nd)(b:Bool),zap e<=k->zo Z9 zcT [.agg (encN e),.bool b] (·=.bool (!zpR e b)):=by
 intro k
 induction k with
 |zero=>intro e b h;obtain⟨_,_,l⟩:=e;rw[zap]at h;omega
 |succ k C=>
 intro e b z;obtain⟨⟨d,v,lb⟩,c,l⟩:=e;refine fn_x zoH rfl ?_;unfold ziO;have F:=hBig;rw[zap]at z;have t:=zaI ⟨d,v,lb⟩ c l;simp only at t;rw[t,zpR];simp only;have A:∀q:Bool,PredN (.fn (.func zbZ) [encP 1 [.bool q]]) l (zpR · q):=by intro q;refine⟨_,_,rfl,by kernel_rfl,rfl,λs B=>?_⟩;have H:=zeM B;refine fn_x zmX rfl ?_;refine dcU zhe.eq_1 ?_;refine Gw4 @zx @zt @zC @ub ?_;intros;refine zd (ze (C s q (by omega)) flNB) ?_;refine Gw1 @zhc.eq_1 ?_;intros;exact bzO
 have stop:(d=7\/d=8)->b=false->(if (d=7\/d=8)/\b=false then true else zgU l (b||zbE d))=true:=λx y=>if_pos ⟨x,y⟩
 have go:¬((d=7\/d=8)/\b=false)->(if (d=7\/d=8)/\b=false then true else zgU l (b||zbE d))=zgU l (b||zbE d):=λh=>if_neg h
 have w:d≠4->d≠5->zbE d=false:=λm n=>by unfold zbE;exact decide_eq_false (by omega)
 have j:∀(q:Bool),zo Z9 zG [encL 5 encN l,.fn (.func zbZ) [encP 1 [.bool q]]] (·=.bool (zgU l q)):=by intro q;rw[zuh];exact zd7 l _ _ (A q)
 cases b with
 |true=>
  rw[go (by simp),WP];have fin1:=j true;generalize zgU l true=R at fin1;by_cases o:d=7
  ·(refine Qh ?_;intros);refine zd (zaB (D:=allR) fin1 (.cons (zV rfl) (.cons (zn3 rfl rfl rfl) .nil)) (.inl rfl)) ?_;refine Qh ?_;intros;exact bzO
  by_cases p:d=8
  ·(refine Qh ?_;intros);refine zd (zaB (D:=allR) fin1 (.cons (zV rfl) (.cons (zn3 rfl rfl rfl) .nil)) (.inl rfl)) ?_;refine Qh ?_;intros;exact bzO
  refine Qh ?_;intros;refine zd (zaB (D:=allR) fin1 (.cons (zV rfl) (.cons (zn3 rfl rfl rfl) .nil)) (.inl rfl)) ?_;refine Qh ?_;intros;exact bzO
 |false=>
  by_cases o:d=7
  .rw[stop (.inl o) rfl];refine Qh ?_;intros;exact bzO
  by_cases p:d=8
  .rw[stop (.inr p) rfl];refine Qh ?_;intros;exact bzO
  rw[go (by omega),WQ];have g:=j (zbE d);generalize zgU l (zbE d)=R at g;have u:zbE d=decide (d=4\/d=5):=rfl;by_cases m:d=4
  .rw[u,decide_eq_true (.inl m)]at g;refine Qh ?_;intros;refine zd (zaB (D:=allR) g (.cons (zV rfl) (.cons (zn3 rfl rfl rfl) .nil)) (.inl rfl)) ?_;refine Qh ?_;intros;exact bzO
  by_cases n:d=5
  .rw[u,decide_eq_true (.inr n)]at g;refine Qh ?_;intros;refine zd (zaB (D:=allR) g (.cons (zV rfl) (.cons (zn3 rfl rfl rfl) .nil)) (.inl rfl)) ?_;refine Qh ?_;intros;exact bzO
  rw[w m n]at g;refine Qh ?_;intros;refine zd (zaB (D:=allR) g (.cons (zV rfl) (.cons (zn3 rfl rfl rfl) .nil)) (.inl rfl)) ?_;refine Qh ?_;intros;exact bzO
def hasI(l:List Int)(t:Int):Bool:=l.any λx=>decide (x=t)
theorem zq1(l)(t):zo Z9 zfB [za l,.int .i64 t] (·=.bool (hasI l t)):=by
 refine fn_x zvJ rfl ?_;unfold zrp hasI;conv in Z8 _ _=>reduce
 have g:=hBig;generalize e:(l.any λx=>decide (x=t))=R;refine Gw1 @uf ?_;intros;refine zf (λi:Nat=>([(0,za l),(1,.int .i64 t),(5,.int .i64 i)],[])) 0 (λi=>i<=l.length/\((l.drop i).any λx=>decide (x=t))=R) (λi=>l.length-i) 0 ⟨Wa _,e⟩ (Xb rfl fin5) ?_;rintro i ⟨h,b⟩ wf;refine dcU zlQ.eq_1 ?_;by_cases c:i<l.length
 .rw[Wk c,WO]at b;by_cases d:l[i]=t
  .rw[decide_eq_true d,WP]at b;subst b;refine Gw4 @dT @uf (gmp c) @zlt.eq_1 ?_;intros;exact bzO
  .rw[decide_eq_false d,WQ]at b;refine Gw4 @dT @dF @uf (gmp c) ?_;intros;exact⟨i+1,⟨by omega,b⟩,by omega,Xb rfl fin5⟩
 .rw[Wf (by omega)]at b;replace b:R=false:=by rw[<-b];rfl
  subst b;refine Gw2 @dF @uf ?_;intros;unfold zmd;refine Gw1 @zlt.eq_1 ?_;intros;exact bzO
mutual
def zn2:Nd->List Int
 |.mk f _ l=>if f.kind=9 then[f.label]else zlu l
def zlu:List Nd->List Int
 |[]=>[]
 |x::l=>zn2 x++zlu l
end
theorem zpG(l)(t):zo Z9 zbA [za l,.int .i64 t] (λa=>∃n:Int,a=.int .i64 n/\decide (n >= 0)=hasI l t):=by
 refine fn_x zgv rfl ?_;unfold zd4 hasI;conv in Z8 _ _=>reduce
 have j:=hBig;generalize g:(l.any λx=>decide (x=t))=R;refine Gw1 @uf ?_;intros;refine zf (λi:Nat=>([(0,za l),(1,.int .i64 t),(7,.int .i64 l.length),(8,.int .i64 i)],[])) 0 (λi=>i<=l.length/\((l.drop i).any λx=>decide (x=t))=R) (λi=>l.length-i) 0 ⟨Wa _,g⟩ (Xb rfl fin5) ?_;rintro i ⟨k,b⟩ wf;refine dcU zc9.eq_1 ?_;by_cases e:i<l.length
 .rw[Wk e,WO]at b;by_cases d:l[i]=t
  .rw[decide_eq_true d,WP]at b;subst b;have c:decide (t=l[i])=true:=decide_eq_true d.symm;refine Gw5 @dT c @uf (gmp e) @zbj.eq_1 ?_;intros;exact⟨_,.int _ _ _,i,rfl,decide_eq_true (by omega)⟩
  .rw[decide_eq_false d,WQ]at b;have c:decide (t=l[i])=false:=decide_eq_false (λh=>d h.symm);refine Gw4 @dT c @uf (gmp e) ?_;intros;exact⟨i+1,⟨by omega,b⟩,by omega,Xb rfl fin5⟩
 .rw[Wf (by omega)]at b;replace b:R=false:=by rw[<-b];rfl
  subst b;refine Gw2 @dF @uf ?_;intros;unfold zc3;refine Gw1 @zbj.eq_1 ?_;intros;exact⟨_,.int _ _ _,-1,rfl,rfl⟩
theorem zm5(l)(t):zo Z9 zS [za l,.int .i64 t] (·=.bool (hasI l t)):=by refine fn_x ze5 rfl ?_;refine dcU zc4.eq_1 ?_;have c:=hBig;refine Gw0 ?_;intros;refine zlq (D:=noR) (zpG l t) (.cons (zV rfl) (.cons (zV rfl) .nil)) (λa ⟨n,h,_⟩=>.inl (by rw[h];rfl)) ?_;rintro _ ⟨n,rfl,b⟩;refine Gw2 b @zda.eq_1 ?_;intros;exact bzO
def wOk(l:List Bl)(b:Int):Bool:=if b<0 then false else match l[b.toNat]? with
 |none=>false
 |some x=>decide (x.stmts.length=1)
mutual
def zuV(g:List Bl):Nd->Bool
 |.mk f _ l=>if f.kind=5/\wOk g f.block=false then false else zog g l
def zog(g:List Bl):List Nd->Bool
 |[]=>true
 |x::l=>zuV g x&&zog g l
end
end Go.Ab
