/-
  Part 22 of the proof: how the calls of this program run, over values instead of memory, and what each function computes.
-/
import Derived.Test.YtmlhipilbnjhiaaGreatPu
set_option maxRecDepth 100000
set_option linter.unusedVariables false
set_option linter.unusedSimpArgs false
set_option linter.unnecessarySimpa false
set_option linter.unusedSectionVars false
open Go.Ab.Ent renaming tab->Xa,keep->Xc,tabB->Xh
open Go.Ab.Bl renaming cells->Xb
open Go.Ab.St renaming cells->Xd
open Nat renaming reduceBEq->Xe,reduceAdd->Xf,reduceLeDiff->Xg,reduceSub->Xi,reduceLT->Xj,le_trans->Xk,mul_one->Xl,add_zero->Xm,zero_add->Xn
open Go.Proofs.Tryz renaming prog->Z9
open Nat renaming zero_le→Wa,le_refl→Wg,mul_le_mul→WD
open List renaming getElem_mem→Wc,append_nil→Wd,getD_eq_getElem?_getD→We,map_append→Wf,length_map→Wh,append_assoc→Wi,length_append→Wj,drop_of_length_le→Wk,eq_nil_of_length_eq_zero→Wl,getElem?_eq_getElem→Wm,drop_eq_getElem_cons→Wn,range→Wo,length_take→Wp,all_cons→Wq,findIdx?_eq_some_iff_getElem→Wr,findIdx?_eq_none_iff→Ws,take_length→Wt,getElem?_map→Wu,mem_map→Wv,take_zero→Ww,mem_iff_getElem→Wy,map_set→Wz,map_map→WA,length_singleton→WB,singleton_append→WC,replicate→WE,length_cons→WF,length_filter_le→WG,cons_append→WH,nil_append→WI,length_set→WK,length_nil→WL,getElem_map→WM,getElem?_append_right→WP,length_range→WQ,take_of_length_le→WR,any_eq_false→WS,any_eq_true→WU,take_succ_cons→WV
open Bool renaming true_and→Wx,and_eq_true→WJ
open Array renaming getElem?_modify→WN
open Option renaming map_eq_some_iff→WO
namespace Go.Ab.Dm
open Go.RowKit Go.Proofs
theorem zez(g:Gr)(b:g.small):zq Z9 zao [.agg g.cells] (·=encNN (predL g.E)):=by rw[<-ztY];exact ziP g b
theorem zuM{c}:tI (some c)=(c:Int):=rfl
theorem predL_suc{E:Adj}{k:Nat}(h:k<(predL E).length):suc (predL E) k=(predL E)[k]:=zkt h
theorem zsJ(g:Gr)(B:g.small):zG Z9 zdY [.agg g.cells] [] 0
  (λv H nx=>∃gs,v=.own 0 0 0 0 g.blocks.length/\H=[(0,.row 1 (fe 1 g.blocks.length (nx1 g.E g.blocks.length) gs) 0),(1,.fam 1 (fi cN g.blocks.length (nx1 g.E g.blocks.length) gs))]/\nx=2):=by
 refine zaC (fn_x zsu rfl ?_);refine dcU znc.eq_1 ?_;have J:=hBig;have u:=g.E_len;have K:=B.1;have C:=zez g B;have w:(predL g.E).length=g.blocks.length:=by rw[predL_len,u]
 refine Gw2 @ue @uk ?_;intros;refine ze (zh C rfl) ?_;refine Gw1 @ud ?_;intros
 refine zd (λs:Nat×(Nat->Nat)=>([(3,.own 0 0 0 0 g.blocks.length),(13,encNN (predL g.E)),(14,.int .i64 g.blocks.length),(15,.int .i64 s.1)],[(0,.row 1 (fe 1 g.blocks.length (nx1 g.E s.1) s.2) 0),(1,.fam 1 (fi cN g.blocks.length (nx1 g.E s.1) s.2))])) 2
  (λs=>s.1<=g.blocks.length) (λs=>g.blocks.length-s.1) (0,λ_=>0) (Wa _) (Xa [(0,1,0)] [] rfl (Gin4_3 @ud @zzs w) (Gin4_3 @ud @zzs w)) ?_
 rintro⟨k,gs⟩ hk wf;simp only at hk;refine dcU zjQ.eq_1 ?_;refine Gw1 @ud ?_;intros;(refine zc (λh=>?_) (λh=>?_))<;>(try simp only[dcd]at h)
 .have F:k<g.blocks.length:=by omega
  have t:k<(predL g.E).length:=by omega
  have y:=predL_suc t;have x:=zqw (E:=g.E) (b:=k);rw[y]at x;refine Gw2 (gmp t) @ub ?_;intros
  refine zd (λs:Nat×(Nat->Nat)=>([(3,.own 0 0 0 0 g.blocks.length),(4,.int .i64 k),(13,encNN (predL g.E)),(14,.int .i64 g.blocks.length),(15,.int .i64 k),(20,za (predL g.E)[k]),(21,.int .i64 (predL g.E)[k].length),(22,.int .i64 s.1)],[(0,.row 1 (fe 1 g.blocks.length (nx2 g.E k s.1) s.2) 0),(1,.fam 1 (fi cN g.blocks.length (nx2 g.E k s.1) s.2))])) 2
   (λs=>s.1<=(predL g.E)[k].length) (λs=>(predL g.E)[k].length-s.1) (0,gs) (Wa _) (Xa [(0,0,0),(1,1,0)] [] rfl (Gin4_2 @ud @zz7) (Gin4_2 @ud @zz7)) ?_
  rintro⟨i,o⟩ hi wf;simp only at hi;refine dcU zj0.eq_1 ?_;refine Gw2 @ud @ub ?_;intros;(refine zc (λz=>?_) (λz=>?_))<;>(try simp only[dcd]at z)
  .have q:i<(predL g.E)[k].length:=by omega
   have e:i<(suc (predL g.E) k).length:=by rw[y];exact q
   have m:=zHL (E:=g.E) (b:=k) (i:=i) e;have j:=zJs (E:=g.E) (b:=k) (i:=i) e;have d:(suc (predL g.E) k)[i]<g.blocks.length:=by have:=((mem_predL (E:=g.E) (by omega)).1 (Wc e)).1;omega
   simp only[y]at m j d;refine Gw1 (gmp q) ?_;intros;generalize (predL g.E)[k][i]=p at m j d⊢;have I:=zJH (E:=g.E) (b:=k) (i:=i) (p:=p)
   (repeat first|simp(disch:=try exact dis1) only[evD,Xe,Xf,Xg,zn1,zrL d]|with_reducible first|intro _|refine aJ ?_)
   refine ze (zaQ (D:=allR) (zcm (nx2 g.E k i p) k) (.cons (zc4 trivial (zqP (c:=cN) (n:=g.blocks.length) (ll:=nx2 g.E k i) (gs:=o) rfl d) (by omega)) (.cons (.int _ _ _) .nil)) (.inl rfl)) ?_;rw[decide_eq_false j]
   (repeat first|simp(disch:=try exact dis1) only[evD,Xe,Xf,Xg,zn1,zrL d,zlm d,ztQ (c:=cN) (a:=k) (ca:=[AV.int .i64 (k:Int)]) rfl,zuB (ll:=nx2 g.E k i) (k:=p) k rfl]|with_reducible intro _|((with_reducible apply And.intro);omega))
   rw[m];exact⟨(i+1,_),by simp only;omega,by simp only;omega,(Xa [(0,0,0),(1,1,0)] [] rfl (Gin4_1 @ud) (Gin4_1 @ud))⟩
  .obtain rfl:i=(predL g.E)[k].length:=by omega
   have A:=zJj (E:=g.E) (b:=k) (by omega);rw[y]at A;rw[A];refine dcU zjF.eq_1 ?_;refine Gw0 ?_;intros;exact⟨(k+1,o),by simp only;omega,by simp only;omega,(Xa [(0,0,0),(1,1,0)] [] rfl (Gin4_1 @ud) (Gin4_1 @ud))⟩
 .obtain rfl:k=g.blocks.length:=by omega
  unfold zjL;refine Gw1 @zm5.eq_1 ?_;intros;exact⟨.own 0 0 0 0 g.blocks.length,_,2,(Xa [(0,0,0),(1,1,0)] [] rfl Gin4_0 Gin4_0),gs,rfl,rfl,rfl⟩
theorem zkU(g:Gr)(b:g.small):zq Z9 zdY [.agg g.cells] (·=encNN (zls g.E)):=by
 refine zG.mono (zsJ g b) ?_;rintro v H nx ⟨c,rfl,rfl,rfl⟩;refine⟨_,?_,rfl⟩;have d:=b.1;have e:zls g.E=(Wo g.blocks.length).map (nx1 g.E g.blocks.length):=by unfold zls;rw[g.E_len]
 rw[e,zxZ];exact zyL trivial rfl (by unfold big;omega) rfl (λ_ _=>trivial) (λi _=>Xk zpr (by unfold big;omega)) (λ_=>rfl)
def cP(e:Nat×Nat):List AV:=[.int .i64 (e.1:Int),.int .i64 (e.2:Int)]
def zia(l:List (Nat×Nat)):AV:=encL 2 cP l
def bk2(E:Adj)(a i:Nat):List (Nat×Nat):=bk1 E a++bkA E a ((nx1 E E.length a).take i)
theorem zzy{E:Adj}:bk1 E 0=[]:=rfl
theorem zzl{E:Adj}{a:Nat}:bk2 E a 0=bk1 E a:=by simp[bk2,bkA]
theorem zIt{E:Adj}{a:Nat}(h:a∈ordE E):bk2 E a (nx1 E E.length a).length=bk1 E (a+1):=by unfold bk2;rw[Wt,zt7,if_pos h]
theorem zGP{E:Adj}{a:Nat}(h:a∉ordE E):bk1 E (a+1)=bk1 E a:=by rw[zt7,if_neg h,Wd]
theorem zGX{E:Adj}{a i:Nat}(h:i<(nx1 E E.length a).length):bk2 E a (i+1)=bk2 E a i++if isBk E a (nx1 E E.length a)[i]then[(a,(nx1 E E.length a)[i])]else[]:=by unfold bk2;rw[zHD h,Wi]
theorem zIJ{E:Adj}{a i:Nat}(h:a<E.length)(c:E.length<=1000):(bk2 E a i).length<=1001000:=by
 unfold bk2;rw[Wj];have d:=zxK (E:=E) (a:=a);have e:=zEU (E:=E) (a:=a) (l:=(nx1 E E.length a).take i);have g:((nx1 E E.length a).take i).length<=E.length:=by rw[Wp];have:=zpr (E:=E) (b:=E.length) (p:=a);omega
 have:a*E.length<=1000*1000:=WD (by omega) c;omega
theorem zuV{E:Adj}(d:E.ok){a:Nat}(e:a<E.length):((zlc E).map λb=>[AV.bool b]).getD a []=[.bool (decide (a∈ordE E))]:=by
 rw[<-zvM d];unfold inB;rw[zi (by rw[zqI];exact e)];simp only[mapR,WM,List.getElem_range];have c:orderL E=ordE E:=by unfold orderL ordE ordL;rw[if_neg (by omega)]
 rw[c]
theorem zoW(g:Gr)(v:g.small):zq Z9 zd0 [.agg g.cells] (·=zia (zgX g.E)):=by
 refine fn_x znY rfl ?_;refine dcU zjg.eq_1 ?_;have H:=hBig;have c:=g.E_len;have J:=v.1;have B:=zjU g v;have A:=zf9 g v;have z:=zkU g v;have F:(treeL g.E).length=g.blocks.length:=by simp[treeL,c]
 have u:(zlc g.E).length=g.blocks.length:=by simp[zlc,c]
 have h:(zls g.E).length=g.blocks.length:=by simp[zls,c]
 have t:∀k,k<g.blocks.length->((zls g.E).map λl=>[za l]).getD k []=[za (nx1 g.E g.E.length k)]:=λk x=>by rw[zi (by omega)];simp[zls]
 have y:=λa b=>zlq (treeL g.E) a b (by omega)
 refine Gw2 @ue @uk ?_;intros;refine ze (zh B rfl) ?_;refine Gw2 @ue @uk ?_;intros;refine ze (zh A rfl) ?_;refine Gw2 @ue @uk ?_;intros;refine ze (zh z rfl) ?_;refine Gw1 @ud ?_;intros
 refine zd (λs:Nat×Nat=>([(3,zb (treeL g.E)),(4,zcC (zlc g.E)),(5,.own 0 0 s.2 0 (bk1 g.E s.1).length),(15,encNN (zls g.E)),(16,.int .i64 g.blocks.length),(17,.int .i64 s.1)],[(0,.row 2 ((bk1 g.E s.1).map cP) s.2)])) 1
  (λs=>s.1<=g.blocks.length) (λs=>g.blocks.length-s.1) (0,0) (Wa _) (Xa [(0,1,0)] [] rfl (Gin2_3 @ud h @zzy) (Gin2_3 @ud h @zzy)) ?_
 rintro⟨k,γ⟩ x wf;simp only at x;refine dcU zgN.eq_1 ?_;by_cases q:k<g.blocks.length
 case neg=>
  obtain rfl:k=g.blocks.length:=by omega
  refine Gw1 @dF ?_;intros;unfold zg0;refine Gw1 @zja.eq_1 ?_;intros;refine⟨_,?_,rfl⟩;rw[show zgX g.E=bk1 g.E g.blocks.length by unfold zgX;rw[c]];have w:=zxK (E:=g.E) (a:=g.blocks.length);have:g.blocks.length*g.E.length<=1000*1000:=WD (by omega) (by omega)
  exact zkp trivial rfl (by omega) (λa _ j I=>by
   match j with
   |0=>exact .int _ _ _
   |1=>exact .int _ _ _
   |j+2=>omega)
 have m:=zuV g.E_ok (a:=k) (by omega);by_cases e:k∈ordE g.E
 case neg=>
  rw[decide_eq_false e]at m
  (repeat first|simp(disch:=try exact dis1) only[evD,Xe,Xf,Xg,dT,encNN,zcC,t k q,m,u,h]|with_reducible first|intro _|refine aJ ?_)
  refine dcU zdR.eq_1 ?_;refine Gw0 ?_;intros;exact⟨(k+1,γ),by simp only;omega,by simp only;omega,by rw[zGP e];exact(Xa [(0,0,0)] [] rfl (Gin2_1 @ud) (Gin2_1 @ud))⟩
 rw[decide_eq_true e]at m
 (repeat first|simp(disch:=try exact dis1) only[evD,Xe,Xf,Xg,dT,encNN,zcC,t k q,m,u,h]|with_reducible first|intro _|refine aJ ?_)
 refine Gw1 @ub ?_;intros;have D:=zpr (E:=g.E) (b:=g.E.length) (p:=k)
 refine zd (λs:Nat×Nat=>([(3,zb (treeL g.E)),(4,zcC (zlc g.E)),(5,.own 0 0 s.2 0 (bk2 g.E k s.1).length),(6,.int .i64 k),(15,encNN (zls g.E)),(16,.int .i64 g.blocks.length),(17,.int .i64 k),(27,za (nx1 g.E g.E.length k)),(28,.int .i64 (nx1 g.E g.E.length k).length),(29,.int .i64 s.1)],[(0,.row 2 ((bk2 g.E k s.1).map cP) s.2)])) 1
  (λs=>s.1<=(nx1 g.E g.E.length k).length) (λs=>(nx1 g.E g.E.length k).length-s.1) (0,γ) (Wa _) (Xa [(0,0,0)] [] rfl (Gin2_2 @ud @zzl) (Gin2_2 @ud @zzl)) ?_
 rintro⟨i,n⟩ hi wf;simp only at hi;refine dcU zgO.eq_1 ?_;by_cases o:i<(nx1 g.E g.E.length k).length
 case neg=>
  obtain rfl:i=(nx1 g.E g.E.length k).length:=by omega
  refine Gw1 @dF ?_;intros;refine dcU zdR.eq_1 ?_;refine Gw0 ?_;intros;exact⟨(k+1,n),by simp only;omega,by simp only;omega,by rw[<-zIt e];exact(Xa [(0,0,0)] [] rfl (Gin2_1 @ud) (Gin2_1 @ud))⟩
 have d:=zGX (E:=g.E) (a:=k) (i:=i) o;have C:=zIJ (E:=g.E) (a:=k) (i:=i) (by omega) (by omega);have hd:=y ((nx1 g.E g.E.length k)[i]:Nat) k;refine Gw3 @dT @ub (gmp o) ?_;intros;generalize (nx1 g.E g.E.length k)[i]=p at d hd⊢;refine ze (zh hd rfl) ?_
 cases w:domL (treeL g.E) p k with
 |true=>rw[if_pos (show isBk g.E k p=true from w)]at d;refine Gw0 ?_;intros;exact⟨(i+1,n+1),by simp only;omega,by simp only;omega,by rw[d];exact(Xa [(0,0,0)] [] rfl (Gin2_8 @ud @m9A @m9P @ui @uh @m9C @m9N @cP.eq_1) (Gin2_8 @ud @m9A @m9P @ui @uh @m9C @m9N @cP.eq_1))⟩
 |false=>rw[if_neg (show ¬isBk g.E k p=true by unfold isBk;rw[w];decide),Wd]at d;refine Gw0 ?_;intros;exact⟨(i+1,n),by simp only;omega,by simp only;omega,by rw[d];exact(Xa [(0,0,0)] [] rfl (Gin2_1 @ud) (Gin2_1 @ud))⟩
end Go.Ab.Dm
namespace Go.Ab
open Go.RowKit Go.Proofs Go.Sort Go.Shelf
theorem zCC{α:Type}[Inhabited α]{w:World}{b j off:Nat}{k:α->Value}{d:Array α}(h:FzOk w b):FzOk (putRow k w j off d) b:=by
 intro c e u s g;unfold putRow mapBlock at g;simp only[WN]at g;by_cases p:j=b
 .subst p;rw[if_pos rfl]at g
  cases n:w.heap[j]? with
  |none=>rw[n]at g;cases g
  |some o=>
   rw[n]at g
   cases o with
   |cells c0 q f0=>
    obtain⟨v,t⟩:=f0;simp only[Option.map_some,onCells,Option.some.injEq,Obj.cells.injEq,Prod.mk.injEq]at g;obtain⟨rfl,rfl,rfl,rfl⟩:=g;rcases h c0 q _ _ n with m|m
    .exact .inl m
    .exact .inr (by unfold putCells;simpa using m)
   |_=>simp[onCells]at g
 .rw[if_neg p]at g;exact h c e u s g
section
variable {w:World}{L:Nat->Prop}{ι:Inj}{H:AH}{nx:Nat}
theorem zCu{r q g:Nat}{zs:List Int}(F:H.get r q=some (.row 1 (zs.map λn=>[.int .i64 n]) g))(hlen:zs.length<=1000000):
  zG Z9 zdW [.own r q g 0 zs.length] H nx (λv H' nx'=>(v,H',nx')=(.tup [],H.set r q (.row 1 ((zmN zs).map λn=>[.int .i64 n]) g),nx)):=by
 intro w L ι vs rel hv
 obtain⟨mv,hvs,hmv⟩:∃mv,vs=#[mv]/\VR w (Lt L ι H) ι mv (.own r q g 0 zs.length):=by
  rcases vs with ⟨l⟩
  cases hv with
  |cons s t=>cases t;exact⟨_,rfl,s⟩
 subst hvs;have C:(zmN zs).length=zs.length:=(zd4 zs).length_eq
 cases hmv with
 |own _ _ _ _ _ _ a c l J d hn hc N=>
  obtain⟨l',S,ok⟩:=rel.row _ _ _ _ _ F;rw[J]at S;cases S;have y:∀l0,ι r q g=some l0->l0=l:=λl0 V=>by rw[J]at V;cases V;rfl
  have U:l.sz=1:=ok.hsz;have nil:∀{M:Nat->Prop}{ι':Inj}{A:World},VR A M ι' (.tuple #[]) (.tup []):=.tup _ _ _ rfl (λi v a h=>by simp at h);rcases Nat.eq_zero_or_pos zs.length with V|o
  .obtain rfl:zs=[]:=Wl V;refine(AnyM.slices_Sort_int_none zun a c w).mono λe A ⟨he,p⟩=>?_
   subst p;have X:Chg A ι H r q g l A:=⟨rfl,rfl,rfl,Wg _,λ_ _ _=>rfl,λo=>.inl ⟨1,_,g,l,F,J,o,rfl⟩,y,λY l2 t=>rel.gen r q _ _ _ F Y l2 t⟩;refine⟨_,_,_,_,_,he,X.step (.inl ⟨_,_,F⟩) rel (rel.idx _ _ _ _ J) (Wg _) (.mk' ok.hsz (ok.plain d).len d (ok.plain d).there (ok.plain d).fz (λi c h=>by simp[zmN]at h) (λi c' j a s t=>by simp[zmN]at s)),Wg _,nil,rfl⟩
  .obtain rfl:=N (by omega);have T:l.off+0*l.sz=l.off:=by omega
   rw[T];have u:0<l.cap*l.sz:=by rw[U];omega
   have m:=ok.blk_lt u;have D:∀{W:List Int}{j:Nat},j<W.length->(W.toArray)[j]! = W.getD j 0:=λ{W j} h=>by simp[h,List.getD]
   have P:∀j,j<zs.length->w.cell? ⟨l.block,l.off+j,none⟩=some (.int .i64 (zs.getD j 0))/\InR .i64 (zs.getD j 0):=by
    intro j K;have e:zs.getD j 0=zs[j]:=by simp[List.getD,K]
    obtain⟨v,s,_,t⟩:=ok.holds d j [.int .i64 zs[j]] 0 (.int .i64 zs[j]) (by rw[Wu,Wm K];rfl) rfl
    cases t with
    |int _ _ _ h3=>rw[e];simp only[Xl,Xm]at s;exact⟨s,h3⟩
   have hH:Holds (Value.int .i64) w l.block l.off zs.toArray:=λj K=>by
    have Q:j<zs.length:=by simpa using K
    rw[D Q];exact⟨(P j Q).1,((ok.plain d).there j (by have:=(ok.plain d).len;simp only[Wh]at this;omega)).2⟩
   refine(AnyM.slices_Sort_int zun l.block l.off c zs w hH m (by omega)).mono λe A ⟨he,n,os,p⟩=>?_
   rw[zmk (List.Perm.refl zs)]at p;have x:∀j,j<zs.length->A.cell? ⟨l.block,l.off+j,none⟩=some (.int .i64 ((zmN zs).getD j 0)):=λj K=>by rw[p,cell?_grow _ _ _ (by simpa using m),putRow_ahead,cell?_ahead,cell?_putRow _ _ _ _ zs.toArray _ hH (by simpa using C) j (by simpa [C]using K),D (by omega)]
   have B:∀a:Addr,a.block<w.heap.size->(a.block≠l.block\/a.off<l.off\/l.off+zs.length<=a.off)->A.cell? a=w.cell? a:=λa N hx=>by rw[p,cell?_grow _ _ _ (by simpa using N),putRow_ahead,cell?_ahead,cell?_putRow_other _ _ _ _ _ _ (by simpa [C]using hx)]
   have O:∀a:Addr,a.block<w.heap.size->A.frozen? a=w.frozen? a:=λa N=>by rw[p,frozen?_grow _ _ _ (by simpa using N),putRow_ahead,frozen?_ahead,frozen?_putRow]
   have I:∀b,b<w.heap.size->b≠l.block->A.heap[b]?=w.heap[b]? := λb Z hne=>by rw[p,heap_grow_old _ _ (by simpa using Z)];simp only[putRow,mapBlock,heap_ahead,WN];rw[if_neg (Ne.symm hne)]
   have X:Chg w ι H r q g l A:=⟨by rw[p];rfl,by rw[p];rfl,by rw[p];rfl,by rw[p];simp,λb Z hn=>I b Z (λhbe=>hn ⟨1,_,g,l,F,J,u,hbe.symm⟩),λo=>.inl ⟨1,_,g,l,F,J,o,rfl⟩,y,λY l2 t=>rel.gen r q _ _ _ F Y l2 t⟩;have hfz:FzOk A l.block:=by have s:FzOk (putRow (Value.int .i64) (Sort.ahead w n) l.block l.off (zmN zs).toArray) l.block:=zCC (((ok.plain d).fz (by rw[<-U];exact u)).of_heap rfl);rw[p];exact s.of_heap (heap_grow_old _ _ (by simpa using m))
   refine⟨_,_,_,_,_,he,X.step (.inl ⟨_,_,F⟩) rel (rel.idx _ _ _ _ J) (Wg _) (.mk' ok.hsz (by have:=(ok.plain d).len;simp only[Wh]at this⊢;omega) d (λk R=>?_) (λ_=>hfz) (λi c h=>?_) (λi c' j a s t=>?_)),Wg _,nil,rfl⟩
   .rw[O _ m];refine⟨?_,((ok.plain d).there k R).2⟩;by_cases hk2:k<zs.length
    .rw[x k hk2];rfl
    .rw[B _ m (.inr (.inr (by simp only;omega)))];exact((ok.plain d).there k R).1
   .rw[Wu]at h;obtain⟨z,_,rfl⟩:=WO.1 h;rfl
   .rw[Wu]at s;obtain⟨z,hz,rfl⟩:=WO.1 s
    match j with
    |0=>
     cases t;have hi:i<zs.length:=by rw[<-C];exact(List.getElem?_eq_some_iff.1 hz).1
     refine⟨.int .i64 z,?_,rfl,.int _ _ _ ?_⟩
     .simp only[Xl,Xm];rw[x i hi,We,hz];rfl
     .obtain⟨k,R,hke⟩:=Wy.1 ((zd4 zs).mem_iff.1 (List.mem_of_getElem? hz));have:=(P k R).2;simp only[List.getD,Wm R,Option.getD_some]at this;rw[hke]at this;exact this
    |j+1=>cases t
end
end Go.Ab
namespace Go.Ab
open Go.RowKit Go.Proofs Go.Ab.Dm
def zjV(l:List Int)(j:Nat):Bool:=j == 0||(l.getD j 0 != l.getD (j-1) 0)
def zbr(l:List Int)(n:Nat):List Int:=(filR (zjV l) n).map (λj=>l.getD j 0)
def zfT(l:List Int):List Int:=zbr l l.length
theorem zBk{l}{n}:(zbr l n).length<=n:=by unfold zbr;rw[Wh];exact filR_le
theorem zs6{l}{j}(b:j<l.length)(h:zjV l j=true):zbr l (j+1)=zbr l j++[l[j]]:=by unfold zbr;rw[filR_pos h,Wf];simp[We,b]
theorem zvT{l}{j}(h:zjV l j=false):zbr l (j+1)=zbr l j:=by unfold zbr;rw[filR_neg h]
theorem ztg{l}{n}(c:n<=l.length)(h:∀j,j<n->zjV l j=true):zbr l n=l.take n:=by
 induction n with
 |zero=>rfl
 |succ n ih=>rw[zs6 (by omega) (h n (by omega)),ih (by omega) (λj b=>h j (by omega)),List.take_add_one,Wm (by omega)];rfl
theorem zo1{l}{j}(c:1<=j)(b:j<l.length):zjV l j=(l[j] != l[j-1]):=by unfold zjV;rw[We,We,Wm b,Wm (show j-1<l.length by omega)];simp;omega
def curI(K l:List Int):List Int:=K++l.drop K.length
theorem zzk{K l}(h:K.length<=l.length):(curI K l).length=l.length:=by simp[curI];omega
theorem zFR{K l}{j}(h:K.length<=j)(b:j<l.length):(curI K l)[j]?=some l[j]:=by unfold curI;rw[WP h,List.getElem?_drop,show K.length+(j-K.length)=j by omega,Wm b]
theorem zuS{K l}{j}(h:K.length<=j)(b:j<l.length):((curI K l).map cI).getD j []=[.int .i64 l[j]]:=by simp[We,zFR h b]
theorem zHC{K l}{v}(h:K.length<l.length):(curI K l).set K.length v=curI (K++[v]) l:=by unfold curI;rw[List.set_append_right _ _ (Wg _),Nat.sub_self,Wn h,List.set_cons_zero];simp
theorem zEW{K l}{v}(h:K.length<l.length):((curI K l).map cI).set K.length [.int .i64 v]=(curI (K++[v]) l).map cI:=by rw[<-zHC h,Wz]
theorem zB8{l}{n}(h:n<=l.length):curI (l.take n) l=l:=by unfold curI;rw[Wp,Nat.min_eq_left h,List.take_append_drop]
theorem ztK(l)(g)(Z:l.length<=100000000000):
  zG Z9 zan [.own 0 0 g 0 l.length] [(0,.row 1 (l.map cI) g)] 1
   (λv H nx=>∃m,v=.own 0 0 g 0 (zfT l).length/\H=[(0,.row 1 ((zfT l++m).map cI) g)]/\nx=1):=by
 refine zaC (fn_x zex rfl ?_);refine dcU zcs.eq_1 ?_;have Y:=hBig;have s:∀K m,(∀j,j<l.length->zjV l j=true)->K=(4,AV.undef)->m=0->zfT l=l:=λK m h _ _=>by unfold zfT;rw[ztg (Wg _) h,Wt]
 refine Gw0 ?_;intros;(refine zc (λh=>?_) (λh=>?_))<;>(try simp only[dcd]at h)
 ·(refine Gw1 @zZ.eq_1 ?_;intros)
  have b:∀j,j<l.length->zjV l j=true:=λj S=>by
   have:j=0:=by omega
   subst this;rfl
  have e:=s (4,.undef) 0 b rfl rfl;refine⟨.own 0 0 g 0 l.length,[(0,.row 1 ((l++[]).map cI) g)],1,?_,[],by rw[e],by rw[e],rfl⟩;rw[Wd];exact(Xh [(0,0,0)] [] rfl rfl rfl Qd Qd)
 refine Gw0 ?_;intros;refine zd (λi:Nat=>([(0,.own 0 0 g 0 l.length),(3,.int .i64 i)],[(0,.row 1 (l.map cI) g)])) 1 (λi=>1<=i/\i<=l.length/\∀j,j<i->zjV l j=true) (λi=>l.length-i) 1 ⟨by omega,by omega,λj S=>(by rw[show j=0 by omega];rfl)⟩ (Xh [(0,0,0)] [] rfl rfl rfl Qd Qd) ?_;intro i ⟨x,W,b⟩ wf;refine dcU zbQ.eq_1 ?_;refine Gw0 ?_;intros;(refine zc (λO=>?_) (λO=>?_))<;>(try simp only[dcd]at O)
 .have n:i<l.length:=by omega
  have y:i-1<l.length:=by omega
  have T:((i:Int)-1).toNat=i-1:=by omega
  refine Gw3 (gmp n) T (gmp y) ?_;intros;(refine zc (λP=>?_) (λP=>?_))<;>(try simp only[dcd]at P)
  .have o:zjV l i=false:=by rw[zo1 x n];simp;omega
   have I:zbr l i=l.take i:=ztg (by omega) b;have z:zbr l (i+1)=l.take i:=by rw[zvT o,I]
   have k:(zbr l (i+1)).length=i:=by rw[z,Wp];omega
   have c:curI (zbr l (i+1)) l=l:=by rw[z,zB8 (by omega)]
   have B:((l.length:Int)-i).toNat=l.length-i:=by omega
   refine Gw1 B ?_;intros
   refine zd (λa:Nat=>([(0,.own 0 0 g 0 l.length),(3,.int .i64 (zbr l (i+a)).length),(4,.own 0 0 g i (l.length-i)),(5,.int .i64 a)],[(0,.row 1 ((curI (zbr l (i+a)) l).map cI) g)])) 1
    (λa=>1<=a/\i+a<=l.length/\(zbr l (i+a)).length<i+a) (λa=>l.length-(i+a)) 1 ⟨by omega,by omega,by omega⟩ (Xh [(0,0,0)] [] rfl rfl rfl (Gin2_2 c k) (Gin2_2 c k)) ?_
   intro a ⟨U,V,C⟩ wf;refine dcU zbJ.eq_1 ?_;refine Gw0 ?_;intros;(refine zc (λQ=>?_) (λQ=>?_))<;>(try simp only[dcd]at Q)
   .have d:i+a<l.length:=by omega
    have t:i+a-1<l.length:=by omega
    have L:i+((a:Int)-1).toNat=i+a-1:=by omega
    have M:=zuS (K:=zbr l (i+a)) (l:=l) (by omega) d;have N:=zuS (K:=zbr l (i+a)) (l:=l) (by omega) t;have u:=zzk (K:=zbr l (i+a)) (l:=l) (by omega);refine Gw3 L M N ?_;intros;(refine zc (λR=>?_) (λR=>?_))<;>(try simp only[dcd]at R)
    .have J:zjV l (i+a)=true:=by rw[zo1 (by omega) d];simp;omega
     have q:=zs6 d J;have A:=zEW (K:=zbr l (i+a)) (l:=l) (v:=l[i+a]) (by omega);rw[<-q]at A;have p:(zbr l (i+a+1)).length=(zbr l (i+a)).length+1:=by rw[q];simp
     refine Gw4 L M N A ?_;intros;exact⟨a+1,⟨by omega,by omega,by rw[show i+(a+1)=i+a+1 by omega,p];omega⟩,by omega,(Xh [(0,0,0)] [] rfl rfl rfl (Gin2_2 (show i+(a+1)=i+a+1 by omega) p) (Gin2_2 (show i+(a+1)=i+a+1 by omega) p))⟩
    .have J:zjV l (i+a)=false:=by rw[zo1 (by omega) d];simp;omega
     have q:=zvT J;refine Gw0 ?_;intros;exact⟨a+1,⟨by omega,by omega,by rw[show i+(a+1)=i+a+1 by omega,q];omega⟩,by omega,(Xh [(0,0,0)] [] rfl rfl rfl (Gin2_2 (show i+(a+1)=i+a+1 by omega) q) (Gin2_2 (show i+(a+1)=i+a+1 by omega) q))⟩
   .have D:i+a=l.length:=by omega
    rw[D]at C⊢;have X:((l.length:Int)-(zbr l l.length).length).toNat=l.length-(zbr l l.length).length:=by omega
    have u:=zzk (K:=zbr l l.length) (l:=l) (by omega);have w:((curI (zbr l l.length) l).map cI).take (zbr l l.length).length++WE (l.length-(zbr l l.length).length) [AV.int .i64 0]++((curI (zbr l l.length) l).map cI).drop ((zbr l l.length).length+(l.length-(zbr l l.length).length))=(zbr l l.length++WE (l.length-(zbr l l.length).length) 0).map cI:=by rw[Wk (by rw[Wh,u];omega),Wd,<-List.map_take,Wf,List.map_replicate];congr 2;unfold curI;rw[List.take_append_of_le_length (Wg _),Wt]
    refine dcU zbP.eq_1 ?_;refine Gw3 @zZ.eq_1 X w ?_;intros;refine⟨.own 0 0 g 0 (zfT l).length,[(0,.row 1 ((zfT l++WE (l.length-(zbr l l.length).length) 0).map cI) g)],1,?_,_,rfl,rfl,rfl⟩;exact(Xh [(0,0,0)] [] rfl rfl rfl (Gin2_1 @zfT.eq_1) (Gin2_1 @zfT.eq_1))
  .have o:zjV l i=true:=by rw[zo1 x n];simp;omega
   refine dcU zbI.eq_1 ?_;refine Gw0 ?_;intros;refine⟨i+1,⟨by omega,by omega,λj S=>?_⟩,by omega,(Xh [(0,0,0)] [] rfl rfl rfl Qd Qd)⟩;by_cases F:j=i
   .subst F;exact o
   .exact b j (by omega)
 .obtain rfl:i=l.length:=by omega
  unfold zbL;have e:=s (4,.undef) 0 b rfl rfl;refine Gw1 @zZ.eq_1 ?_;intros;refine⟨.own 0 0 g 0 l.length,[(0,.row 1 ((l++[]).map cI) g)],1,?_,[],by rw[e],by rw[e],rfl⟩;rw[Wd];exact(Xh [(0,0,0)] [] rfl rfl rfl Qd Qd)
theorem zq5{len b r q g j f:Nat}{k:IntKind}{i:Int}{H:AH}{nx:Nat}:xopR (.aaddr len b) [.ptr r q g j f,.int k i] H nx=⟨0<=i/\i<len,True,.ptr r q g j (f+i.toNat*b),H,nx⟩:=rfl
theorem ad0:Int.toNat 0=0:=rfl
theorem ad1:Int.toNat 1=1:=rfl
def keyP(S:List Nat):List (Int×Int):=S.zipIdx.map λp=>((p.1:Int),(p.2:Int))
theorem zul{S:List Nat}:(keyP S).map (·.1)=zhe S:=by
 unfold keyP zhe;rw[WA];conv=>rhs;rw[<-List.zipIdx_map_fst 0 S,WA]
 rfl
theorem zu9{S:List Nat}{x:Nat}:keyP (S++[x])=keyP S++[((x:Int),(S.length:Int))]:=by unfold keyP;rw[List.zipIdx_append,Wf];simp
theorem zy2{S:List Nat}:(keyP S).length=S.length:=by simp[keyP]
theorem zzI{S:List Nat}:(keyP S).map (·.2)=(Wo S.length).map λ(i:Nat)=>(i:Int):=by unfold keyP;rw[WA,List.range_eq_range',<-List.zipIdx_map_snd 0 S,WA];rfl
theorem zI5{S:List Nat}:∀p∈keyP S,p.2<(S.length:Int):=λp c=>by have:p.2∈(keyP S).map (·.2):=Wv.2 ⟨p,c,rfl⟩;rw[zzI]at this;obtain⟨i,b,e⟩:=Wv.1 this;have:=List.mem_range.1 b;omega
theorem zFh{S:List Nat}:((keyP S).map (·.2)).Nodup:=by rw[zzI];exact ztm List.nodup_range
theorem zz5:∀ {b:List (Int×Int)},entI ((enL b).map cm)=some b
 |[]=>rfl
 |
  p::b=>by
  show(match entI ((enL b).map cm)with|some l=>some ((p.1,p.2)::l)|none=>none)=_;rw[zz5]
theorem zy6{S:List Nat}{x:Nat}:(x:Int)∈(keyP S).map (·.1)↔x∈S:=by rw[zul,zEq]
def stS(S:List Nat):List MC:=setM S.length (keyP S)
theorem zmf{S:List Nat}:(stS S).map cm=[.int .i64 (S.length:Int),.undef,.undef]::(enL (keyP S)).map cm:=rfl
theorem zGJ{S:List Nat}{x:Nat}:(stS (S++[x])).map cm=[.int .i64 ((S.length:Int)+1),.undef,.undef]::((enL (keyP S)).map cm++[[.int .i64 (x:Int),.bool true,.int .i64 (S.length:Int)]]):=by rw[zmf,zu9,Wj,WB];unfold enL;rw[Wf,Wf];rfl
theorem zoV{S:List Nat}{n:Nat}(b:S.Nodup)(h:∀x∈S,x<n):S.length<=n:=by
 have:=Dm.nodup_sub_len b (m:=Wo n) (λx c=>List.mem_range.2 (h x c))
 rwa [WQ]at this
def mB(E:Adj)(S R:List Nat):Nat:=zCb (λx=>(suc (predL E) x).length+1) E.length S+R.length
theorem Qh{p:Prop}(h:p:=by(try simp only[evWB,Nat.reduceBEq,Nat.reduceAdd,Nat.reduceSub,Nat.reduceLeDiff,Nat.reduceLT,implies_true,encNN,List.append_nil])<;>exact fin6):p:=h
theorem Qi{p:Prop}(h:p:=by(try simp only[evWB,Nat.reduceBEq,Nat.reduceAdd,Nat.reduceSub,Nat.reduceLeDiff,Nat.reduceLT,implies_true,encNN,zmf,List.append_assoc,List.singleton_append])<;>exact fin6):p:=h
theorem Qj{p:Prop}(h:p:=by(try simp only[evWB,Nat.reduceBEq,Nat.reduceAdd,Nat.reduceSub,Nat.reduceLeDiff,Nat.reduceLT,implies_true,encNN,zmf,zcC,List.append_assoc,List.singleton_append])<;>exact fin6):p:=h
theorem ur:type_of% @zia.eq_1:=@zia.eq_1
theorem zuC(g:Gr)(hg:g.small){last:Nat->St}(Q:EdgeOk g.E last)(b:Nat)(hb:b<g.blocks.length):zq Z9 ziW [.agg g.cells,.int .i64 b,zia (zgX g.E)] (·=za (zfm g.E b)):=by
 refine fn_x ztZ rfl ?_;refine dcU zof.eq_1 ?_;have hB:=hBig;have F:=g.E_len;have hn:=hg.1;have hP:=zez g hg;have hR:=zf9 g hg;have hpl:(predL g.E).length=g.blocks.length:=by rw[predL_len,F]
 have X:(zlc g.E).length=g.blocks.length:=by simp[zlc,F]
 have hbl:(zgX g.E).length<=1000000:=by have h1:=zxK (E:=g.E) (a:=g.E.length);have h2:g.E.length*g.E.length<=1000*1000:=WD (by omega) (by omega);unfold zgX;omega
 have hf0:∀k:Int,zeu (.int .i64 k) [] 0=some none:=λ_=>rfl
 refine Gw3 @ue @uk hf0 ?_;intros;refine ze (zh hP rfl) ?_;refine Gw2 @ue @uk ?_;intros;refine ze (zh hR rfl) ?_;have Y:(stS [b]).map cm=[[.int .i64 1,.undef,.undef],[.int .i64 (b:Int),.bool true,.int .i64 0]]:=rfl;have hmz:∀l:List (Nat×Nat),(l.map cP).length=l.length:=λl=>Wh _
 refine Gw1 @ur ?_;intros
 refine zd (λs:Nat×Nat=>([(1,.int .i64 b),(7,.mp 0 0),(8,encNN (predL g.E)),(9,zcC (zlc g.E)),(10,.own 1 0 s.2 0 (srcL g.E b ((zgX g.E).take s.1)).length),(22,zia (zgX g.E)),(23,.int .i64 (zgX g.E).length),(24,.int .i64 s.1)],[(0,.row 3 ((stS [b]).map cm) 0),(1,.row 1 ((srcL g.E b ((zgX g.E).take s.1)).map cN) s.2)])) 2
  (λs=>s.1<=(zgX g.E).length) (λs=>(zgX g.E).length-s.1) (0,0) (Wa _) ?start ?_
 case start=>exact(Xa [(0,1,0),(1,2,0)] [] rfl (by(try simp only[evWB,Xe,Xf,Xi,Xg,Xj,implies_true,encNN,zia,Y,Ww,srcL])<;>exact fin6) (by(try simp only[evWB,Xe,Xf,Xi,Xg,Xj,implies_true,encNN,zia,Y,Ww,srcL])<;>exact fin6))
 rintro⟨i,γ⟩ hi wf;simp only at hi;clear wf;refine dcU zla.eq_1 ?_;by_cases W:i<(zgX g.E).length
 case pos=>
  have Z:=zyU (E:=g.E) (b:=b) (l:=(zgX g.E).take i);rw[Wp]at Z;have o:=zCp (E:=g.E) (b:=b) W;have U:=zi (f:=cP) (d:=[]) W;generalize (zgX g.E)[i]=e at o U;obtain⟨x,y⟩:=e;simp only at o;have hcp:cP (x,y)=[.int .i64 (x:Int),.int .i64 (y:Int)]:=rfl;refine Gw7 @dT @ur U hcp @zq5 @ad0 @ad1 ?_;intros;by_cases hy:y=b
  .rw[if_pos hy]at o;have hyi:(y:Int)=(b:Int):=by omega
   refine Gw4 @dT @zq5 @ad0 @ad1 ?_;intros;exact⟨(i+1,γ+1),by simp only;omega,by simp only;omega,by rw[o];exact(Xa [(0,0,0),(1,1,0)] [] rfl (Gin6_8 @ud @ur @m9A @m9P @ui @uh @m9C @m9N) (Gin6_8 @ud @ur @m9A @m9P @ui @uh @m9C @m9N))⟩
  .rw[if_neg hy,Wd]at o;have hyi:¬(y:Int)=(b:Int):=by omega
   refine Gw1 @dF ?_;intros;exact⟨(i+1,γ),by simp only;omega,by simp only;omega,by rw[o];exact(Xa [(0,0,0),(1,1,0)] [] rfl (Gin6_2 @ud @ur) (Gin6_2 @ud @ur))⟩
 obtain rfl:i=(zgX g.E).length:=by omega
 rw[Wt];have Z:=zyU (E:=g.E) (b:=b) (l:=zgX g.E);have hB0:BodyI g.E b [b] (srcL g.E b (zgX g.E)):=BodyI.start Q λp=>zFv Q
 refine Gw1 @dF ?_;intros;unfold zk7;refine Gw0 ?_;intros
 refine zd (λs:List Nat×List Nat×List Nat×Nat=>([(7,.mp 0 0),(8,encNN (predL g.E)),(9,zcC (zlc g.E)),(10,.own 1 0 s.2.2.2 0 s.2.1.length)],[(0,.row 3 ((stS s.1).map cm) 0),(1,.row 1 ((s.2.1++s.2.2.1).map cN) s.2.2.2)])) 2
  (λs=>BodyI g.E b s.1 s.2.1/\mB g.E s.1 s.2.1<=3000000) (λs=>mB g.E s.1 s.2.1) ([b],srcL g.E b (zgX g.E),[],γ) ⟨hB0,?bound⟩ ?start2 ?_
 case bound=>
  simp only[mB,zCb]
  have h1:∀l:List Nat,(l.map λx=>(suc (predL g.E) x).length+1).sum<=l.length*1001:=λl=>by
   induction l with
   |nil=>simp
   |cons a l ih=>rw[List.map_cons,List.sum_cons,WF];have:=zqw (E:=g.E) (b:=a);omega
  have h2:=h1 ((Wo g.E.length).filter λx=>decide (x∉[b]));have h3:=WG (λx=>decide (x∉[b])) (Wo g.E.length);rw[WQ]at h3;omega
 case start2=>exact(Xa [(0,0,0),(1,1,0)] [] rfl Qh Qh)
 rintro⟨S,R,J,O⟩ ⟨A,hM⟩ wf;simp only at A hM;clear wf;refine dcU zlb.eq_1 ?_
 have hSl:S.length<=g.blocks.length:=zoV A.nd λx hx=>by
  have:=A.inl x hx;rcases this with rfl|⟨_,_,_,_,h,_⟩
  .exact hb
  .have:=zbl Q h;omega
 by_cases T:0<R.length
 case neg=>
  obtain rfl:R=[]:=Wl (by omega);have D:=zxL Q (b:=b) (by omega) A.nd λx=>A.done Q
  refine Gw1 @dF ?_;intros;refine dcU zk0.eq_1 ?_;refine Gw0 ?_;intros;refine zK (zvK 0) ?_;intro v H' n' hv;cases hv;refine Gw0 ?_;intros;refine zK (zr2 (rb:=2) (r:=0) (c:=(S.length:Int)) (u:=.undef) (u':=.undef) (es:=(enL (keyP S)).map cm) (ps:=keyP S) rfl rfl zz5 (by rw[zul];exact ztm A.nd) zFh zI5 (by rw[zy2];omega)) ?_;intro v H' n' hv;cases hv;rw[zul,D];have hl2:(keyP S).length=(zfm g.E b).length:=by rw[zy2,<-zjJ (l:=S),<-zjJ (l:=zfm g.E b),<-D,(zd4 _).length_eq]
  rw[hl2];have hbo:=zn6 (E:=g.E) (b:=b);refine Gw1 @zoF.eq_1 ?_;intros;have q:za (zfm g.E b)=zb (zhe (zfm g.E b)):=(zg3 _).symm;rw[q,<-zjJ];exact⟨_,zcd (l:=zhe (zfm g.E b)) trivial rfl (by rw[zjJ];omega),rfl⟩
 obtain⟨r,x,rfl⟩:∃r x,R=r++[x]:=⟨R.dropLast,R.getLast (by intro h;rw[h]at T;simp at T),(List.dropLast_concat_getLast _).symm⟩;have m:(r++[x]).length=r.length+1:=by simp
 have w:(((r.length+1:Nat):Int)-1).toNat=r.length:=by omega
 have M:((((r.length+1:Nat):Int))-1-0).toNat=r.length:=by omega
 have t:(List.map cN (r++[x]++J)).getD r.length []=[.int .i64 (x:Int)]:=by rw[Wi,Wf,We,WP (by simp)];simp
 have L:(r++[x]++J).length=r.length+1+J.length:=by simp;omega
 have hxl:x<g.blocks.length:=by have:=A.lt x (by simp);omega
 have hmB:mB g.E S (r++[x])=mB g.E S r+1:=by simp[mB];omega
 have hrM:r.length<=mB g.E S r:=by unfold mB;omega
 have B:=zuV g.E_ok (a:=x) (by omega);have htk:List.take r.length (List.map cN (r++[x]++J))=List.map cN r:=by rw[Wi,Wf,List.take_left' (by simp)]
 have hx2:x<(predL g.E).length:=by omega
 have hsu:=predL_suc hx2;have V:=zi (f:=λr=>[za r]) (d:=[]) hx2;rw[<-hsu]at V;by_cases z:x∈S
 .obtain⟨j,hj,hje,hf⟩:=zr8 (zy6.2 z);refine Gw8 @dT w t L m @zmf hf M ?_;intros;refine⟨(S,r,x::J,O),⟨A.skip (.inl z),by simp only;omega⟩,by simp only;omega,?_⟩;simp only[Wi,WC];exact(Xa [(0,0,0),(1,1,0)] [] rfl Qi Qi)
 have hf:=zpx (λh=>z (zy6.1 h));by_cases C:x∈ordE g.E;case neg=>rw[decide_eq_false C]at B;refine Gw11 @dT w t L m @zmf hf M @zcC.eq_1 B X ?_;intros;refine⟨(S,r,x::J,O),⟨A.skip (.inr C),by simp only;omega⟩,by simp only;omega,?_⟩;simp only[Wi,WC];exact(Xa [(0,0,0),(1,1,0)] [] rfl Qj Qj)
 rw[decide_eq_true C]at B;have hS':=zGJ (S:=S) (x:=x);have hlw:=zBw (f:=λx=>(suc (predL g.E) x).length+1) (n:=g.E.length) z (by omega);have hpn:(suc (predL g.E) x).length<=g.E.length:=zqw;have hT:=A.take (l:=suc (predL g.E) x) (λy=>mem_predL (by omega)) Q z C;have hM2:mB g.E (S++[x]) (r++suc (predL g.E) x)+1<mB g.E S (r++[x])+1:=by unfold mB;rw[Wj,Wj,hlw];simp only[WB];omega
 refine Gw14 @dT w t L m @zmf hf M @zcC.eq_1 B X @ud V hpl ?_;intros;have hel:∀(l:List Nat) H,zcX 1 (encL 1 (λ(n:Nat)=>[AV.int .i64 (n:Int)]) l) H=some (l.map cN):=λl H=>zcN (λ_ _=>rfl)
 have I:(r++suc (predL g.E) x).map cN=r.map cN++(suc (predL g.E) x).map cN:=Wf;have K:(r++suc (predL g.E) x).length=r.length+(suc (predL g.E) x).length:=Wj;generalize suc (predL g.E) x=P at *;refine Gw5 @ub hel @ad0 @Nat.zero_add htk ?_;intros;have q:(enL (keyP (S++[x]))).map cm=(enL (keyP S)).map cm++[[.int .i64 (x:Int),.bool true,.int .i64 (S.length:Int)]]:=by rw[zu9];unfold enL;rw[Wf,Wf];rfl
 have N:((S++[x]).length:Int)=(S.length:Int)+1:=by rw[Wj,WB];rfl
 refine⟨(S++[x],r++P,[],O+1),⟨hT,by simp only;omega⟩,by simp only;omega,?_⟩;simp only[q,N,Wd,I,K];exact(Xa [(0,0,0),(1,1,0)] [] rfl (by(try simp only[evWB,Xe,Xf,Xi,Xg,Xj,implies_true,encNN,zcC,Wd,I,K,q,N])<;>exact fin6) (by(try simp only[evWB,Xe,Xf,Xi,Xg,Xj,implies_true,encNN,zcC,Wd,I,K,q,N])<;>exact fin6))
def exF(N:Adj)(l:List Nat)(b:Nat):List Nat:=(suc N b).filter λn=>decide (n∉l)
def exA(N:Adj)(l:List Nat)(i:Nat):List Nat:=(l.take i).flatMap (exF N l)
def ex2(N:Adj)(l:List Nat)(i:Nat)(m:List Nat):List Nat:=exA N l i++m.filter λn=>decide (n∉l)
def zww(N:Adj)(l:List Nat):List Int:=zfT (zmN (zhe (exA N l l.length)))
theorem zzw{N:Adj}{l:List Nat}{i:Nat}(h:i<l.length):exA N l (i+1)=ex2 N l i (suc N l[i]):=by unfold exA ex2;rw[List.take_succ_eq_append_getElem h,List.flatMap_append,List.flatMap_singleton];rfl
theorem zHt{N:Adj}{l:List Nat}{i:Nat}{m:List Nat}{j:Nat}(h:j<m.length):ex2 N l i (m.take (j+1))=ex2 N l i (m.take j)++if m[j]∈l then[]else[m[j]]:=by unfold ex2;rw[filter_take_succ h,Wi];by_cases b:m[j]∈l<;>simp[b]
theorem zHu{N:Adj}{l:List Nat}{i:Nat}{m:List Nat}:ex2 N l i (m.take 0)=exA N l i:=by simp[ex2]
theorem zAi{l:List Nat}{x:Nat}:zhe (l++[x])=zhe l++[(x:Int)]:=by simp[zhe]
theorem zDT{N:Adj}{l:List Nat}(c:∀b,(suc N b).length<=1000):∀i,(exA N l i).length<=i*1000
 |0=>by simp[exA]
 |
  i+1=>by
  have d:=zDT c (l:=l) i;by_cases h:i<l.length
  .rw[zzw h,ex2,Wj];have:=WG (λn=>decide (n∉l)) (suc N l[i]);have:=c l[i];omega
  .have e:exA N l (i+1)=exA N l i:=by unfold exA;rw[WR (by omega),WR (by omega)]
   rw[e];exact Xk d (Nat.mul_le_mul_right _ (Nat.le_succ _))
theorem zsz(N:Adj)(l:List Nat)(M:∀b,(suc N b).length<=1000)(V:l.length<=1000)(P:∀b∈l,b<N.length):zq Z9 zft [encNN N,za l] (·=zb (zww N l)):=by
 refine fn_x zsC rfl ?_;refine dcU zm0.eq_1 ?_;have U:=hBig;refine Gw1 @ub ?_;intros
 refine zd (λs:Nat×Nat=>([(0,encNN N),(1,za l),(5,.own 0 0 s.2 0 (zhe (exA N l s.1)).length),(10,za l),(11,.int .i64 l.length),(12,.int .i64 s.1)],[(0,.row 1 ((zhe (exA N l s.1)).map cI) s.2)])) 1
  (λs=>s.1<=l.length) (λs=>l.length-s.1) (0,0) (Wa _) ?start ?_
 case start=>have L:zhe (exA N l 0)=[]:=rfl;exact(Xa [(0,1,0)] [] rfl (Gin2_3 @ud @ub L) (Gin2_3 @ud @ub L))
 rintro⟨i,γ⟩ hi wf;simp only at hi;clear wf;refine dcU zjI.eq_1 ?_;have O:=zDT (l:=l) M i;by_cases o:i<l.length
 case pos=>
  have h:=P l[i] (Wc o);have e:=zi (f:=λr=>[za r]) (d:=[]) h;have J:suc N l[i]=N[l[i]]:=zkt h;rw[<-J]at e;have k:=zzw (N:=N) o;have u:=M l[i];have B:=zi (f:=cN) (d:=[]) o;generalize l[i]=b at e k u h B;have C:(l.map λ(n:Nat)=>[AV.int .i64 (n:Int)]).getD i []=[.int .i64 (b:Int)]:=B;generalize suc N b=m at e k u;refine Gw3 @dT @ub C ?_;intros;refine Gw3 @ud e @dT ?_;intros;have K:ex2 N l i []=exA N l i:=zHu (m:=m);refine Gw1 @ub ?_;intros
  refine zd (λs:Nat×Nat=>([(0,encNN N),(1,za l),(5,.own 0 0 s.2 0 (zhe (ex2 N l i (m.take s.1))).length),(10,za l),(11,.int .i64 l.length),(12,.int .i64 i),(19,za m),(20,.int .i64 m.length),(21,.int .i64 s.1)],[(0,.row 1 ((zhe (ex2 N l i (m.take s.1))).map cI) s.2)])) 1
   (λs=>s.1<=m.length) (λs=>m.length-s.1) (0,γ) (Wa _) ?start2 ?_
  case start2=>exact(Xa [(0,0,0)] [] rfl (by(try simp only[evWB,Xe,Xf,Xi,Xg,Xj,implies_true,encNN,za,Ww,K])<;>exact fin2) (by(try simp only[evWB,Xe,Xf,Xi,Xg,Xj,implies_true,encNN,za,Ww,K])<;>exact fin2))
  rintro⟨j,t⟩ hj wf;simp only at hj;clear wf;refine dcU zjT.eq_1 ?_;by_cases H:j<m.length
  case neg=>
   obtain rfl:j=m.length:=by omega
   rw[Wt];refine Gw1 @dF ?_;intros;refine dcU zjS.eq_1 ?_;refine Gw0 ?_;intros;exact⟨(i+1,t),by simp only;omega,by simp only;omega,by rw[k];exact(Xa [(0,0,0)] [] rfl (Gin2_2 @ud @ub) (Gin2_2 @ud @ub))⟩
  have c:=zHt (N:=N) (l:=l) (i:=i) H;have D:=zi (f:=cN) (d:=[]) H;have R:(ex2 N l i (m.take j)).length<=1000000+1000:=by unfold ex2;rw[Wj];have:=WG (λn=>decide (n∉l)) (m.take j);rw[Wp]at this;omega
  generalize m[j]=x at c D;have F:(m.map λ(n:Nat)=>[AV.int .i64 (n:Int)]).getD j []=[.int .i64 (x:Int)]:=D;refine Gw3 @dT @ub F ?_;intros;have A:=zcm l x;refine ze (zh A rfl) ?_;have w:=zjJ (l:=ex2 N l i (m.take j));by_cases I:x∈l
  .rw[if_pos I,Wd]at c;rw[decide_eq_true I];refine Gw0 ?_;intros;exact⟨(j+1,t),by simp only;omega,by simp only;omega,by rw[c];exact(Xa [(0,0,0)] [] rfl (Gin2_2 @ud @ub) (Gin2_2 @ud @ub))⟩
  .rw[if_neg I]at c;rw[decide_eq_false I];refine Gw0 ?_;intros;exact⟨(j+1,t+1),by simp only;omega,by simp only;omega,by rw[c,zAi];exact(Xa [(0,0,0)] [] rfl (Gin2_8 @ud @ub @m9A @m9P @ui @uh @m9C @m9N) (Gin2_8 @ud @ub @m9A @m9P @ui @uh @m9C @m9N))⟩
 obtain rfl:i=l.length:=by omega
 refine Gw1 @dF ?_;intros;refine dcU zj8.eq_1 ?_;have w:=zjJ (l:=exA N l l.length);have p:=(zd4 (zhe (exA N l l.length))).length_eq;unfold zww;generalize zhe (exA N l l.length)=z at w p⊢;refine Gw0 ?_;intros;refine zK (zCu (r:=0) (q:=0) (g:=γ) (zs:=z) rfl (by omega)) ?_;intro v T W S;cases S;rw[<-p];generalize zmN z=y at p⊢;refine Gw0 ?_;intros;refine zb6 [(0,0,0)] 1 _ (ztK y γ (by omega)) rfl rfl Gin1_0 Gin1_0 ?_;rintro _ _ _ ⟨m,rfl,rfl,rfl⟩;have Q:(zfT y).length<=y.length:=zBk;refine Gw1 @zne.eq_1 ?_;intros;exact⟨_,zzr (l:=zfT y) (m:=m) trivial rfl (by omega),rfl⟩
structure LoopR where
 h:Nat
 body:List Nat
 ex:List Int
 par:Int
def cLo(p:LoopR):List AV:=[.int .i64 (p.h:Int),za p.body,zb p.ex,.int .i64 p.par]
theorem zBb(l:List LoopR)(g:Nat)(h:l.length<=100000):zG Z9 zaa [.own 0 0 g 0 l.length] [(0,.row 4 (l.map cLo) g)] 1
  (λv H nx=>v=.own 1 0 0 0 l.length/\H=[(0,.row 4 (l.map cLo) g),(1,.row 4 (l.map cLo) 0)]/\nx=2):=by
 refine zaC (fn_x zer rfl ?_);refine dcU zbF.eq_1 ?_;have e:=hBig;by_cases d:l.length=0
 .obtain rfl:l=[]:=Wl d;have c:nilB false (.own 0 0 g 0 0)=some none:=rfl;refine Gw1 c ?_;intros;rename_i b;cases b
  ·(refine Gw1 @z6.eq_1 ?_;intros);exact⟨.own 1 0 0 0 0,[(0,.row 4 [] g),(1,.row 4 [] 0)],2,(Xh [(0,0,0),(1,2,1)] [] rfl rfl rfl Qd Qd),rfl,rfl,rfl⟩
  ·(refine Gw1 @z6.eq_1 ?_;intros);exact⟨.own 1 0 0 0 0,[(0,.row 4 [] g),(1,.row 4 [] 0)],2,(Xh [(0,0,0),(1,2,0)] [] rfl rfl rfl Qd Qd),rfl,rfl,rfl⟩
 .have c:nilB false (.own 0 0 g 0 l.length)=some (some false):=by unfold nilB;simp only[za3 d];rfl
  refine Gw2 c @z6.eq_1 ?_;intros;exact⟨.own 1 0 0 0 l.length,[(0,.row 4 (l.map cLo) g),(1,.row 4 (l.map cLo) 0)],2,(Xh [(0,0,0),(1,2,1)] [] rfl rfl rfl Qd Qd),rfl,rfl,rfl⟩
theorem zt2(l:List LoopR)(b:Nat)(I:l.length<=1000)(x:∀p∈l,p.body.length<=1000):zq Z9 zgR [encL 4 cLo l,.int .i64 b] (λv=>∃n:Int,v=.int .i64 n):=by
 refine fn_x ztJ rfl ?_;refine dcU zob.eq_1 ?_;have H:=hBig;refine Gw0 ?_;intros
 refine zd (λs:Nat×Int=>([(0,encL 4 cLo l),(1,.int .i64 b),(5,.int .i64 s.2),(8,encL 4 cLo l),(9,.int .i64 l.length),(10,.int .i64 s.1)],[])) 0
  (λs=>s.1<=l.length /\ -1<=s.2/\s.2<s.1/\s.2<l.length) (λs=>l.length-s.1) (0,-1) ⟨Wa _,by simp only;omega,by simp only;omega,by simp only;omega⟩ ?start ?_
 case start=>exact(Xa [] [] rfl Qd Qd)
 rintro⟨i,m⟩ ⟨D,A,B,C⟩ wf;simp only at D A B C;clear wf;refine dcU zk5.eq_1 ?_;by_cases t:i<l.length;case neg=>refine Gw1 @dF ?_;intros;unfold zkZ;refine Gw1 @zoI.eq_1 ?_;intros;exact⟨_,.int _ _ _,_,rfl⟩
 have g:=zi (f:=cLo) (d:=[]) t;have u:=x _ (Wc t);generalize l[i]=p at g u;have q:=zcm p.body b;have o:cLo p=[.int .i64 (p.h:Int),za p.body,zb p.ex,.int .i64 p.par]:=rfl;rw[o]at g;refine Gw4 @dT g @uf o ?_;intros;refine zdn (zh q rfl) ?_;by_cases z:b∈p.body;case neg=>rw[decide_eq_false z];refine Gw0 ?_;intros;exact⟨(i+1,m),⟨by simp only;omega,by simp only;omega,by simp only;omega,by simp only;omega⟩,by simp only;omega,(Xa [] [] rfl Qd Qd)⟩
 rw[decide_eq_true z];by_cases J:m<0
 ·(refine Gw3 @dT @ub @ug ?_;intros);exact⟨(i+1,(i:Int)),⟨by simp only;omega,by simp only;omega,by simp only;omega,by simp only;omega⟩,by simp only;omega,(Xa [] [] rfl Qd Qd)⟩
 obtain⟨k,rfl⟩:∃k:Nat,m=k:=⟨m.toNat,by omega⟩;have y:k<l.length:=by omega
 have e:=zi (f:=cLo) (d:=[]) y;have w:=x _ (Wc y);generalize l[k]=j at e w;have c:cLo j=[.int .i64 (j.h:Int),za j.body,zb j.ex,.int .i64 j.par]:=rfl;rw[c]at e;by_cases F:p.body.length<j.body.length
 ·(refine Gw7 @dF @dT e @uf c @ub @ug ?_;intros);exact⟨(i+1,(i:Int)),⟨by simp only;omega,by simp only;omega,by simp only;omega,by simp only;omega⟩,by simp only;omega,(Xa [] [] rfl Qd Qd)⟩
 ·(refine Gw7 @dF @dT e @uf c @ub @ug ?_;intros);exact⟨(i+1,(k:Int)),⟨by simp only;omega,by simp only;omega,by simp only;omega,by simp only;omega⟩,by simp only;omega,(Xa [] [] rfl Qd Qd)⟩
end Go.Ab
namespace Go.Ab
open Go.RowKit Go.Proofs
def zjf:List St->Int
 |[]=>0
 |s::l=>if s.check≠0 then s.check else zjf l
def zm1:List Bl->Int
 |[]=>0
 |b::l=>if zjf b.stmts≠0 then zjf b.stmts else zm1 l
def zjb(g:G):Int:=if (!g.blocks.isEmpty&&g.blocks.all λb=>zjx b.stmts g.blocks.length)=true then zm1 g.blocks else 18
theorem zxR{l:List St}{i:Nat}(h:i<l.length):zjf (l.drop i)=if l[i].check≠0 then l[i].check else zjf (l.drop (i+1)):=by rw[Wn h,zjf]
theorem zxa{l:List Bl}{i:Nat}(h:i<l.length):zm1 (l.drop i)=if zjf l[i].stmts≠0 then zjf l[i].stmts else zm1 (l.drop (i+1)):=by rw[Wn h,zm1]
structure fewB(g:G):Prop where
 blocks:g.blocks.length<=12
 stmts:∀b∈g.blocks,b.stmts.length<=8
structure PredT(fv:AV)(l:List St)(p:St->Bool):Prop where
 ex:∃f caps,fv=.fn (.func f) caps/\ze7 Z9 f=true/\zu caps=true/\∀s∈l,zq Z9 f ([.agg s.cells]++caps) (·=.bool (p s))
theorem zxg{fv}{l}{p}(g:PredT fv l p){s}(h:s∈l){H}{nx}{k}(e:k (.bool (p s)) H nx):znj Z9 fv [.agg s.cells] H nx k:=by obtain⟨f,b,rfl,d,c,j⟩:=g.ex;rw[zix];refine⟨d,ze (zh (j s h) ?_) e⟩;simp only[WH,WI,Wq,WJ];exact⟨rfl,zdU c⟩
theorem zzj{fv}{l}{p}(h:PredT fv l p){H H2}{σ}{D}{t}:Vw H H2 σ D t fv fv:=by
 obtain⟨f,c,rfl,j,g,k⟩:=h.ex;refine .fn _ _ _ _ rfl λi a b d e=>?_
 rw[d]at e;cases e;exact zk (zbz g d)
theorem zmH(l)(fv)(p)(n:PredT fv l p):zq Z9 z8 [encL 8 Xd l,fv] (·=.int .i64 (idxI (l.findIdx? p))):=by
 refine fn_x zes rfl ?_;refine dcU zbD.eq_1 ?_;have q:=hBig;refine Gw0 ?_;intros;refine zd (λi:Nat=>([(0,encL 8 Xd l),(1,fv),(7,.int .i64 l.length),(8,.int .i64 i)],[])) 0 (λi=>i<=l.length/\∀j (h:j<l.length),j<i->p l[j]=false) (λi=>l.length-i) 0 ⟨Wa _,λj _ h=>by omega⟩ (Xc rfl fin5) ?_;intro i ⟨s,c⟩ wf;refine dcU zbb.eq_1 ?_;refine Gw0 ?_;intros;(refine zc (λh=>?_) (λh=>?_))<;>(try simp only[dcd]at h)
 .have b:i<l.length:=by omega
  refine Gw3 (gmp b) @St.len @St.eight ?_;intros;refine zxg n (Wc b) ?_;refine Gw0 ?_;intros;(refine zc (λg=>?_) (λg=>?_))<;>(try simp only[dcd]at g)
  ·(refine Gw1 @zay.eq_1 ?_;intros);have e:l.findIdx? p=some i:=by rw[Wr];exact⟨b,g,λj d=>by rw[c j (by omega) d];simp⟩
   rw[e];exact izO
  ·(refine Gw0 ?_;intros);refine⟨i+1,⟨by omega,λj d m=>?_⟩,by omega,Xc rfl fin5⟩;by_cases k:j=i
   .subst k;simpa using g
   .exact c j d (by omega)
 .unfold zbf;refine Gw1 @zay.eq_1 ?_;intros;have e:l.findIdx? p=none:=by rw[Ws];intro x o;obtain⟨j,d,rfl⟩:=Wy.1 o;exact c j d (by omega)
  rw[e];exact izO
theorem zFV{l:List St}{p:St->Bool}:decide (idxI (l.findIdx? p) >= 0)=l.any p:=by
 cases h:l.findIdx? p with
 |none=>have:=Ws.1 h;rw[decide_eq_false (by simp[idxI])];symm;rw[WS];intro x d;rw[this x d];simp
 |some i=>obtain⟨b,c,_⟩:=Wr.1 h;rw[decide_eq_true (by simp[idxI])];exact(zwL b c).symm
theorem zkM(l)(fv)(p)(b:PredT fv l p):zq Z9 zY [encL 8 Xd l,fv] (·=.bool (l.any p)):=by refine fn_x zdK rfl ?_;refine dcU za9.eq_1 ?_;refine Gw0 ?_;intros;refine ze (zaQ (D:=noR) (zmH l fv p b) (.cons (zac rfl) (.cons (zzj b) .nil)) (.inl rfl)) ?_;refine Gw1 @zbh.eq_1 ?_;intros;refine⟨_,.bool _ _,?_⟩;rw[<-zFV]
structure PredI(fv:AV)(l:List Int)(p:Int->Bool):Prop where
 ex:∃f caps,fv=.fn (.func f) caps/\ze7 Z9 f=true/\zu caps=true/\∀s∈l,zq Z9 f ([.int .i64 s]++caps) (·=.bool (p s))
theorem zx4{fv}{l}{p}(g:PredI fv l p){s}(h:s∈l){H}{nx}{k}(e:k (.bool (p s)) H nx):znj Z9 fv [.int .i64 s] H nx k:=by obtain⟨f,b,rfl,d,c,j⟩:=g.ex;rw[zix];refine⟨d,ze (zh (j s h) ?_) e⟩;simp only[WH,WI,Wq,WJ];exact⟨rfl,zdU c⟩
theorem zzY{fv}{l}{p}(h:PredI fv l p){H H2}{σ}{D}{t}:Vw H H2 σ D t fv fv:=by
 obtain⟨f,c,rfl,j,g,k⟩:=h.ex;refine .fn _ _ _ _ rfl λi a b d e=>?_
 rw[d]at e;cases e;exact zk (zbz g d)
theorem zmL(l)(fv)(p)(n:PredI fv l p):zq Z9 zad [zb l,fv] (·=.int .i64 (idxI (l.findIdx? p))):=by
 refine fn_x zdV rfl ?_;refine dcU zbX.eq_1 ?_;have q:=hBig;refine Gw1 @ug ?_;intros;refine zd (λi:Nat=>([(0,zb l),(1,fv),(7,.int .i64 l.length),(8,.int .i64 i)],[])) 0 (λi=>i<=l.length/\∀j (h:j<l.length),j<i->p l[j]=false) (λi=>l.length-i) 0 ⟨Wa _,λj _ h=>by omega⟩ (Xc rfl fin5) ?_;intro i ⟨s,c⟩ wf;refine dcU zbq.eq_1 ?_;refine Gw0 ?_;intros;(refine zc (λh=>?_) (λh=>?_))<;>(try simp only[dcd]at h)
 .have b:i<l.length:=by omega
  refine Gw2 @ug (gmp b) ?_;intros;refine zx4 n (Wc b) ?_;refine Gw0 ?_;intros;(refine zc (λg=>?_) (λg=>?_))<;>(try simp only[dcd]at g)
  ·(refine Gw1 @zas.eq_1 ?_;intros);have e:l.findIdx? p=some i:=by rw[Wr];exact⟨b,g,λj d=>by rw[c j (by omega) d];simp⟩
   rw[e];exact izO
  ·(refine Gw0 ?_;intros);refine⟨i+1,⟨by omega,λj d m=>?_⟩,by omega,Xc rfl fin5⟩;by_cases k:j=i
   .subst k;simpa using g
   .exact c j d (by omega)
 .unfold zbo;refine Gw1 @zas.eq_1 ?_;intros;have e:l.findIdx? p=none:=by rw[Ws];intro x o;obtain⟨j,d,rfl⟩:=Wy.1 o;exact c j d (by omega)
  rw[e];exact izO
theorem zGO{l:List Int}{p:Int->Bool}:decide (idxI (l.findIdx? p) >= 0)=l.any p:=by
 cases h:l.findIdx? p with
 |none=>have:=Ws.1 h;rw[decide_eq_false (by simp[idxI])];symm;rw[WS];intro x d;rw[this x d];simp
 |some i=>obtain⟨b,c,_⟩:=Wr.1 h;rw[decide_eq_true (by simp[idxI])];exact(zwL b c).symm
theorem zkK(l)(fv)(p)(b:PredI fv l p):zq Z9 zaH [zb l,fv] (·=.bool (l.any p)):=by refine fn_x zg4 rfl ?_;refine dcU zc1.eq_1 ?_;refine Gw0 ?_;intros;refine ze (zaQ (D:=noR) (zmL l fv p b) (.cons (zac rfl) (.cons (zzY b) .nil)) (.inl rfl)) ?_;refine Gw1 @zc0.eq_1 ?_;intros;refine⟨_,.bool _ _,?_⟩;rw[<-zGO]
end Go.Ab
namespace Go.Ab
open Go.RowKit Go.Proofs Go.Ab.Dm
structure PredP(fv:AV)(l:List (Nat×Nat))(p:Nat×Nat->Bool):Prop where
 ex:∃f caps,fv=.fn (.func f) caps/\ze7 Z9 f=true/\zu caps=true/\∀s∈l,zq Z9 f ([.agg (cP s)]++caps) (·=.bool (p s))
theorem zxV{c:AV}{l:List (Nat×Nat)}{p:Nat×Nat->Bool}(h:PredP c l p){s:Nat×Nat}(j:s∈l){H:AH}{nx:Nat}{k:AV->AH->Nat->Prop}(g:k (.bool (p s)) H nx):znj Z9 c [.agg (cP s)] H nx k:=by obtain⟨f,b,rfl,e,d,m⟩:=h.ex;rw[zix];refine⟨e,ze (zh (m s j) ?_) g⟩;simp only[WH,WI,Wq,WJ];exact⟨rfl,zdU d⟩
theorem zGr{c:AV}{l:List (Nat×Nat)}{p:Nat×Nat->Bool}(k:PredP c l p){H h:AH}{σ:Nat->Nat->Option (Nat×Nat×Nat)}{D:Nat->Nat->Prop}{t:Bool}:Vw H h σ D t c c:=by
 obtain⟨f,d,rfl,m,j,n⟩:=k.ex;refine .fn _ _ _ _ rfl λi a b e g=>?_
 rw[e]at g;cases g;exact zk (zbz j e)
theorem cP_two(e:Nat×Nat):[(cP e).getD 0 .undef,(cP e).getD 1 .undef]=cP e:=rfl
theorem cP_len(e:Nat×Nat):(cP e).length=2:=rfl
theorem zmR(l:List (Nat×Nat))(k:AV)(p:Nat×Nat->Bool)(o:PredP k l p):zq Z9 zaB [zia l,k] (·=.int .i64 (idxI (l.findIdx? p))):=by
 refine fn_x zgr rfl ?_;refine dcU zcV.eq_1 ?_;have s:=hBig;refine Gw1 @ur ?_;intros;refine zd (λi:Nat=>([(0,zia l),(1,k),(7,.int .i64 l.length),(8,.int .i64 i)],[])) 0 (λi=>i<=l.length/\∀j (h:j<l.length),j<i->p l[j]=false) (λi=>l.length-i) 0 ⟨Wa _,λj _ h=>by omega⟩ (Xc rfl fin5) ?_;intro i ⟨t,c⟩ wf;refine dcU zcc.eq_1 ?_;refine Gw0 ?_;intros;(refine zc (λh=>?_) (λh=>?_))<;>(try simp only[dcd]at h)
 .have b:i<l.length:=by omega
  refine Gw4 @ur (gmp b) @cP_len @cP_two ?_;intros;refine zxV o (Wc b) ?_;refine Gw0 ?_;intros;(refine zc (λg=>?_) (λg=>?_))<;>(try simp only[dcd]at g)
  ·(refine Gw1 @za8.eq_1 ?_;intros);have e:l.findIdx? p=some i:=by rw[Wr];exact⟨b,g,λj d=>by rw[c j (by omega) d];simp⟩
   rw[e];exact izO
  ·(refine Gw0 ?_;intros);refine⟨i+1,⟨by omega,λj d n=>?_⟩,by omega,Xc rfl fin5⟩;by_cases m:j=i
   .subst m;simpa using g
   .exact c j d (by omega)
 .unfold zcb;refine Gw1 @za8.eq_1 ?_;intros;have e:l.findIdx? p=none:=by rw[Ws];intro x q;obtain⟨j,d,rfl⟩:=Wy.1 q;exact c j d (by omega)
  rw[e];exact izO
theorem zFl{l:List (Nat×Nat)}{p:Nat×Nat->Bool}:decide (0<=idxI (l.findIdx? p))=l.any p:=by
 rw[Bool.eq_iff_iff,decide_eq_true_eq]
 cases h:l.findIdx? p with
 |none=>
  rw[Ws]at h;constructor
  .intro b;simp[idxI]at b
  .intro b;obtain⟨x,e,c⟩:=WU.1 b;rw[h x e]at c;cases c
 |some i=>obtain⟨d,b,_⟩:=Wr.1 h;exact⟨λ_=>WU.2 ⟨_,Wc d,b⟩,λ_=>by simp[idxI]⟩
theorem zkD(l:List (Nat×Nat))(b:AV)(p:Nat×Nat->Bool)(c:PredP b l p):zq Z9 zam [zia l,b] (·=.bool (l.any p)):=by refine fn_x zfl rfl ?_;refine dcU zb9.eq_1 ?_;refine Gw0 ?_;intros;refine ze (zaQ (D:=noR) (zmR l b p c) (.cons (zac rfl) (.cons (zGr c) .nil)) (.inl rfl)) ?_;refine Gw1 @zb8.eq_1 ?_;intros;refine⟨_,.bool _ _,?_⟩;rw[<-zFl]
theorem zxy(l:List (Nat×Nat))(h:Nat):PredP (.fn (.func zgE) [encP 1 [.int .i64 h]]) l (λe=>decide (e.2=h)):=by refine⟨_,_,rfl,by kernel_rfl,rfl,λs c=>?_⟩;refine fn_x zse rfl ?_;refine dcU zme.eq_1 ?_;have b:cP s=[.int .i64 (s.1:Int),.int .i64 (s.2:Int)]:=rfl;refine Gw6 b @ua @zq5 @ad0 @ad1 @zml.eq_1 ?_;intros;exact bxO (decide_eq_decide.2 (by omega))
theorem zCe{H:AH}{f d c:Nat}{h:Int}(k:H.get d 0=some (.row 1 [[.int .i64 h]] c)):Vw H [] nos allR false (.fn (.func f) [.ptr d 0 c 0 0]) (.fn (.func f) [encP 1 [.int .i64 h]]):=by
 refine .fn _ _ _ _ rfl λi a b e g=>?_
 match i with
 |0=>
  cases e;cases g;refine .frzp _ d 0 c 0 0 1 1 [[.int .i64 h]] _ trivial k (by simp) (by omega) λj m=>?_
  obtain rfl:j=0:=by omega
  exact .int _ _ _
 |i+1=>cases e
noncomputable def mkLo(E:Adj)(h:Nat):LoopR:=⟨h,zfm E h,zww (zls E) (zfm E h),-1⟩
noncomputable def loL(E:Adj)(i:Nat):List LoopR:=(((ordE E).take i).filter (zeN E)).map (mkLo E)
theorem zGy{E:Adj}{i:Nat}(h:i<(ordE E).length):loL E (i+1)=loL E i++if zeN E (ordE E)[i]then[mkLo E (ordE E)[i]]else[]:=by unfold loL;rw[filter_take_succ h,Wf];cases zeN E (ordE E)[i]<;>simp
theorem zJn{E:Adj}{i:Nat}:(loL E i).length<=i:=by unfold loL;rw[Wh];exact zjs _ _ _
def zqe(p:LoopR):Nat×List Nat:=(p.h,p.body)
theorem zEp{E:Adj}{b:Nat}:(suc (zls E) b).length<=E.length:=by
 unfold suc zls;rw[We,Wu]
 cases(Wo E.length)[b]? with
 |none=>exact Wa _
 |some x=>exact zpr
theorem zCq{E:Adj}:(zls E).length=E.length:=by simp[zls]
theorem zuJ(g:Gr)(y:g.small){last:Nat->St}(o:EdgeOk g.E last):zq Z9 ze9 [.agg g.cells] (λv=>∃P:List LoopR,v=encL 4 cLo P/\P.map zqe=(loL g.E (ordE g.E).length).map zqe):=by
 refine fn_x zt3 rfl ?_;refine dcU zoK.eq_1 ?_;have hB:=hBig;have hlen:=g.E_len;have hn:=y.1;have hpos:=o.pos;have W:=zoW g y;have X:=zkU g y;have hO:=zfp g y;have hoe:orderL g.E=ordE g.E:=by unfold orderL ordE ordL;rw[if_neg (by omega)]
 rw[hoe]at hO;have hol:(ordE g.E).length<=g.blocks.length:=zoV (rpo o.ok o.pos).nd λx U=>by have:=zbl o U;omega
 have J:=λb=>zFG o (b:=b)
 refine Gw2 @ue @uk ?_;intros;refine ze (zh W rfl) ?_;refine Gw2 @ue @uk ?_;intros;refine ze (zh X rfl) ?_;refine Gw2 @ue @uk ?_;intros;refine ze (zh hO rfl) ?_;refine Gw1 @ub ?_;intros
 refine zd (λs:Nat×Nat=>([(1,encP 2 g.cells),(3,zia (zgX g.E)),(4,encNN (zls g.E)),(5,.own 0 0 s.2 0 (loL g.E s.1).length),(16,za (ordE g.E)),(17,.int .i64 (ordE g.E).length),(18,.int .i64 s.1)],[(0,.row 4 ((loL g.E s.1).map cLo) s.2)])) 1
  (λs=>s.1<=(ordE g.E).length) (λs=>(ordE g.E).length-s.1) (0,0) (Wa _) ?start ?_
 case start=>have h0:loL g.E 0=[]:=rfl;exact(Xa [(0,1,0)] [] rfl (Gin2_5 @ud @ub @ur h0 @ue) (Gin2_5 @ud @ub @ur h0 @ue))
 rintro⟨i,γ⟩ hi wf;simp only at hi;clear wf;unfold zli;have hll:=zJn (E:=g.E) (i:=i);by_cases z:i<(ordE g.E).length
 case pos=>
  have c:=zGy z;have Q:=zbl o (Wc z);have N:((ordE g.E).map λ(n:Nat)=>[AV.int .i64 (n:Int)]).getD i []=[.int .i64 ((ordE g.E)[i]:Int)]:=zi (f:=cN) (d:=[]) z;generalize (ordE g.E)[i]=h at c Q N;have hb:=zuC g y o h (by omega);have hbl:=zn6 (E:=g.E) (b:=h)
  have U:=zsz (zls g.E) (zfm g.E h) (λb=>by have:=zEp (E:=g.E) (b:=b);omega) (by omega) (λb hbm=>by
   rw[zCq];rcases(zrX o (by omega)).1 hbm with rfl|⟨_,_,_,_,h4,_⟩
   .exact Q
   .exact zbl o h4)
  have w:=zkD (zgX g.E) _ _ (zxy (zgX g.E) h);rw[J]at w;refine Gw3 @dT @ub N ?_;intros;refine ze (zaQ (D:=allR) w (.cons (zac rfl) (.cons (zCe (h:=(h:Int)) rfl) .nil)) (.inl rfl)) ?_
  cases hh:zeN g.E h with
  |false=>rw[hh]at c;simp only[Bool.false_eq_true,if_false,Wd]at c;refine Gw0 ?_;intros;exact⟨(i+1,γ),by simp only;omega,by simp only;omega,by rw[c];exact(Xa [(0,0,0)] [] rfl (Gin2_4 @ud @ub @ur @ua) (Gin2_4 @ud @ub @ur @ua))⟩
  |true=>
   rw[hh]at c;simp only[if_true]at c;refine Gw2 @ua @uk ?_;intros;refine ze (zh hb rfl) ?_;have m:cLo (mkLo g.E h)=[.int .i64 (h:Int),za (zfm g.E h),zb (zww (zls g.E) (zfm g.E h)),.int .i64 (-1)]:=rfl;generalize mkLo g.E h=me at c m;generalize zww (zls g.E) (zfm g.E h)=ex at U m;generalize zfm g.E h=bo at U m;refine Gw0 ?_;intros
   (repeat' with_reducible apply And.intro)
   all_goals try omega
   all_goals try(refine ze (zh U rfl) ?_)
   all_goals(refine Gw2 @ub @ug ?_;intros;try with_reducible exact trivial)
   all_goals exact⟨(i+1,γ+1),by simp only;omega,by simp only;omega,by rw[c];exact(Xa [(0,0,0)] [] rfl (Gin2_12 @ud @ub @ug @ur @ua @m9A @m9P @ui @uh @m9C @m9N m) (Gin2_12 @ud @ub @ug @ur @ua @m9A @m9P @ui @uh @m9C @m9N m))⟩
 obtain rfl:i=(ordE g.E).length:=by omega
 generalize hL:loL g.E (ordE g.E).length=L at hll;have Y:∀p∈L,p.body.length<=1000:=λp C=>by rw[<-hL]at C;unfold loL at C;obtain⟨h,_,rfl⟩:=Wv.1 C;have:=zn6 (E:=g.E) (b:=h);show(zfm g.E h).length<=1000;omega
 refine Gw1 @dF ?_;intros;refine dcU zle.eq_1 ?_;refine Gw0 ?_;intros
 refine zd (λs:Nat×List LoopR=>([(5,.own 0 0 γ 0 L.length),(40,.int .i64 L.length),(41,.int .i64 s.1)],[(0,.row 4 (s.2.map cLo) γ)])) 1
  (λs=>s.1<=L.length/\s.2.map zqe=L.map zqe) (λs=>L.length-s.1) (0,L) ⟨Wa _,rfl⟩ ?start2 ?_
 case start2=>exact(Xa [(0,0,0)] [] rfl Qd Qd)
 rintro⟨k,P⟩ ⟨hk,I⟩ wf;simp only at hk I;clear wf;have S:P.length=L.length:=by have:=congrArg List.length I;simpa using this
 have Z:∀p∈P,p.body.length<=1000:=λp C=>by
  have:zqe p∈L.map zqe:=by rw[<-I];exact Wv.2 ⟨p,C,rfl⟩
  obtain⟨q,hq,e⟩:=Wv.1 this;have e2:q.body=p.body:=congrArg Prod.snd e;rw[<-e2];exact Y q hq
 refine dcU zk8.eq_1 ?_;by_cases hk':k<L.length
 case neg=>
  refine Gw1 @dF ?_;intros;unfold zlk;refine Gw1 @zod.eq_1 ?_;intros;rw[<-S];refine⟨_,zkp (f:=cLo) (l:=P) trivial rfl (by omega) (λa _ j hj=>?_),P,rfl,by rw[I]⟩
  match j with
  |0=>exact .int _ _ _
  |1=>exact .sl _ _ _ _
  |2=>exact .sl _ _ _ _
  |3=>exact .int _ _ _
  |j+4=>omega
 have t:k<P.length:=by omega
 have O:=zi (f:=cLo) (d:=[]) t;have K:∀p:LoopR,cLo p=[.int .i64 (p.h:Int),za p.body,zb p.ex,.int .i64 p.par]:=λ_=>rfl
 have T:∀v:Int,(P.map cLo).set k [.int .i64 ((P[k].h:Nat):Int),za P[k].body,zb P[k].ex,.int .i64 v]=(P.set k { P[k]with par:=v }).map cLo:=λv=>by rw[Wz];rfl
 have R:∀v:Int,(P.set k { P[k]with par:=v }).map zqe=P.map zqe:=λv=>by
  rw[Wz];have:zqe { P[k]with par:=v }=(P.map zqe)[k]'(by rw[Wh];exact t):=by rw[WM];rfl
  rw[this,List.set_getElem_self]
 have B:zq Z9 zgR [encL 4 cLo (P.set k { P[k]with body:=[] }),.int .i64 ((P[k].h:Nat):Int)] (λv=>∃n:Int,v=.int .i64 n):=zt2 _ _ (by rw[WK];omega) (λp C=>by
  rcases List.mem_or_eq_of_mem_set C with h|rfl
  .exact Z p h
  .exact Wa _)
 refine Gw1 @dT ?_;intros;rw[<-S];refine zb6 [(0,0,0)] 1 _ (zBb P γ (by omega)) rfl rfl fin9 fin9 ?_;rintro _ _ _ ⟨rfl,rfl,rfl⟩;have F:∀{ρ:Nat->Nat}{l:List LoopR}{g:Nat},AObj.ren ρ (.row 4 (l.map cLo) g)=.row 4 (l.map cLo) g:=λ{ρ l g}=>by simp only[AObj.ren];rw[zhJ (zI λ_=>rfl)]
 refine Gw5 @F O K @ub @ug ?_;intros
 have M:∀{H:AH}{V:List AV},V=[.int .i64 ((P[k].h:Nat):Int),.nilsl,zb P[k].ex,.int .i64 P[k].par]->H.get 2 0=some (.row 4 ((P.map cLo).set k V) 0)->Vw H [] nos allR false (.own 2 0 0 0 P.length) (encL 4 cLo (P.set k { P[k]with body:=[] })):=λ{H V} hcs y=>by
  have e:encL 4 cLo (P.set k { P[k]with body:=[] })=.sl 4 P.length (λi j=>(((P.set k { P[k]with body:=[] }).map cLo).getD i []).getD j .undef):=by unfold encL;rw[WK]
  rw[e];refine .frz _ 2 0 0 0 P.length 4 _ _ trivial y (by omega) (by rw[WK,Wh];omega) (λi j hi hj=>?_);rw[Xn,Wz];simp only[We,List.getElem?_set];by_cases A:k=i
  .subst A;rw[if_pos rfl,if_pos rfl,Wh,if_pos t,if_pos t,hcs]
   match j with
   |0=>exact .int _ _ _
   |1=>exact zjj
   |2=>exact .sl _ _ _ _
   |3=>exact .int _ _ _
   |j+4=>omega
  .rw[if_neg A,if_neg A,Wu,Wm hi]
   match j with
   |0=>exact .int _ _ _
   |1=>exact .sl _ _ _ _
   |2=>exact .sl _ _ _ _
   |3=>exact .int _ _ _
   |j+4=>omega
 refine zl3 B (.cons (M rfl rfl) (.cons (.int _ _ _) .nil)) (λa ⟨n,e⟩=>.inl (by rw[e];rfl)) ?_;rintro _ ⟨v,rfl⟩;have u:=T v;simp only[za,zb]at u;refine Gw5 O K @ub @ug u ?_;intros;exact⟨(k+1,P.set k { P[k]with par:=v }),⟨by simp only;omega,(R v).trans I⟩,by simp only;omega,(Xa [(0,0,0)] [] rfl (Gin2_1 u) (Gin2_1 u))⟩
end Go.Ab
namespace Go.Ab
open Go.RowKit Go.Proofs
theorem zEZ(l)(h:l.length<=100000000):zG Z9 zS [zb l] [] 0 (λv H nx=>v=.own 0 0 0 0 l.length/\H=[(0,.row 1 (l.map cI) 0)]/\nx=1):=by
 refine zaC (fn_x zfH rfl ?_);unfold zc9 zb;conv in Z8 _ _=>reduce
 have g:=hBig;have c:∀H,zcX 1 (encL 1 (λn=>[.int .i64 n]) l) H=some (l.map cI):=λH=>zBg
 refine Gw1 @zrB ?_;intros
 cases d:(l.length == 0)with
 |true=>
  have e:l=[]:=Wl (by simpa using d);subst e;refine Gw0 ?_;intros;rename_i b;cases b
  ·(refine Gw2 c @zae.eq_1 ?_;intros);exact⟨.own 0 0 0 0 0,[(0,.row 1 [] 0)],1,(Xa [(0,1,1)] [] rfl Qd Qd),rfl,rfl,rfl⟩
  ·(refine Gw1 @zae.eq_1 ?_;intros);exact⟨.own 0 0 0 0 0,[(0,.row 1 [] 0)],1,(Xa [(0,1,0)] [] rfl Qd Qd),rfl,rfl,rfl⟩
 |false=>refine Gw2 c @zae.eq_1 ?_;intros;exact⟨.own 0 0 0 0 l.length,[(0,.row 1 (l.map cI) 0)],1,(Xa [(0,1,1)] [] rfl Qd Qd),rfl,rfl,rfl⟩
theorem renI{ρ:Nat->Nat}{l:List Int}{g:Nat}:AObj.ren ρ (.row 1 (l.map cI) g)=.row 1 (l.map cI) g:=by simp only[AObj.ren];rw[zhJ (zI λ_=>rfl)]
theorem zld(b:Bl)(t:∀s∈b.stmts,s.cases.length<=100000000):zq Z9 zdL [.agg b.cells] (·=zb (zai b.stmts)):=by
 refine fn_x zqp rfl ?_;refine dcU zkY.eq_1 ?_;have x:=hBig;obtain⟨w,l⟩:=b;simp only at t;simp only[Xb];by_cases u:l.length=0
 .obtain rfl:l=[]:=Wl u;refine Gw4 @uf @dT @uh @zci.eq_1 ?_;intros;exact⟨_,zcd (l:=[]) trivial rfl (by simp only[WL];omega),rfl⟩
 have c:l.length-1<l.length:=by omega
 have h:(((l.length:Nat):Int)-1).toNat=l.length-1:=by omega
 have g:=t _ (Wc c);have k:=zi (f:=Xd) (d:=[]) c;rw[zrt c];generalize l[l.length-1]=s at k g;obtain⟨op,var,m,next,j,v,e,n⟩:=s;simp only[Xd]at k g;unfold zhQ;simp only;refine Gw5 @uf @dT @dF h k ?_;intros;by_cases o:op=6
 .rw[if_pos o];refine Gw6 @dT @dF @uf @ug @uu @zci.eq_1 ?_;intros;exact⟨_,zcd (l:=[next]) trivial rfl (by simp only[WB];omega),rfl⟩
 rw[if_neg o];by_cases p:op=7
 .rw[if_pos p];refine Gw6 @dT @dF @uf @ug @uu @zci.eq_1 ?_;intros;exact⟨_,zcd (l:=[next,j]) trivial rfl (by simp only[WF,WL];omega),rfl⟩
 rw[if_neg p];by_cases q:op=8
 .rw[if_pos q];refine Gw4 @dT @dF @uf @uu ?_;intros;refine zb6 [] 0 _ (zEZ n g) rfl rfl Gin1_0 Gin1_0 ?_;rintro _ _ _ ⟨rfl,rfl,rfl⟩;refine Gw2 @renI @zci.eq_1 ?_;intros;exact⟨_,zcd (l:=n) trivial rfl (by omega),rfl⟩
 rw[if_neg q];refine Gw6 @dT @dF @uf @ug @uu @zci.eq_1 ?_;intros;exact⟨_,zcd (l:=[]) trivial rfl (by simp only[WL];omega),rfl⟩
theorem zp3:∀(l:List St)(h:l.length-1<l.length),ztd l=(zsm (l[l.length-1]'h) && !((l.take (l.length-1)).any zsm))
 |[],h=>by simp at h
 |
  [x],h=>by
  rw[ztd,ztd];simp
 |
  x::y::l,h=>by
  have b:=zp3 (y::l) (by simp);rw[ztd,b];simp only[WF,Nat.add_sub_cancel,List.isEmpty_cons,WV,List.any_cons];have e:(x::y::l)[l.length+1]=(y::l)[l.length]:=rfl;rw[e];cases zsm x<;>cases zsm (y::l)[l.length]<;>simp
theorem zHp{α:Type}{f:α->List AV}{H c:AH}{σ:Nat->Nat->Option (Nat×Nat×Nat)}{D:Nat->Nat->Prop}{t:Bool}{l:List α}{b i n z:Nat}(p:i<=l.length)(k:n=i)(o:z=0)(h:∀a,zu (f a)=true):
  Vw H c σ D t (.sl b n (λa j=>((l.map f).getD (z+a) []).getD j .undef)) (encL b f (l.take i)):=by
 subst k o;have e:(l.take n).length=n:=by rw[Wp];omega
 unfold encL;rw[e];refine .slf _ _ _ _ _ (λa j g q=>?_);have d:(List.map f (List.take n l)).getD a []=(l.map f).getD (0+a) []:=by rw[Xn,List.map_take,We,List.getElem?_take_of_lt g,We]
 rw[d,zi (show 0+a<l.length by omega),We]
 cases m:(f l[0+a])[j]? with
 |none=>exact .undef _ _
 |some x=>exact zk (zbz (h _) m)
theorem ztj(l):PredT (.fn (.func zcT) []) l zsm:=⟨_,_,rfl,by kernel_rfl,rfl,λs _=>zkX s⟩
theorem zso(t ad)(l):zq Z9 zfU [.int .i64 t,encP 2 [.int .u32 ad,encL 2 Xb l]] (·=.bool (!inN l.length t)):=by
 refine fn_x zsH rfl ?_;unfold zmV inN;conv in Z8 _ _=>reduce
 have d:=hBig;by_cases b:0<=t
 .by_cases c:t<l.length
  .rw[decide_eq_true ⟨b,c⟩];refine Gw4 @uf @dT @dF @zgF.eq_1 ?_;intros;exact bzO
  .rw[decide_eq_false (λh=>c h.2)];refine Gw4 @uf @dT @dF @zgF.eq_1 ?_;intros;exact bzO
 .rw[decide_eq_false (λh=>b h.1)];refine Gw4 @uf @dT @dF @zgF.eq_1 ?_;intros;exact bzO
theorem zpG(b)(l)(m):PredI (.fn (.func zfU) [encP 2 [.int .u32 b,encL 2 Xb l]]) m (λt=> !inN l.length t):=⟨_,_,rfl,by kernel_rfl,rfl,λs _=>zso s b l⟩
theorem zvI(g)(A:fewB g)(v:∀b∈g.blocks,∀s∈b.stmts,s.cases.length<=100000000):zq Z9 zkH [.agg g.cells] (·=.bool (!g.blocks.isEmpty&&g.blocks.all λb=>zjx b.stmts g.blocks.length)):=by
 refine fn_x zvL rfl ?_;refine dcU zp5.eq_1 ?_;have C:=hBig;obtain⟨y,B⟩:=A;obtain⟨n,l⟩:=g;simp only at y B v;simp only[G.cells];by_cases u:l.length=0
 .obtain rfl:l=[]:=Wl u;refine Gw4 @uf @dT @uh @zdQ.eq_1 ?_;intros;exact bzO
 have z:l.isEmpty=false:=by cases l with|nil=>simp at u|cons a l=>rfl
 rw[z];generalize x:(l.all λb=>zjx b.stmts l.length)=R;refine Gw2 @uf @dF ?_;intros;refine zd (λi:Nat=>([(1,encP 2 [.int .u32 n,encL 2 Xb l]),(11,encL 2 Xb l),(12,.int .i64 l.length),(13,.int .i64 i)],[])) 0 (λi=>i<=l.length/\((l.drop i).all λb=>zjx b.stmts l.length)=R) (λi=>l.length-i) 0 ⟨Wa _,x⟩ (Xc rfl fin5) ?_;rintro i ⟨F,c⟩ wf;unfold zlR;by_cases o:i<l.length
 .have k:(l.map Xb).getD i []=[.int .u32 l[i].addr,encL 8 Xd l[i].stmts]:=zi o;have e:=zld l[i] (v _ (Wc o));rw[Wn o,Wq]at c;simp only[Xb]at e;generalize l[i].stmts=m at k c e;generalize l[i].addr=w at k e;by_cases j:m.length=0
  .obtain rfl:m=[]:=Wl j;replace c:R=false:=by rw[<-c];rfl
   subst c;refine Gw5 @uf @dT k @uh @zdQ.eq_1 ?_;intros;exact bzO
  have d:m.length-1<m.length:=by omega
  have h:(((m.length:Nat):Int)-1).toNat=m.length-1:=by omega
  have p:m.isEmpty=false:=by cases m with|nil=>simp at j|cons a l=>rfl
  unfold zjx at c;rw[p,zp3 m d]at c;refine Gw8 @uf @dT @dF k h (gmp d) @St.len @St.eight ?_;intros;refine ze (zh (zkX m[m.length-1]) rfl) ?_;generalize zsm m[m.length-1]=q at c
  cases q with
  |false=>
   replace c:R=false:=by rw[<-c];rfl
   subst c;refine Gw1 @zdQ.eq_1 ?_;intros;exact bzO
  |true=>
   refine Gw3 @uf @zEY h ?_;intros;refine ze (zaQ (D:=noR) (zkM (m.take (m.length-1)) _ _ (ztj _)) (.cons (zHp (by omega) (by omega) rfl (λ_=>rfl)) (.cons (zzj (ztj (m.take (m.length-1)))) .nil)) (.inl rfl)) ?_;generalize (m.take (m.length-1)).any zsm=q at c
   cases q with
   |true=>
    replace c:R=false:=by rw[<-c];rfl
    subst c;refine Gw1 @zdQ.eq_1 ?_;intros;exact bzO
   |false=>
    refine Gw1 @uf ?_;intros;refine ze (zh e rfl) ?_;refine Gw1 @uf ?_;intros;refine ze (zaQ (D:=noR) (zkK (zai m) _ _ (zpG n l _)) (.cons (zac rfl) (.cons (zzY (zpG n l (zai m))) .nil)) (.inl rfl)) ?_;rw[List.all_eq_not_any_not]at c;generalize ((zai m).any λt=> !inN l.length t)=q at c
    cases q with
    |true=>
     replace c:R=false:=by rw[<-c];rfl
     subst c;refine Gw1 @zdQ.eq_1 ?_;intros;exact bzO
    |false=>
     replace c:((l.drop (i+1)).all λb=>zjx b.stmts l.length)=R:=by rw[<-c];rfl
     refine Gw0 ?_;intros;exact⟨i+1,⟨by omega,c⟩,by omega,(Xa [] [] rfl Qd Qd)⟩
 .rw[Wk (by omega)]at c;replace c:R=true:=by rw[<-c];rfl
  subst c;refine Gw2 @uf @dF ?_;intros;unfold zlx;refine Gw1 @zdQ.eq_1 ?_;intros;exact bzO
theorem zqo(g)(t:fewB g)(A:∀b∈g.blocks,∀s∈b.stmts,s.cases.length<=100000000):zq Z9 zb5 [.agg g.cells] (·=.int .i64 (zjb g)):=by
 refine fn_x zqr rfl ?_;refine dcU zlg.eq_1 ?_;have D:=hBig;have e:=zvI g t A;obtain⟨z,p⟩:=t;obtain⟨x,l⟩:=g;simp only at z p e;simp only[G.cells,zjb]at e⊢;refine Gw1 @uf ?_;intros;refine zd (λs:Nat×Nat=>([(1,encP 2 [.int .u32 x,encL 2 Xb l]),(3,.int .i64 s.2),(12,encL 2 Xb l),(13,.int .i64 l.length),(14,.int .i64 s.1)],[])) 0 (λs=>s.1<=l.length/\s.2<=8*s.1) (λs=>l.length-s.1) (0,0) ⟨Wa _,Wg _⟩ (Xc rfl fin5) ?_;rintro⟨i,n⟩ ⟨u,B⟩ wf;simp only at u B;refine dcU ziv.eq_1 ?_;by_cases h:i<l.length
 .have k:(l.map Xb).getD i []=[.int .u32 l[i].addr,encL 8 Xd l[i].stmts]:=zi h;have o:=p l[i] (Wc h);refine Gw3 @uf @dT k ?_;intros;exact⟨(i+1,n+l[i].stmts.length),⟨by simp only;omega,by simp only;omega⟩,by simp only;omega,(Xa [] [] rfl Qd Qd)⟩
 refine Gw2 @uf @dF ?_;intros;refine dcU zh5.eq_1 ?_
 (repeat first|simp(disch:=try exact dis1) only[evD,Xe,Xf,Xg,fldP,dF,loadP,tab,List.getD_cons_zero,List.getD_cons_succ]|with_reducible first|intro _|refine aJ ?_)
 refine ze (zh e rfl) ?_;generalize (!l.isEmpty&&l.all λb=>zjx b.stmts l.length)=q
 cases q with
 |false=>refine Gw1 @zeS.eq_1 ?_;intros;exact izO
 |true=>
 rw[if_pos rfl];refine Gw1 @uf ?_;intros;refine zd (λi:Nat=>([(36,encL 2 Xb l),(37,.int .i64 l.length),(38,.int .i64 i)],[])) 0 (λi=>i<=l.length/\zm1 (l.drop i)=zm1 l) (λi=>l.length-i) 0 ⟨Wa _,rfl⟩ (Xc rfl fin5) ?_;rintro i ⟨u,d⟩ wf;refine dcU zie.eq_1 ?_;by_cases h:i<l.length
 .have k:(l.map Xb).getD i []=[.int .u32 l[i].addr,encL 8 Xd l[i].stmts]:=zi h;have o:=p l[i] (Wc h);rw[zxa h]at d;refine Gw3 @uf @dT k ?_;intros;generalize l[i].stmts=m at k d o;generalize l[i].addr=y at k;refine zd (λj:Nat=>([(36,encL 2 Xb l),(37,.int .i64 l.length),(38,.int .i64 i),(43,encL 8 Xd m),(44,.int .i64 m.length),(45,.int .i64 j)],[])) 0 (λj=>j<=m.length/\zjf (m.drop j)=zjf m) (λj=>m.length-j) 0 ⟨Wa _,rfl⟩ (Xa [] [] rfl Qd Qd) ?_;rintro j ⟨F,c⟩ C;refine dcU zh7.eq_1 ?_;by_cases v:j<m.length
  .rw[zxR v]at c;refine Gw6 @uf @dT (gmp v) @St.len @St.eight @St.flat ?_;intros;refine ze (zh (zq1 m[j]) rfl) ?_;by_cases w:m[j].check=0
   .rw[if_neg (by omega)]at c;refine Gw1 @dF ?_;intros;exact⟨j+1,⟨by omega,c⟩,by omega,(Xa [] [] rfl Qd Qd)⟩
   .rw[if_pos w]at c;rw[<-c,if_pos w]at d;rw[<-d];refine Gw2 @dT @zeS.eq_1 ?_;intros;exact izO
  .rw[Wk (by omega),zjf]at c;rw[<-c,if_neg (by omega)]at d;refine Gw2 @uf @dF ?_;intros;refine dcU zh4.eq_1 ?_;refine Gw0 ?_;intros;exact⟨i+1,⟨by omega,d⟩,by omega,Xc rfl fin5⟩
 rw[Wk (by omega),zm1]at d;rw[<-d];refine Gw2 @uf @dF ?_;intros;unfold ziF;refine Gw1 @zeS.eq_1 ?_;intros;exact izO
def stOk(s:St):Bool:=decide (s.cases.length<=8)&&(decide (s.e.length<=3)&&zjv s.e)
def blOk(b:Bl):Bool:=decide (b.stmts.length<=8)&&b.stmts.all stOk
def fewG(g:G):Bool:=(g.blocks.take 14).all blOk&&decide (g.blocks.length<=12)
theorem zFX{l:List Bl}{i:Nat}(h:i<l.length)(b:i<14):((l.drop i).take (14-i)).all blOk=(blOk l[i]&&((l.drop (i+1)).take (14-(i+1))).all blOk):=by rw[Wn h,show 14-i=(14-(i+1))+1 by omega,WV,Wq]
theorem zs9(g:G):zq Z9 zlK [.agg g.cells] (·=.bool (fewG g)):=by
 refine fn_x zBa rfl ?_;refine dcU ztl.eq_1 ?_;have V:=hBig;obtain⟨y,l⟩:=g;simp only[G.cells,fewG];generalize O:(l.take 14).all blOk=R;refine Gw1 @uf ?_;intros;refine zd (λi:Nat=>([(1,encP 2 [.int .u32 y,encL 2 Xb l]),(3,.int .i64 i)],[])) 0 (λi=>(i<=l.length/\i<=14)/\((l.drop i).take (14-i)).all blOk=R) (λi=>l.length-i) 0 ⟨⟨Wa _,Wa _⟩,O⟩ (Xc rfl fin5) ?_;rintro i ⟨⟨W,P⟩,c⟩ wf;refine dcU znV.eq_1 ?_;have q:R=true->wpX Z9 0 zkL (retK zgm λv J x=>∃a,Frz J v a/\a=.bool (R&&decide (l.length<=12))) [(1,encP 2 [.int .u32 y,encL 2 Xb l]),(3,.int .i64 i),(15,.bool false)] [] 0:=by intro S;subst S;refine dcU zkL.eq_1 ?_;refine Gw2 @uf @zgm.eq_1 ?_;intros;exact bxO (decide_eq_decide.2 (by omega))
 by_cases F:i<l.length
 case neg=>
  rw[Wk (by omega),List.take_nil]at c;replace c:R=true:=by rw[<-c];rfl
  refine Gw2 @uf @dF ?_;intros;exact q c
 by_cases B:i<14
 case neg=>
  rw[show 14-i=0 by omega,Ww]at c;replace c:R=true:=by rw[<-c];rfl
  have hd:decide ((i:Int)<14)=false:=decide_eq_false (by omega);refine Gw3 @uf @dT hd ?_;intros;exact q c
 have p:(l.map Xb).getD i []=[.int .u32 l[i].addr,encL 8 Xd l[i].stmts]:=zi F;rw[zFX F B]at c;unfold blOk at c;by_cases A:l[i].stmts.length<=8
 case neg=>
  rw[decide_eq_false A]at c;replace c:R=false:=by rw[<-c];rfl
  subst c;refine Gw4 @uf @dT p @zgm.eq_1 ?_;intros;exact bzO
 rw[decide_eq_true A,Wx]at c;refine Gw4 @uf @dT @dF p ?_;intros;generalize l[i].stmts=m at p c A;generalize l[i].addr=K at p;generalize N:m.all stOk=M at c;refine zd (λj:Nat=>([(1,encP 2 [.int .u32 y,encL 2 Xb l]),(3,.int .i64 i),(4,.int .i64 j)],[])) 0 (λj=>j<=m.length/\(m.drop j).all stOk=M) (λj=>m.length-j) 0 ⟨Wa _,N⟩ (Xc rfl fin5) ?_;rintro j ⟨X,b⟩ T;refine dcU zoo.eq_1 ?_;by_cases H:j<m.length
 case neg=>
  rw[Wk (by omega)]at b;replace b:M=true:=by rw[<-b];rfl
  subst b;refine Gw3 @uf @dF p ?_;intros;refine dcU zoj.eq_1 ?_;refine Gw0 ?_;intros;exact⟨i+1,⟨⟨by omega,by omega⟩,by rw[<-c,Wx];rfl⟩,by omega,Xc rfl fin5⟩
 rw[Wn H,Wq]at b;have n:=zi (f:=Xd) (d:=[]) H;generalize m[j]=s at b n;obtain⟨op,var,o,next,z,C,e,D⟩:=s;simp only[Xd]at n;simp only[stOk]at b;refine Gw4 @uf @dT p n ?_;intros;by_cases t:D.length<=8
 case neg=>
  rw[decide_eq_false t]at b;replace b:M=false:=by rw[<-b];rfl
  subst b;replace c:R=false:=by rw[<-c];rfl
  subst c;refine Gw4 @uf @ug @dT @zgm.eq_1 ?_;intros;exact bzO
 rw[decide_eq_true t,Wx]at b;by_cases u:e.length<=3
 case neg=>
  rw[decide_eq_false u]at b;replace b:M=false:=by rw[<-b];rfl
  subst b;replace c:R=false:=by rw[<-c];rfl
  subst c;refine Gw5 @uf @ug @dF @dT @zgm.eq_1 ?_;intros;exact bzO
 rw[decide_eq_true u,Wx]at b;refine Gw4 @uf @ug @dF @dT ?_;intros;generalize L:zjv e=E at b;refine zd (λk:Nat=>([(1,encP 2 [.int .u32 y,encL 2 Xb l]),(3,.int .i64 i),(4,.int .i64 j),(5,.ptr 0 0 0 0 0),(6,.int .i64 k)],[(0,.row 8 [[.int .i64 op,.int .i64 var,.int .i64 o,.int .i64 next,.int .i64 z,.int .u32 C,encL 5 encX e,zb D]] 0)])) 1 (λk=>k<=e.length/\zjv (e.drop k)=E) (λk=>e.length-k) 0 ⟨Wa _,L⟩ (Xa [(0,0,0)] [] rfl Qd Qd) ?_;rintro k ⟨Y,h⟩ U;refine dcU zn2.eq_1 ?_;by_cases w:k<e.length
 case neg=>
  rw[Wk (by omega)]at h;replace h:E=true:=by rw[<-h];rfl
  subst h;refine Gw2 @uf @dF ?_;intros;refine dcU zoh.eq_1 ?_;refine Gw0 ?_;intros;exact⟨j+1,⟨by omega,by rw[<-b,Wx]⟩,by omega,(Xa [] [] rfl Qd Qd)⟩
 rw[zuU w]at h;have Q:=zi7 e[k] 70 200 (by omega);refine Gw5 @uf @dT (gmp w) @zdZ @zdh ?_;intros;refine ze (zh (zwd (zhS e[k]) e[k] 70 200 (Wg _) (by omega) (by omega) (by omega) (by omega)) (flX rfl)) ?_;by_cases I:zgZ e[k] 70 200<0
 .rw[if_pos I]at h;subst h;replace b:M=false:=by rw[<-b];rfl
  subst b;replace c:R=false:=by rw[<-c];rfl
  subst c;refine Gw2 @dT @zgm.eq_1 ?_;intros;exact bzO
 .rw[if_neg I]at h;refine Gw1 @dF ?_;intros;exact⟨k+1,⟨by omega,h⟩,by omega,(Xa [(0,0,0)] [] rfl Qd Qd)⟩
structure PredN(fv:AV)(l:List Nd)(p:Nd->Bool):Prop where
 ex:∃f caps,fv=.fn (.func f) caps/\ze7 Z9 f=true/\zu caps=true/\∀s∈l,zq Z9 f ([.agg (encN s)]++caps) (·=.bool (p s))
def hasI(l:List Int)(t:Int):Bool:=l.any λx=>decide (x=t)
theorem zsQ(l)(t):zq Z9 zcK [zb l,.int .i64 t] (·=.bool (hasI l t)):=by
 refine fn_x zsW rfl ?_;unfold zpn hasI;conv in Z8 _ _=>reduce
 have g:=hBig;generalize e:(l.any λx=>decide (x=t))=R;refine Gw1 @ug ?_;intros;refine zd (λi:Nat=>([(0,zb l),(1,.int .i64 t),(5,.int .i64 i)],[])) 0 (λi=>i<=l.length/\((l.drop i).any λx=>decide (x=t))=R) (λi=>l.length-i) 0 ⟨Wa _,e⟩ (Xc rfl fin5) ?_;rintro i ⟨h,b⟩ wf;refine dcU zkr.eq_1 ?_;by_cases c:i<l.length
 .rw[Wn c,List.any_cons]at b;by_cases d:l[i]=t
  .rw[decide_eq_true d,Bool.true_or]at b;subst b;refine Gw4 @dT @ug (gmp c) @zj6.eq_1 ?_;intros;exact bzO
  .rw[decide_eq_false d,Bool.false_or]at b;refine Gw4 @dT @dF @ug (gmp c) ?_;intros;exact⟨i+1,⟨by omega,b⟩,by omega,Xc rfl fin5⟩
 .rw[Wk (by omega)]at b;replace b:R=false:=by rw[<-b];rfl
  subst b;refine Gw2 @dF @ug ?_;intros;unfold zkJ;refine Gw1 @zj6.eq_1 ?_;intros;exact bzO
end Go.Ab
