/-
  Part 22 of the proof: how the calls of this program run, over values instead of memory, and what each function computes.
-/
import Derived.Test.YtmlhipilbnjhiaaGreatQu
set_option maxRecDepth 100000
set_option linter.unusedVariables false
set_option linter.unusedSimpArgs false
set_option linter.unnecessarySimpa false
set_option linter.unusedSectionVars false
open Go.Ab.Ent renaming tab->Xa,keep->Xc,tabB->Xh
open Go.Ab.Bl renaming cells->Xb
open Go.Ab.St renaming cells->Xd
open Nat renaming reduceBEq->Xe,reduceAdd->Xf,reduceLeDiff->Xg,reduceSub->Xi,reduceLT->Xj,le_trans->Xk,mul_one->Xl,add_zero->Xm,zero_add->Xn
open Go.Proofs.Tryz renaming prog->Z9
open Nat renaming zero_le→Wa,le_refl→Wf,mul_le_mul→WD
open List renaming getElem_mem→Wc,append_nil→Wd,drop_of_length_le→We,getD_eq_getElem?_getD→Wg,map_append→Wh,length_append→Wi,append_assoc→Wj,length_map→Wk,drop_eq_getElem_cons→Wl,eq_nil_of_length_eq_zero→Wm,getElem?_eq_getElem→Wn,all_cons→Wo,range→Wp,length_take→Wq,length_singleton→Wr,findIdx?_eq_some_iff_getElem→Wt,findIdx?_eq_none_iff→Wu,take_length→Wv,getElem?_map→Ww,mem_map→Wx,take_zero→Wy,mem_iff_getElem→Wz,map_set→WA,map_map→WB,singleton_append→WC,replicate→WE,length_cons→WF,length_filter_le→WG,cons_append→WH,nil_append→WI,length_set→WK,length_nil→WL,getElem_map→WM,getElem?_append_right→WP,length_range→WQ,take_of_length_le→WR,any_eq_false→WS,any_eq_true→WU,take_succ_cons→WV
open Bool renaming true_and→Ws,and_eq_true→WJ
open Array renaming getElem?_modify→WN
open Option renaming map_eq_some_iff→WO
namespace Go.Ab.Dm
open Go.RowKit Go.Proofs
theorem zeI(g:Gr)(b:g.small):zn Z9 zay [.agg g.cells] (·=encNN (predL g.E)):=by rw[<-zv3];exact zjf g b
theorem zt6{c}:tI (some c)=(c:Int):=rfl
theorem zxM{E:Adj}{k:Nat}(h:k<(predL E).length):suc (predL E) k=(predL E)[k]:=zk8 h
theorem zuK(g:Gr)(B:g.small):zS Z9 zd6 [.agg g.cells] [] 0
  (λv H nx=>∃gs,v=.own 0 0 0 0 g.blocks.length/\H=[(0,.row 1 (fe 1 g.blocks.length (nx1 g.E g.blocks.length) gs) 0),(1,.fam 1 (fi cN g.blocks.length (nx1 g.E g.blocks.length) gs))]/\nx=2):=by
 refine zaA (fn_x zut rfl ?_);refine dcU zoe.eq_1 ?_;have J:=hBig;have u:=g.E_len;have K:=B.1;have C:=zeI g B;have w:(predL g.E).length=g.blocks.length:=by rw[predL_len,u]
 refine Gw2 @ug @um ?_;intros;refine ze (zc C rfl) ?_;refine Gw1 @ue ?_;intros
 refine zd (λs:Nat×(Nat->Nat)=>([(3,.own 0 0 0 0 g.blocks.length),(13,encNN (predL g.E)),(14,.int .i64 g.blocks.length),(15,.int .i64 s.1)],[(0,.row 1 (fe 1 g.blocks.length (nx1 g.E s.1) s.2) 0),(1,.fam 1 (fi cN g.blocks.length (nx1 g.E s.1) s.2))])) 2
  (λs=>s.1<=g.blocks.length) (λs=>g.blocks.length-s.1) (0,λ_=>0) (Wa _) (Xa [(0,1,0)] [] rfl (Gin4_3 @ue @zBr w) (Gin4_3 @ue @zBr w)) ?_
 rintro⟨k,gs⟩ hk wf;simp only at hk;refine dcU zkj.eq_1 ?_;refine Gw1 @ue ?_;intros;(refine zf (λh=>?_) (λh=>?_))<;>(try simp only[dcd]at h)
 .have F:k<g.blocks.length:=by omega
  have t:k<(predL g.E).length:=by omega
  have y:=zxM t;have x:=zpj (E:=g.E) (b:=k);rw[y]at x;refine Gw2 (gmp t) @ub ?_;intros
  refine zd (λs:Nat×(Nat->Nat)=>([(3,.own 0 0 0 0 g.blocks.length),(4,.int .i64 k),(13,encNN (predL g.E)),(14,.int .i64 g.blocks.length),(15,.int .i64 k),(20,zb (predL g.E)[k]),(21,.int .i64 (predL g.E)[k].length),(22,.int .i64 s.1)],[(0,.row 1 (fe 1 g.blocks.length (nx2 g.E k s.1) s.2) 0),(1,.fam 1 (fi cN g.blocks.length (nx2 g.E k s.1) s.2))])) 2
   (λs=>s.1<=(predL g.E)[k].length) (λs=>(predL g.E)[k].length-s.1) (0,gs) (Wa _) (Xa [(0,0,0),(1,1,0)] [] rfl (Gin4_2 @ue @zB1) (Gin4_2 @ue @zB1)) ?_
  rintro⟨i,o⟩ hi wf;simp only at hi;refine dcU zkz.eq_1 ?_;refine Gw2 @ue @ub ?_;intros;(refine zf (λz=>?_) (λz=>?_))<;>(try simp only[dcd]at z)
  .have q:i<(predL g.E)[k].length:=by omega
   have e:i<(suc (predL g.E) k).length:=by rw[y];exact q
   have m:=zJd (E:=g.E) (b:=k) (i:=i) e;have j:=zKM (E:=g.E) (b:=k) (i:=i) e;have d:(suc (predL g.E) k)[i]<g.blocks.length:=by have:=((mem_predL (E:=g.E) (by omega)).1 (Wc e)).1;omega
   simp only[y]at m j d;refine Gw1 (gmp q) ?_;intros;generalize (predL g.E)[k][i]=p at m j d⊢;have I:=zK1 (E:=g.E) (b:=k) (i:=i) (p:=p)
   (repeat first|simp(disch:=try exact dis1) only[evD,Xe,Xf,Xg,zpa,ztC d]|with_reducible first|intro _|refine aJ ?_)
   refine ze (zaW (D:=allR) (zcB (nx2 g.E k i p) k) (.cons (zbX trivial (zsw (c:=cN) (n:=g.blocks.length) (ll:=nx2 g.E k i) (gs:=o) rfl d) (by omega)) (.cons (.int _ _ _) .nil)) (.inl rfl)) ?_;rw[decide_eq_false j]
   (repeat first|simp(disch:=try exact dis1) only[evD,Xe,Xf,Xg,zpa,ztC d,zl9 d,zvS (c:=cN) (a:=k) (ca:=[AV.int .i64 (k:Int)]) rfl,zwB (ll:=nx2 g.E k i) (k:=p) k rfl]|with_reducible intro _|((with_reducible apply And.intro);omega))
   rw[m];exact⟨(i+1,_),by simp only;omega,by simp only;omega,(Xa [(0,0,0),(1,1,0)] [] rfl (Gin4_1 @ue) (Gin4_1 @ue))⟩
  .obtain rfl:i=(predL g.E)[k].length:=by omega
   have A:=zKE (E:=g.E) (b:=k) (by omega);rw[y]at A;rw[A];refine dcU zj9.eq_1 ?_;refine Gw0 ?_;intros;exact⟨(k+1,o),by simp only;omega,by simp only;omega,(Xa [(0,0,0),(1,1,0)] [] rfl (Gin4_1 @ue) (Gin4_1 @ue))⟩
 .obtain rfl:k=g.blocks.length:=by omega
  unfold zkd;refine Gw1 @zn4.eq_1 ?_;intros;exact⟨.own 0 0 0 0 g.blocks.length,_,2,(Xa [(0,0,0),(1,1,0)] [] rfl Gin4_0 Gin4_0),gs,rfl,rfl,rfl⟩
theorem zlD(g:Gr)(b:g.small):zn Z9 zd6 [.agg g.cells] (·=encNN (zmf g.E)):=by
 refine zS.mono (zuK g b) ?_;rintro v H nx ⟨c,rfl,rfl,rfl⟩;refine⟨_,?_,rfl⟩;have d:=b.1;have e:zmf g.E=(Wp g.blocks.length).map (nx1 g.E g.blocks.length):=by unfold zmf;rw[g.E_len]
 rw[e,zz6];exact zAN trivial rfl (by unfold big;omega) rfl (λ_ _=>trivial) (λi _=>Xk zqM (by unfold big;omega)) (λ_=>rfl)
def cP(e:Nat×Nat):List AV:=[.int .i64 (e.1:Int),.int .i64 (e.2:Int)]
def ziw(l:List (Nat×Nat)):AV:=encL 2 cP l
def bk2(E:Adj)(a i:Nat):List (Nat×Nat):=bk1 E a++bkA E a ((nx1 E E.length a).take i)
theorem zBw{E:Adj}:bk1 E 0=[]:=rfl
theorem zBl{E:Adj}{a:Nat}:bk2 E a 0=bk1 E a:=by simp[bk2,bkA]
theorem zJO{E:Adj}{a:Nat}(h:a∈ordE E):bk2 E a (nx1 E E.length a).length=bk1 E (a+1):=by unfold bk2;rw[Wv,zwc,if_pos h]
theorem zIj{E:Adj}{a:Nat}(h:a∉ordE E):bk1 E (a+1)=bk1 E a:=by rw[zwc,if_neg h,Wd]
theorem zIp{E:Adj}{a i:Nat}(h:i<(nx1 E E.length a).length):bk2 E a (i+1)=bk2 E a i++if isBk E a (nx1 E E.length a)[i]then[(a,(nx1 E E.length a)[i])]else[]:=by unfold bk2;rw[zI5 h,Wj]
theorem zJ3{E:Adj}{a i:Nat}(h:a<E.length)(c:E.length<=1000):(bk2 E a i).length<=1001000:=by
 unfold bk2;rw[Wi];have d:=zzN (E:=E) (a:=a);have e:=zGt (E:=E) (a:=a) (l:=(nx1 E E.length a).take i);have g:((nx1 E E.length a).take i).length<=E.length:=by rw[Wq];have:=zqM (E:=E) (b:=E.length) (p:=a);omega
 have:a*E.length<=1000*1000:=WD (by omega) c;omega
theorem zwY{E:Adj}(d:E.ok){a:Nat}(e:a<E.length):((zlY E).map λb=>[AV.bool b]).getD a []=[.bool (decide (a∈ordE E))]:=by
 rw[<-zxW d];unfold inB;rw[zg (by rw[zsl];exact e)];simp only[mapR,WM,List.getElem_range];have c:orderL E=ordE E:=by unfold orderL ordE ordL;rw[if_neg (by omega)]
 rw[c]
theorem _root_.Go.Ab.uj:type_of% @m9N:=@m9N
theorem zqf(g:Gr)(v:g.small):zn Z9 zd9 [.agg g.cells] (·=ziw (zha g.E)):=by
 refine fn_x zo7 rfl ?_;refine dcU zjH.eq_1 ?_;have H:=hBig;have c:=g.E_len;have J:=v.1;have B:=zkp g v;have A:=zgj g v;have z:=zlD g v;have F:(treeL g.E).length=g.blocks.length:=by simp[treeL,c]
 have u:(zlY g.E).length=g.blocks.length:=by simp[zlY,c]
 have h:(zmf g.E).length=g.blocks.length:=by simp[zmf,c]
 have t:∀k,k<g.blocks.length->((zmf g.E).map λl=>[zb l]).getD k []=[zb (nx1 g.E g.E.length k)]:=λk x=>by rw[zg (by omega)];simp[zmf]
 have y:=λa b=>zmd (treeL g.E) a b (by omega)
 refine Gw2 @ug @um ?_;intros;refine ze (zc B rfl) ?_;refine Gw2 @ug @um ?_;intros;refine ze (zc A rfl) ?_;refine Gw2 @ug @um ?_;intros;refine ze (zc z rfl) ?_;refine Gw1 @ue ?_;intros
 refine zd (λs:Nat×Nat=>([(3,za (treeL g.E)),(4,zcL (zlY g.E)),(5,.own 0 0 s.2 0 (bk1 g.E s.1).length),(15,encNN (zmf g.E)),(16,.int .i64 g.blocks.length),(17,.int .i64 s.1)],[(0,.row 2 ((bk1 g.E s.1).map cP) s.2)])) 1
  (λs=>s.1<=g.blocks.length) (λs=>g.blocks.length-s.1) (0,0) (Wa _) (Xa [(0,1,0)] [] rfl (Gin2_3 @ue h @zBw) (Gin2_3 @ue h @zBw)) ?_
 rintro⟨k,γ⟩ x wf;simp only at x;refine dcU zgZ.eq_1 ?_;by_cases q:k<g.blocks.length
 case neg=>
  obtain rfl:k=g.blocks.length:=by omega
  refine Gw1 @dF ?_;intros;unfold zhd;refine Gw1 @zjD.eq_1 ?_;intros;refine⟨_,?_,rfl⟩;rw[show zha g.E=bk1 g.E g.blocks.length by unfold zha;rw[c]];have w:=zzN (E:=g.E) (a:=g.blocks.length);have:g.blocks.length*g.E.length<=1000*1000:=WD (by omega) (by omega)
  exact zk3 trivial rfl (by omega) (λa _ j I=>by
   match j with
   |0=>exact .int _ _ _
   |1=>exact .int _ _ _
   |j+2=>omega)
 have m:=zwY g.E_ok (a:=k) (by omega);by_cases e:k∈ordE g.E
 case neg=>
  rw[decide_eq_false e]at m
  (repeat first|simp(disch:=try exact dis1) only[evD,Xe,Xf,Xg,dT,encNN,zcL,t k q,m,u,h]|with_reducible first|intro _|refine aJ ?_)
  refine dcU zdY.eq_1 ?_;refine Gw0 ?_;intros;exact⟨(k+1,γ),by simp only;omega,by simp only;omega,by rw[zIj e];exact(Xa [(0,0,0)] [] rfl (Gin2_1 @ue) (Gin2_1 @ue))⟩
 rw[decide_eq_true e]at m
 (repeat first|simp(disch:=try exact dis1) only[evD,Xe,Xf,Xg,dT,encNN,zcL,t k q,m,u,h]|with_reducible first|intro _|refine aJ ?_)
 refine Gw1 @ub ?_;intros;have D:=zqM (E:=g.E) (b:=g.E.length) (p:=k)
 refine zd (λs:Nat×Nat=>([(3,za (treeL g.E)),(4,zcL (zlY g.E)),(5,.own 0 0 s.2 0 (bk2 g.E k s.1).length),(6,.int .i64 k),(15,encNN (zmf g.E)),(16,.int .i64 g.blocks.length),(17,.int .i64 k),(27,zb (nx1 g.E g.E.length k)),(28,.int .i64 (nx1 g.E g.E.length k).length),(29,.int .i64 s.1)],[(0,.row 2 ((bk2 g.E k s.1).map cP) s.2)])) 1
  (λs=>s.1<=(nx1 g.E g.E.length k).length) (λs=>(nx1 g.E g.E.length k).length-s.1) (0,γ) (Wa _) (Xa [(0,0,0)] [] rfl (Gin2_2 @ue @zBl) (Gin2_2 @ue @zBl)) ?_
 rintro⟨i,n⟩ hi wf;simp only at hi;refine dcU zg1.eq_1 ?_;by_cases o:i<(nx1 g.E g.E.length k).length
 case neg=>
  obtain rfl:i=(nx1 g.E g.E.length k).length:=by omega
  refine Gw1 @dF ?_;intros;refine dcU zdY.eq_1 ?_;refine Gw0 ?_;intros;exact⟨(k+1,n),by simp only;omega,by simp only;omega,by rw[<-zJO e];exact(Xa [(0,0,0)] [] rfl (Gin2_1 @ue) (Gin2_1 @ue))⟩
 have d:=zIp (E:=g.E) (a:=k) (i:=i) o;have C:=zJ3 (E:=g.E) (a:=k) (i:=i) (by omega) (by omega);have hd:=y ((nx1 g.E g.E.length k)[i]:Nat) k;refine Gw3 @dT @ub (gmp o) ?_;intros;generalize (nx1 g.E g.E.length k)[i]=p at d hd⊢;refine ze (zc hd rfl) ?_
 cases w:domL (treeL g.E) p k with
 |true=>rw[if_pos (show isBk g.E k p=true from w)]at d;refine Gw0 ?_;intros;exact⟨(i+1,n+1),by simp only;omega,by simp only;omega,by rw[d];exact(Xa [(0,0,0)] [] rfl (Gin2_8 @ue @m9A @m9P @ui @uh @m9C @uj @cP.eq_1) (Gin2_8 @ue @m9A @m9P @ui @uh @m9C @uj @cP.eq_1))⟩
 |false=>rw[if_neg (show ¬isBk g.E k p=true by unfold isBk;rw[w];decide),Wd]at d;refine Gw0 ?_;intros;exact⟨(i+1,n),by simp only;omega,by simp only;omega,by rw[d];exact(Xa [(0,0,0)] [] rfl (Gin2_1 @ue) (Gin2_1 @ue))⟩
end Go.Ab.Dm
namespace Go.Ab
open Go.RowKit Go.Proofs Go.Sort Go.Shelf
theorem zEj{α:Type}[Inhabited α]{w:World}{b j off:Nat}{k:α->Value}{d:Array α}(h:FzOk w b):FzOk (putRow k w j off d) b:=by
 intro c e u s g;unfold putRow mapBlock at g;simp only[WN]at g;by_cases p:j=b
 .subst p;rw[if_pos rfl]at g
  cases n:w.heap[j]? with
  |none=>rw[n]at g;cases g
  |some o=>
   rw[n]at g
   cases o with
   |cells c0 q f0=>
    obtain⟨v,t⟩:=f0;simp only[Option.map_some,onCells,Option.some.injEq,Obj.cells.injEq,Prod.mk.injEq]at g;obtain⟨rfl,rfl,rfl,rfl⟩:=g;rcases h c0 q _ _ n with m|m
    .exact .inl m
    .exact .inr (by unfold putCells;simpa using m)
   |_=>simp[onCells]at g
 .rw[if_neg p]at g;exact h c e u s g
section
variable {w:World}{L:Nat->Prop}{ι:Inj}{H:AH}{nx:Nat}
theorem zEc{r q g:Nat}{zs:List Int}(F:H.get r q=some (.row 1 (zs.map λn=>[.int .i64 n]) g))(hlen:zs.length<=1000000):
  zS Z9 zd3 [.own r q g 0 zs.length] H nx (λv H' nx'=>(v,H',nx')=(.tup [],H.set r q (.row 1 ((znD zs).map λn=>[.int .i64 n]) g),nx)):=by
 intro w L ι vs rel hv
 obtain⟨mv,hvs,hmv⟩:∃mv,vs=#[mv]/\VR w (Lt L ι H) ι mv (.own r q g 0 zs.length):=by
  rcases vs with ⟨l⟩
  cases hv with
  |cons s t=>cases t;exact⟨_,rfl,s⟩
 subst hvs;have C:(znD zs).length=zs.length:=(zec zs).length_eq
 cases hmv with
 |own _ _ _ _ _ _ a c l J d hn hc N=>
  obtain⟨l',S,ok⟩:=rel.row _ _ _ _ _ F;rw[J]at S;cases S;have y:∀l0,ι r q g=some l0->l0=l:=λl0 V=>by rw[J]at V;cases V;rfl
  have U:l.sz=1:=ok.hsz;have nil:∀{M:Nat->Prop}{ι':Inj}{A:World},VR A M ι' (.tuple #[]) (.tup []):=.tup _ _ _ rfl (λi v a h=>by simp at h);rcases Nat.eq_zero_or_pos zs.length with V|o
  .obtain rfl:zs=[]:=Wm V;refine(AnyM.slices_Sort_int_none zwr a c w).mono λe A ⟨he,p⟩=>?_
   subst p;have X:Chg A ι H r q g l A:=⟨rfl,rfl,rfl,Wf _,λ_ _ _=>rfl,λo=>.inl ⟨1,_,g,l,F,J,o,rfl⟩,y,λY l2 t=>rel.gen r q _ _ _ F Y l2 t⟩;refine⟨_,_,_,_,_,he,X.step (.inl ⟨_,_,F⟩) rel (rel.idx _ _ _ _ J) (Wf _) (.mk' ok.hsz (ok.plain d).len d (ok.plain d).there (ok.plain d).fz (λi c h=>by simp[znD]at h) (λi c' j a s t=>by simp[znD]at s)),Wf _,nil,rfl⟩
  .obtain rfl:=N (by omega);have T:l.off+0*l.sz=l.off:=by omega
   rw[T];have u:0<l.cap*l.sz:=by rw[U];omega
   have m:=ok.blk_lt u;have D:∀{W:List Int}{j:Nat},j<W.length->(W.toArray)[j]! = W.getD j 0:=λ{W j} h=>by simp[h,List.getD]
   have P:∀j,j<zs.length->w.cell? ⟨l.block,l.off+j,none⟩=some (.int .i64 (zs.getD j 0))/\InR .i64 (zs.getD j 0):=by
    intro j K;have e:zs.getD j 0=zs[j]:=by simp[List.getD,K]
    obtain⟨v,s,_,t⟩:=ok.holds d j [.int .i64 zs[j]] 0 (.int .i64 zs[j]) (by rw[Ww,Wn K];rfl) rfl
    cases t with
    |int _ _ _ h3=>rw[e];simp only[Xl,Xm]at s;exact⟨s,h3⟩
   have hH:Holds (Value.int .i64) w l.block l.off zs.toArray:=λj K=>by
    have Q:j<zs.length:=by simpa using K
    rw[D Q];exact⟨(P j Q).1,((ok.plain d).there j (by have:=(ok.plain d).len;simp only[Wk]at this;omega)).2⟩
   refine(AnyM.slices_Sort_int zwr l.block l.off c zs w hH m (by omega)).mono λe A ⟨he,n,os,p⟩=>?_
   rw[zna (List.Perm.refl zs)]at p;have x:∀j,j<zs.length->A.cell? ⟨l.block,l.off+j,none⟩=some (.int .i64 ((znD zs).getD j 0)):=λj K=>by rw[p,cell?_grow _ _ _ (by simpa using m),putRow_ahead,cell?_ahead,cell?_putRow _ _ _ _ zs.toArray _ hH (by simpa using C) j (by simpa [C]using K),D (by omega)]
   have B:∀a:Addr,a.block<w.heap.size->(a.block≠l.block\/a.off<l.off\/l.off+zs.length<=a.off)->A.cell? a=w.cell? a:=λa N hx=>by rw[p,cell?_grow _ _ _ (by simpa using N),putRow_ahead,cell?_ahead,cell?_putRow_other _ _ _ _ _ _ (by simpa [C]using hx)]
   have O:∀a:Addr,a.block<w.heap.size->A.frozen? a=w.frozen? a:=λa N=>by rw[p,frozen?_grow _ _ _ (by simpa using N),putRow_ahead,frozen?_ahead,frozen?_putRow]
   have I:∀b,b<w.heap.size->b≠l.block->A.heap[b]?=w.heap[b]? := λb Z hne=>by rw[p,heap_grow_old _ _ (by simpa using Z)];simp only[putRow,mapBlock,heap_ahead,WN];rw[if_neg (Ne.symm hne)]
   have X:Chg w ι H r q g l A:=⟨by rw[p];rfl,by rw[p];rfl,by rw[p];rfl,by rw[p];simp,λb Z hn=>I b Z (λhbe=>hn ⟨1,_,g,l,F,J,u,hbe.symm⟩),λo=>.inl ⟨1,_,g,l,F,J,o,rfl⟩,y,λY l2 t=>rel.gen r q _ _ _ F Y l2 t⟩;have hfz:FzOk A l.block:=by have s:FzOk (putRow (Value.int .i64) (Sort.ahead w n) l.block l.off (znD zs).toArray) l.block:=zEj (((ok.plain d).fz (by rw[<-U];exact u)).of_heap rfl);rw[p];exact s.of_heap (heap_grow_old _ _ (by simpa using m))
   refine⟨_,_,_,_,_,he,X.step (.inl ⟨_,_,F⟩) rel (rel.idx _ _ _ _ J) (Wf _) (.mk' ok.hsz (by have:=(ok.plain d).len;simp only[Wk]at this⊢;omega) d (λk R=>?_) (λ_=>hfz) (λi c h=>?_) (λi c' j a s t=>?_)),Wf _,nil,rfl⟩
   .rw[O _ m];refine⟨?_,((ok.plain d).there k R).2⟩;by_cases hk2:k<zs.length
    .rw[x k hk2];rfl
    .rw[B _ m (.inr (.inr (by simp only;omega)))];exact((ok.plain d).there k R).1
   .rw[Ww]at h;obtain⟨z,_,rfl⟩:=WO.1 h;rfl
   .rw[Ww]at s;obtain⟨z,hz,rfl⟩:=WO.1 s
    match j with
    |0=>
     cases t;have hi:i<zs.length:=by rw[<-C];exact(List.getElem?_eq_some_iff.1 hz).1
     refine⟨.int .i64 z,?_,rfl,.int _ _ _ ?_⟩
     .simp only[Xl,Xm];rw[x i hi,Wg,hz];rfl
     .obtain⟨k,R,hke⟩:=Wz.1 ((zec zs).mem_iff.1 (List.mem_of_getElem? hz));have:=(P k R).2;simp only[List.getD,Wn R,Option.getD_some]at this;rw[hke]at this;exact this
    |j+1=>cases t
end
end Go.Ab
namespace Go.Ab
open Go.RowKit Go.Proofs Go.Ab.Dm
def zkr(l:List Int)(j:Nat):Bool:=j == 0||(l.getD j 0 != l.getD (j-1) 0)
def zbC(l:List Int)(n:Nat):List Int:=(filR (zkr l) n).map (λj=>l.getD j 0)
def zf2(l:List Int):List Int:=zbC l l.length
theorem zC4{l}{n}:(zbC l n).length<=n:=by unfold zbC;rw[Wk];exact filR_le
theorem zu5{l}{j}(b:j<l.length)(h:zkr l j=true):zbC l (j+1)=zbC l j++[l[j]]:=by unfold zbC;rw[filR_pos h,Wh];simp[Wg,b]
theorem zx2{l}{j}(h:zkr l j=false):zbC l (j+1)=zbC l j:=by unfold zbC;rw[filR_neg h]
theorem zvh{l}{n}(c:n<=l.length)(h:∀j,j<n->zkr l j=true):zbC l n=l.take n:=by
 induction n with
 |zero=>rfl
 |succ n ih=>rw[zu5 (by omega) (h n (by omega)),ih (by omega) (λj b=>h j (by omega)),List.take_add_one,Wn (by omega)];rfl
theorem zqk{l}{j}(c:1<=j)(b:j<l.length):zkr l j=(l[j] != l[j-1]):=by unfold zkr;rw[Wg,Wg,Wn b,Wn (show j-1<l.length by omega)];simp;omega
def curI(K l:List Int):List Int:=K++l.drop K.length
theorem zBk{K l}(h:K.length<=l.length):(curI K l).length=l.length:=by simp[curI];omega
theorem zHn{K l}{j}(h:K.length<=j)(b:j<l.length):(curI K l)[j]?=some l[j]:=by unfold curI;rw[WP h,List.getElem?_drop,show K.length+(j-K.length)=j by omega,Wn b]
theorem zwV{K l}{j}(h:K.length<=j)(b:j<l.length):((curI K l).map cI).getD j []=[.int .i64 l[j]]:=by simp[Wg,zHn h b]
theorem zI4{K l}{v}(h:K.length<l.length):(curI K l).set K.length v=curI (K++[v]) l:=by unfold curI;rw[List.set_append_right _ _ (Wf _),Nat.sub_self,Wl h,List.set_cons_zero];simp
theorem zGv{K l}{v}(h:K.length<l.length):((curI K l).map cI).set K.length [.int .i64 v]=(curI (K++[v]) l).map cI:=by rw[<-zI4 h,WA]
theorem zDT{l}{n}(h:n<=l.length):curI (l.take n) l=l:=by unfold curI;rw[Wq,Nat.min_eq_left h,List.take_append_drop]
theorem zvO(l)(g)(Z:l.length<=100000000000):
  zS Z9 zax [.own 0 0 g 0 l.length] [(0,.row 1 (l.map cI) g)] 1
   (λv H nx=>∃m,v=.own 0 0 g 0 (zf2 l).length/\H=[(0,.row 1 ((zf2 l++m).map cI) g)]/\nx=1):=by
 refine zaA (fn_x zeG rfl ?_);refine dcU zcE.eq_1 ?_;have Y:=hBig;have s:∀K m,(∀j,j<l.length->zkr l j=true)->K=(4,AV.undef)->m=0->zf2 l=l:=λK m h _ _=>by unfold zf2;rw[zvh (Wf _) h,Wv]
 refine Gw0 ?_;intros;(refine zf (λh=>?_) (λh=>?_))<;>(try simp only[dcd]at h)
 ·(refine Gw1 @zae.eq_1 ?_;intros)
  have b:∀j,j<l.length->zkr l j=true:=λj S=>by
   have:j=0:=by omega
   subst this;rfl
  have e:=s (4,.undef) 0 b rfl rfl;refine⟨.own 0 0 g 0 l.length,[(0,.row 1 ((l++[]).map cI) g)],1,?_,[],by rw[e],by rw[e],rfl⟩;rw[Wd];exact(Xh [(0,0,0)] [] rfl rfl rfl Ql Ql)
 refine Gw0 ?_;intros;refine zd (λi:Nat=>([(0,.own 0 0 g 0 l.length),(3,.int .i64 i)],[(0,.row 1 (l.map cI) g)])) 1 (λi=>1<=i/\i<=l.length/\∀j,j<i->zkr l j=true) (λi=>l.length-i) 1 ⟨by omega,by omega,λj S=>(by rw[show j=0 by omega];rfl)⟩ (Xh [(0,0,0)] [] rfl rfl rfl Ql Ql) ?_;intro i ⟨x,W,b⟩ wf;refine dcU zb5.eq_1 ?_;refine Gw0 ?_;intros;(refine zf (λO=>?_) (λO=>?_))<;>(try simp only[dcd]at O)
 .have n:i<l.length:=by omega
  have y:i-1<l.length:=by omega
  have T:((i:Int)-1).toNat=i-1:=by omega
  refine Gw3 (gmp n) T (gmp y) ?_;intros;(refine zf (λP=>?_) (λP=>?_))<;>(try simp only[dcd]at P)
  .have o:zkr l i=false:=by rw[zqk x n];simp;omega
   have I:zbC l i=l.take i:=zvh (by omega) b;have z:zbC l (i+1)=l.take i:=by rw[zx2 o,I]
   have k:(zbC l (i+1)).length=i:=by rw[z,Wq];omega
   have c:curI (zbC l (i+1)) l=l:=by rw[z,zDT (by omega)]
   have B:((l.length:Int)-i).toNat=l.length-i:=by omega
   refine Gw1 B ?_;intros
   refine zd (λa:Nat=>([(0,.own 0 0 g 0 l.length),(3,.int .i64 (zbC l (i+a)).length),(4,.own 0 0 g i (l.length-i)),(5,.int .i64 a)],[(0,.row 1 ((curI (zbC l (i+a)) l).map cI) g)])) 1
    (λa=>1<=a/\i+a<=l.length/\(zbC l (i+a)).length<i+a) (λa=>l.length-(i+a)) 1 ⟨by omega,by omega,by omega⟩ (Xh [(0,0,0)] [] rfl rfl rfl (Gin2_2 c k) (Gin2_2 c k)) ?_
   intro a ⟨U,V,C⟩ wf;refine dcU zbY.eq_1 ?_;refine Gw0 ?_;intros;(refine zf (λQ=>?_) (λQ=>?_))<;>(try simp only[dcd]at Q)
   .have d:i+a<l.length:=by omega
    have t:i+a-1<l.length:=by omega
    have L:i+((a:Int)-1).toNat=i+a-1:=by omega
    have M:=zwV (K:=zbC l (i+a)) (l:=l) (by omega) d;have N:=zwV (K:=zbC l (i+a)) (l:=l) (by omega) t;have u:=zBk (K:=zbC l (i+a)) (l:=l) (by omega);refine Gw3 L M N ?_;intros;(refine zf (λR=>?_) (λR=>?_))<;>(try simp only[dcd]at R)
    .have J:zkr l (i+a)=true:=by rw[zqk (by omega) d];simp;omega
     have q:=zu5 d J;have A:=zGv (K:=zbC l (i+a)) (l:=l) (v:=l[i+a]) (by omega);rw[<-q]at A;have p:(zbC l (i+a+1)).length=(zbC l (i+a)).length+1:=by rw[q];simp
     refine Gw4 L M N A ?_;intros;exact⟨a+1,⟨by omega,by omega,by rw[show i+(a+1)=i+a+1 by omega,p];omega⟩,by omega,(Xh [(0,0,0)] [] rfl rfl rfl (Gin2_2 (show i+(a+1)=i+a+1 by omega) p) (Gin2_2 (show i+(a+1)=i+a+1 by omega) p))⟩
    .have J:zkr l (i+a)=false:=by rw[zqk (by omega) d];simp;omega
     have q:=zx2 J;refine Gw0 ?_;intros;exact⟨a+1,⟨by omega,by omega,by rw[show i+(a+1)=i+a+1 by omega,q];omega⟩,by omega,(Xh [(0,0,0)] [] rfl rfl rfl (Gin2_2 (show i+(a+1)=i+a+1 by omega) q) (Gin2_2 (show i+(a+1)=i+a+1 by omega) q))⟩
   .have D:i+a=l.length:=by omega
    rw[D]at C⊢;have X:((l.length:Int)-(zbC l l.length).length).toNat=l.length-(zbC l l.length).length:=by omega
    have u:=zBk (K:=zbC l l.length) (l:=l) (by omega);have w:((curI (zbC l l.length) l).map cI).take (zbC l l.length).length++WE (l.length-(zbC l l.length).length) [AV.int .i64 0]++((curI (zbC l l.length) l).map cI).drop ((zbC l l.length).length+(l.length-(zbC l l.length).length))=(zbC l l.length++WE (l.length-(zbC l l.length).length) 0).map cI:=by rw[We (by rw[Wk,u];omega),Wd,<-List.map_take,Wh,List.map_replicate];congr 2;unfold curI;rw[List.take_append_of_le_length (Wf _),Wv]
    refine dcU zb4.eq_1 ?_;refine Gw3 @zae.eq_1 X w ?_;intros;refine⟨.own 0 0 g 0 (zf2 l).length,[(0,.row 1 ((zf2 l++WE (l.length-(zbC l l.length).length) 0).map cI) g)],1,?_,_,rfl,rfl,rfl⟩;exact(Xh [(0,0,0)] [] rfl rfl rfl (Gin2_1 @zf2.eq_1) (Gin2_1 @zf2.eq_1))
  .have o:zkr l i=true:=by rw[zqk x n];simp;omega
   refine dcU zbW.eq_1 ?_;refine Gw0 ?_;intros;refine⟨i+1,⟨by omega,by omega,λj S=>?_⟩,by omega,(Xh [(0,0,0)] [] rfl rfl rfl Ql Ql)⟩;by_cases F:j=i
   .subst F;exact o
   .exact b j (by omega)
 .obtain rfl:i=l.length:=by omega
  unfold zb0;have e:=s (4,.undef) 0 b rfl rfl;refine Gw1 @zae.eq_1 ?_;intros;refine⟨.own 0 0 g 0 l.length,[(0,.row 1 ((l++[]).map cI) g)],1,?_,[],by rw[e],by rw[e],rfl⟩;rw[Wd];exact(Xh [(0,0,0)] [] rfl rfl rfl Ql Ql)
theorem zsP{len b r q g j f:Nat}{k:IntKind}{i:Int}{H:AH}{nx:Nat}:xopR (.aaddr len b) [.ptr r q g j f,.int k i] H nx=⟨0<=i/\i<len,True,.ptr r q g j (f+i.toNat*b),H,nx⟩:=rfl
theorem ad0:Int.toNat 0=0:=rfl
theorem ad1:Int.toNat 1=1:=rfl
def keyP(S:List Nat):List (Int×Int):=S.zipIdx.map λp=>((p.1:Int),(p.2:Int))
theorem zwo{S:List Nat}:(keyP S).map (·.1)=zhu S:=by
 unfold keyP zhu;rw[WB];conv=>rhs;rw[<-List.zipIdx_map_fst 0 S,WB]
 rfl
theorem zxf{S:List Nat}{x:Nat}:keyP (S++[x])=keyP S++[((x:Int),(S.length:Int))]:=by unfold keyP;rw[List.zipIdx_append,Wh];simp
theorem zA4{S:List Nat}:(keyP S).length=S.length:=by simp[keyP]
theorem zBH{S:List Nat}:(keyP S).map (·.2)=(Wp S.length).map λ(i:Nat)=>(i:Int):=by unfold keyP;rw[WB,List.range_eq_range',<-List.zipIdx_map_snd 0 S,WB];rfl
theorem zKp{S:List Nat}:∀p∈keyP S,p.2<(S.length:Int):=λp c=>by have:p.2∈(keyP S).map (·.2):=Wx.2 ⟨p,c,rfl⟩;rw[zBH]at this;obtain⟨i,b,e⟩:=Wx.1 this;have:=List.mem_range.1 b;omega
theorem zGQ{S:List Nat}:((keyP S).map (·.2)).Nodup:=by rw[zBH];exact zvo List.nodup_range
theorem zBZ:∀ {b:List (Int×Int)},entI ((enL b).map cm)=some b
 |[]=>rfl
 |
  p::b=>by
  show(match entI ((enL b).map cm)with|some l=>some ((p.1,p.2)::l)|none=>none)=_;rw[zBZ]
theorem zA7{S:List Nat}{x:Nat}:(x:Int)∈(keyP S).map (·.1)↔x∈S:=by rw[zwo,zF0]
def stS(S:List Nat):List MC:=setM S.length (keyP S)
theorem zm6{S:List Nat}:(stS S).map cm=[.int .i64 (S.length:Int),.undef,.undef]::(enL (keyP S)).map cm:=rfl
theorem zId{S:List Nat}{x:Nat}:(stS (S++[x])).map cm=[.int .i64 ((S.length:Int)+1),.undef,.undef]::((enL (keyP S)).map cm++[[.int .i64 (x:Int),.bool true,.int .i64 (S.length:Int)]]):=by rw[zm6,zxf,Wi,Wr];unfold enL;rw[Wh,Wh];rfl
theorem zm9{S:List Nat}{n:Nat}(b:S.Nodup)(h:∀x∈S,x<n):S.length<=n:=by
 have:=Dm.nodup_sub_len b (m:=Wp n) (λx c=>List.mem_range.2 (h x c))
 rwa [WQ]at this
def mB(E:Adj)(S R:List Nat):Nat:=zDW (λx=>(suc (predL E) x).length+1) E.length S+R.length
theorem Qq{p:Prop}(h:p:=by(try simp only[evWB,Nat.reduceBEq,Nat.reduceAdd,Nat.reduceSub,Nat.reduceLeDiff,Nat.reduceLT,implies_true,encNN,List.append_nil])<;>exact fin6):p:=h
theorem Qr{p:Prop}(h:p:=by(try simp only[evWB,Nat.reduceBEq,Nat.reduceAdd,Nat.reduceSub,Nat.reduceLeDiff,Nat.reduceLT,implies_true,encNN,zm6,List.append_assoc,List.singleton_append])<;>exact fin6):p:=h
theorem Qs{p:Prop}(h:p:=by(try simp only[evWB,Nat.reduceBEq,Nat.reduceAdd,Nat.reduceSub,Nat.reduceLeDiff,Nat.reduceLT,implies_true,encNN,zm6,zcL,List.append_assoc,List.singleton_append])<;>exact fin6):p:=h
theorem uu:type_of% @ziw.eq_1:=@ziw.eq_1
theorem zwC(g:Gr)(hg:g.small){last:Nat->St}(Q:EdgeOk g.E last)(b:Nat)(hb:b<g.blocks.length):zn Z9 zjm [.agg g.cells,.int .i64 b,ziw (zha g.E)] (·=zb (zfo g.E b)):=by
 refine fn_x zv4 rfl ?_;refine dcU zpq.eq_1 ?_;have hB:=hBig;have F:=g.E_len;have hn:=hg.1;have hP:=zeI g hg;have hR:=zgj g hg;have hpl:(predL g.E).length=g.blocks.length:=by rw[predL_len,F]
 have X:(zlY g.E).length=g.blocks.length:=by simp[zlY,F]
 have hbl:(zha g.E).length<=1000000:=by have h1:=zzN (E:=g.E) (a:=g.E.length);have h2:g.E.length*g.E.length<=1000*1000:=WD (by omega) (by omega);unfold zha;omega
 have hf0:∀k:Int,zeC (.int .i64 k) [] 0=some none:=λ_=>rfl
 refine Gw3 @ug @um hf0 ?_;intros;refine ze (zc hP rfl) ?_;refine Gw2 @ug @um ?_;intros;refine ze (zc hR rfl) ?_;have Y:(stS [b]).map cm=[[.int .i64 1,.undef,.undef],[.int .i64 (b:Int),.bool true,.int .i64 0]]:=rfl;have hmz:∀l:List (Nat×Nat),(l.map cP).length=l.length:=λl=>Wk _
 refine Gw1 @uu ?_;intros
 refine zd (λs:Nat×Nat=>([(1,.int .i64 b),(7,.mp 0 0),(8,encNN (predL g.E)),(9,zcL (zlY g.E)),(10,.own 1 0 s.2 0 (srcL g.E b ((zha g.E).take s.1)).length),(22,ziw (zha g.E)),(23,.int .i64 (zha g.E).length),(24,.int .i64 s.1)],[(0,.row 3 ((stS [b]).map cm) 0),(1,.row 1 ((srcL g.E b ((zha g.E).take s.1)).map cN) s.2)])) 2
  (λs=>s.1<=(zha g.E).length) (λs=>(zha g.E).length-s.1) (0,0) (Wa _) ?start ?_
 case start=>exact(Xa [(0,1,0),(1,2,0)] [] rfl (by(try simp only[evWB,Xe,Xf,Xi,Xg,Xj,implies_true,encNN,ziw,Y,Wy,srcL])<;>exact fin6) (by(try simp only[evWB,Xe,Xf,Xi,Xg,Xj,implies_true,encNN,ziw,Y,Wy,srcL])<;>exact fin6))
 rintro⟨i,γ⟩ hi wf;simp only at hi;clear wf;refine dcU zlW.eq_1 ?_;by_cases W:i<(zha g.E).length
 case pos=>
  have Z:=zAW (E:=g.E) (b:=b) (l:=(zha g.E).take i);rw[Wq]at Z;have o:=zD7 (E:=g.E) (b:=b) W;have U:=zg (f:=cP) (d:=[]) W;generalize (zha g.E)[i]=e at o U;obtain⟨x,y⟩:=e;simp only at o;have hcp:cP (x,y)=[.int .i64 (x:Int),.int .i64 (y:Int)]:=rfl;refine Gw7 @dT @uu U hcp @zsP @ad0 @ad1 ?_;intros;by_cases hy:y=b
  .rw[if_pos hy]at o;have hyi:(y:Int)=(b:Int):=by omega
   refine Gw4 @dT @zsP @ad0 @ad1 ?_;intros;exact⟨(i+1,γ+1),by simp only;omega,by simp only;omega,by rw[o];exact(Xa [(0,0,0),(1,1,0)] [] rfl (Gin6_8 @ue @uu @m9A @m9P @ui @uh @m9C @uj) (Gin6_8 @ue @uu @m9A @m9P @ui @uh @m9C @uj))⟩
  .rw[if_neg hy,Wd]at o;have hyi:¬(y:Int)=(b:Int):=by omega
   refine Gw1 @dF ?_;intros;exact⟨(i+1,γ),by simp only;omega,by simp only;omega,by rw[o];exact(Xa [(0,0,0),(1,1,0)] [] rfl (Gin6_2 @ue @uu) (Gin6_2 @ue @uu))⟩
 obtain rfl:i=(zha g.E).length:=by omega
 rw[Wv];have Z:=zAW (E:=g.E) (b:=b) (l:=zha g.E);have hB0:BodyI g.E b [b] (srcL g.E b (zha g.E)):=BodyI.start Q λp=>zG2 Q
 refine Gw1 @dF ?_;intros;unfold zlS;refine Gw0 ?_;intros
 refine zd (λs:List Nat×List Nat×List Nat×Nat=>([(7,.mp 0 0),(8,encNN (predL g.E)),(9,zcL (zlY g.E)),(10,.own 1 0 s.2.2.2 0 s.2.1.length)],[(0,.row 3 ((stS s.1).map cm) 0),(1,.row 1 ((s.2.1++s.2.2.1).map cN) s.2.2.2)])) 2
  (λs=>BodyI g.E b s.1 s.2.1/\mB g.E s.1 s.2.1<=3000000) (λs=>mB g.E s.1 s.2.1) ([b],srcL g.E b (zha g.E),[],γ) ⟨hB0,?bound⟩ ?start2 ?_
 case bound=>
  simp only[mB,zDW]
  have h1:∀l:List Nat,(l.map λx=>(suc (predL g.E) x).length+1).sum<=l.length*1001:=λl=>by
   induction l with
   |nil=>simp
   |cons a l ih=>rw[List.map_cons,List.sum_cons,WF];have:=zpj (E:=g.E) (b:=a);omega
  have h2:=h1 ((Wp g.E.length).filter λx=>decide (x∉[b]));have h3:=WG (λx=>decide (x∉[b])) (Wp g.E.length);rw[WQ]at h3;omega
 case start2=>exact(Xa [(0,0,0),(1,1,0)] [] rfl Qq Qq)
 rintro⟨S,R,J,O⟩ ⟨A,hM⟩ wf;simp only at A hM;clear wf;refine dcU zlX.eq_1 ?_
 have hSl:S.length<=g.blocks.length:=zm9 A.nd λx hx=>by
  have:=A.inl x hx;rcases this with rfl|⟨_,_,_,_,h,_⟩
  .exact hb
  .have:=zaT Q h;omega
 by_cases T:0<R.length
 case neg=>
  obtain rfl:R=[]:=Wm (by omega);have D:=zzQ Q (b:=b) (by omega) A.nd λx=>A.done Q
  refine Gw1 @dF ?_;intros;refine dcU zlK.eq_1 ?_;refine Gw0 ?_;intros;refine zH (zxU 0) ?_;intro v H' n' hv;cases hv;refine Gw0 ?_;intros;refine zH (ztT (rb:=2) (r:=0) (c:=(S.length:Int)) (u:=.undef) (u':=.undef) (es:=(enL (keyP S)).map cm) (ps:=keyP S) rfl rfl zBZ (by rw[zwo];exact zvo A.nd) zGQ zKp (by rw[zA4];omega)) ?_;intro v H' n' hv;cases hv;rw[zwo,D];have hl2:(keyP S).length=(zfo g.E b).length:=by rw[zA4,<-zkb (l:=S),<-zkb (l:=zfo g.E b),<-D,(zec _).length_eq]
  rw[hl2];have hbo:=zpg (E:=g.E) (b:=b);refine Gw1 @zpU.eq_1 ?_;intros;have q:zb (zfo g.E b)=za (zhu (zfo g.E b)):=(zhg _).symm;rw[q,<-zkb];exact⟨_,zbz (l:=zhu (zfo g.E b)) trivial rfl (by rw[zkb];omega),rfl⟩
 obtain⟨r,x,rfl⟩:∃r x,R=r++[x]:=⟨R.dropLast,R.getLast (by intro h;rw[h]at T;simp at T),(List.dropLast_concat_getLast _).symm⟩;have m:(r++[x]).length=r.length+1:=by simp
 have w:(((r.length+1:Nat):Int)-1).toNat=r.length:=by omega
 have M:((((r.length+1:Nat):Int))-1-0).toNat=r.length:=by omega
 have t:(List.map cN (r++[x]++J)).getD r.length []=[.int .i64 (x:Int)]:=by rw[Wj,Wh,Wg,WP (by simp)];simp
 have L:(r++[x]++J).length=r.length+1+J.length:=by simp;omega
 have hxl:x<g.blocks.length:=by have:=A.lt x (by simp);omega
 have hmB:mB g.E S (r++[x])=mB g.E S r+1:=by simp[mB];omega
 have hrM:r.length<=mB g.E S r:=by unfold mB;omega
 have B:=zwY g.E_ok (a:=x) (by omega);have htk:List.take r.length (List.map cN (r++[x]++J))=List.map cN r:=by rw[Wj,Wh,List.take_left' (by simp)]
 have hx2:x<(predL g.E).length:=by omega
 have hsu:=zxM hx2;have V:=zg (f:=λr=>[zb r]) (d:=[]) hx2;rw[<-hsu]at V;by_cases z:x∈S
 .obtain⟨j,hj,hje,hf⟩:=ztZ (zA7.2 z);refine Gw8 @dT w t L m @zm6 hf M ?_;intros;refine⟨(S,r,x::J,O),⟨A.skip (.inl z),by simp only;omega⟩,by simp only;omega,?_⟩;simp only[Wj,WC];exact(Xa [(0,0,0),(1,1,0)] [] rfl Qr Qr)
 have hf:=zqV (λh=>z (zA7.1 h));by_cases C:x∈ordE g.E;case neg=>rw[decide_eq_false C]at B;refine Gw11 @dT w t L m @zm6 hf M @zcL.eq_1 B X ?_;intros;refine⟨(S,r,x::J,O),⟨A.skip (.inr C),by simp only;omega⟩,by simp only;omega,?_⟩;simp only[Wj,WC];exact(Xa [(0,0,0),(1,1,0)] [] rfl Qs Qs)
 rw[decide_eq_true C]at B;have hS':=zId (S:=S) (x:=x);have hlw:=zDg (f:=λx=>(suc (predL g.E) x).length+1) (n:=g.E.length) z (by omega);have hpn:(suc (predL g.E) x).length<=g.E.length:=zpj;have hT:=A.take (l:=suc (predL g.E) x) (λy=>mem_predL (by omega)) Q z C;have hM2:mB g.E (S++[x]) (r++suc (predL g.E) x)+1<mB g.E S (r++[x])+1:=by unfold mB;rw[Wi,Wi,hlw];simp only[Wr];omega
 refine Gw14 @dT w t L m @zm6 hf M @zcL.eq_1 B X @ue V hpl ?_;intros;have hel:∀(l:List Nat) H,zcq 1 (encL 1 (λ(n:Nat)=>[AV.int .i64 (n:Int)]) l) H=some (l.map cN):=λl H=>za7 (λ_ _=>rfl)
 have I:(r++suc (predL g.E) x).map cN=r.map cN++(suc (predL g.E) x).map cN:=Wh;have K:(r++suc (predL g.E) x).length=r.length+(suc (predL g.E) x).length:=Wi;generalize suc (predL g.E) x=P at *;refine Gw5 @ub hel @ad0 @Nat.zero_add htk ?_;intros;have q:(enL (keyP (S++[x]))).map cm=(enL (keyP S)).map cm++[[.int .i64 (x:Int),.bool true,.int .i64 (S.length:Int)]]:=by rw[zxf];unfold enL;rw[Wh,Wh];rfl
 have N:((S++[x]).length:Int)=(S.length:Int)+1:=by rw[Wi,Wr];rfl
 refine⟨(S++[x],r++P,[],O+1),⟨hT,by simp only;omega⟩,by simp only;omega,?_⟩;simp only[q,N,Wd,I,K];exact(Xa [(0,0,0),(1,1,0)] [] rfl (by(try simp only[evWB,Xe,Xf,Xi,Xg,Xj,implies_true,encNN,zcL,Wd,I,K,q,N])<;>exact fin6) (by(try simp only[evWB,Xe,Xf,Xi,Xg,Xj,implies_true,encNN,zcL,Wd,I,K,q,N])<;>exact fin6))
def exF(N:Adj)(l:List Nat)(b:Nat):List Nat:=(suc N b).filter λn=>decide (n∉l)
def exA(N:Adj)(l:List Nat)(i:Nat):List Nat:=(l.take i).flatMap (exF N l)
def ex2(N:Adj)(l:List Nat)(i:Nat)(m:List Nat):List Nat:=exA N l i++m.filter λn=>decide (n∉l)
def zyE(N:Adj)(l:List Nat):List Int:=zf2 (znD (zhu (exA N l l.length)))
theorem zBu{N:Adj}{l:List Nat}{i:Nat}(h:i<l.length):exA N l (i+1)=ex2 N l i (suc N l[i]):=by unfold exA ex2;rw[List.take_succ_eq_append_getElem h,List.flatMap_append,List.flatMap_singleton];rfl
theorem zIU{N:Adj}{l:List Nat}{i:Nat}{m:List Nat}{j:Nat}(h:j<m.length):ex2 N l i (m.take (j+1))=ex2 N l i (m.take j)++if m[j]∈l then[]else[m[j]]:=by unfold ex2;rw[filter_take_succ h,Wj];by_cases b:m[j]∈l<;>simp[b]
theorem zIV{N:Adj}{l:List Nat}{i:Nat}{m:List Nat}:ex2 N l i (m.take 0)=exA N l i:=by simp[ex2]
theorem zCd{l:List Nat}{x:Nat}:zhu (l++[x])=zhu l++[(x:Int)]:=by simp[zhu]
theorem zFv{N:Adj}{l:List Nat}(c:∀b,(suc N b).length<=1000):∀i,(exA N l i).length<=i*1000
 |0=>by simp[exA]
 |
  i+1=>by
  have d:=zFv c (l:=l) i;by_cases h:i<l.length
  .rw[zBu h,ex2,Wi];have:=WG (λn=>decide (n∉l)) (suc N l[i]);have:=c l[i];omega
  .have e:exA N l (i+1)=exA N l i:=by unfold exA;rw[WR (by omega),WR (by omega)]
   rw[e];exact Xk d (Nat.mul_le_mul_right _ (Nat.le_succ _))
theorem zuA(N:Adj)(l:List Nat)(M:∀b,(suc N b).length<=1000)(V:l.length<=1000)(P:∀b∈l,b<N.length):zn Z9 zfv [encNN N,zb l] (·=za (zyE N l)):=by
 refine fn_x zuD rfl ?_;refine dcU znV.eq_1 ?_;have U:=hBig;refine Gw1 @ub ?_;intros
 refine zd (λs:Nat×Nat=>([(0,encNN N),(1,zb l),(5,.own 0 0 s.2 0 (zhu (exA N l s.1)).length),(10,zb l),(11,.int .i64 l.length),(12,.int .i64 s.1)],[(0,.row 1 ((zhu (exA N l s.1)).map cI) s.2)])) 1
  (λs=>s.1<=l.length) (λs=>l.length-s.1) (0,0) (Wa _) ?start ?_
 case start=>have L:zhu (exA N l 0)=[]:=rfl;exact(Xa [(0,1,0)] [] rfl (Gin2_3 @ue @ub L) (Gin2_3 @ue @ub L))
 rintro⟨i,γ⟩ hi wf;simp only at hi;clear wf;refine dcU zka.eq_1 ?_;have O:=zFv (l:=l) M i;by_cases o:i<l.length
 case pos=>
  have h:=P l[i] (Wc o);have e:=zg (f:=λr=>[zb r]) (d:=[]) h;have J:suc N l[i]=N[l[i]]:=zk8 h;rw[<-J]at e;have k:=zBu (N:=N) o;have u:=M l[i];have B:=zg (f:=cN) (d:=[]) o;generalize l[i]=b at e k u h B;have C:(l.map λ(n:Nat)=>[AV.int .i64 (n:Int)]).getD i []=[.int .i64 (b:Int)]:=B;generalize suc N b=m at e k u;refine Gw3 @dT @ub C ?_;intros;refine Gw3 @ue e @dT ?_;intros;have K:ex2 N l i []=exA N l i:=zIV (m:=m);refine Gw1 @ub ?_;intros
  refine zd (λs:Nat×Nat=>([(0,encNN N),(1,zb l),(5,.own 0 0 s.2 0 (zhu (ex2 N l i (m.take s.1))).length),(10,zb l),(11,.int .i64 l.length),(12,.int .i64 i),(19,zb m),(20,.int .i64 m.length),(21,.int .i64 s.1)],[(0,.row 1 ((zhu (ex2 N l i (m.take s.1))).map cI) s.2)])) 1
   (λs=>s.1<=m.length) (λs=>m.length-s.1) (0,γ) (Wa _) ?start2 ?_
  case start2=>exact(Xa [(0,0,0)] [] rfl (by(try simp only[evWB,Xe,Xf,Xi,Xg,Xj,implies_true,encNN,zb,Wy,K])<;>exact fin2) (by(try simp only[evWB,Xe,Xf,Xi,Xg,Xj,implies_true,encNN,zb,Wy,K])<;>exact fin2))
  rintro⟨j,t⟩ hj wf;simp only at hj;clear wf;refine dcU zko.eq_1 ?_;by_cases H:j<m.length
  case neg=>
   obtain rfl:j=m.length:=by omega
   rw[Wv];refine Gw1 @dF ?_;intros;refine dcU zkm.eq_1 ?_;refine Gw0 ?_;intros;exact⟨(i+1,t),by simp only;omega,by simp only;omega,by rw[k];exact(Xa [(0,0,0)] [] rfl (Gin2_2 @ue @ub) (Gin2_2 @ue @ub))⟩
  have c:=zIU (N:=N) (l:=l) (i:=i) H;have D:=zg (f:=cN) (d:=[]) H;have R:(ex2 N l i (m.take j)).length<=1000000+1000:=by unfold ex2;rw[Wi];have:=WG (λn=>decide (n∉l)) (m.take j);rw[Wq]at this;omega
  generalize m[j]=x at c D;have F:(m.map λ(n:Nat)=>[AV.int .i64 (n:Int)]).getD j []=[.int .i64 (x:Int)]:=D;refine Gw3 @dT @ub F ?_;intros;have A:=zcB l x;refine ze (zc A rfl) ?_;have w:=zkb (l:=ex2 N l i (m.take j));by_cases I:x∈l
  .rw[if_pos I,Wd]at c;rw[decide_eq_true I];refine Gw0 ?_;intros;exact⟨(j+1,t),by simp only;omega,by simp only;omega,by rw[c];exact(Xa [(0,0,0)] [] rfl (Gin2_2 @ue @ub) (Gin2_2 @ue @ub))⟩
  .rw[if_neg I]at c;rw[decide_eq_false I];refine Gw0 ?_;intros;exact⟨(j+1,t+1),by simp only;omega,by simp only;omega,by rw[c,zCd];exact(Xa [(0,0,0)] [] rfl (Gin2_8 @ue @ub @m9A @m9P @ui @uh @m9C @uj) (Gin2_8 @ue @ub @m9A @m9P @ui @uh @m9C @uj))⟩
 obtain rfl:i=l.length:=by omega
 refine Gw1 @dF ?_;intros;refine dcU zkI.eq_1 ?_;have w:=zkb (l:=exA N l l.length);have p:=(zec (zhu (exA N l l.length))).length_eq;unfold zyE;generalize zhu (exA N l l.length)=z at w p⊢;refine Gw0 ?_;intros;refine zH (zEc (r:=0) (q:=0) (g:=γ) (zs:=z) rfl (by omega)) ?_;intro v T W S;cases S;rw[<-p];generalize znD z=y at p⊢;refine Gw0 ?_;intros;refine zbL [(0,0,0)] 1 _ (zvO y γ (by omega)) rfl rfl Gin1_0 Gin1_0 ?_;rintro _ _ _ ⟨m,rfl,rfl,rfl⟩;have Q:(zf2 y).length<=y.length:=zC4;refine Gw1 @zog.eq_1 ?_;intros;exact⟨_,zBp (l:=zf2 y) (m:=m) trivial rfl (by omega),rfl⟩
structure LoopR where
 h:Nat
 body:List Nat
 ex:List Int
 par:Int
def cLo(p:LoopR):List AV:=[.int .i64 (p.h:Int),zb p.body,za p.ex,.int .i64 p.par]
theorem zCW(l:List LoopR)(g:Nat)(h:l.length<=100000):zS Z9 zaj [.own 0 0 g 0 l.length] [(0,.row 4 (l.map cLo) g)] 1
  (λv H nx=>v=.own 1 0 0 0 l.length/\H=[(0,.row 4 (l.map cLo) g),(1,.row 4 (l.map cLo) 0)]/\nx=2):=by
 refine zaA (fn_x zey rfl ?_);refine dcU zbT.eq_1 ?_;have e:=hBig;by_cases d:l.length=0
 .obtain rfl:l=[]:=Wm d;have c:nilB false (.own 0 0 g 0 0)=some none:=rfl;refine Gw1 c ?_;intros;rename_i b;cases b
  ·(refine Gw1 @zag.eq_1 ?_;intros);exact⟨.own 1 0 0 0 0,[(0,.row 4 [] g),(1,.row 4 [] 0)],2,(Xh [(0,0,0),(1,2,1)] [] rfl rfl rfl Ql Ql),rfl,rfl,rfl⟩
  ·(refine Gw1 @zag.eq_1 ?_;intros);exact⟨.own 1 0 0 0 0,[(0,.row 4 [] g),(1,.row 4 [] 0)],2,(Xh [(0,0,0),(1,2,0)] [] rfl rfl rfl Ql Ql),rfl,rfl,rfl⟩
 .have c:nilB false (.own 0 0 g 0 l.length)=some (some false):=by unfold nilB;simp only[zbc d];rfl
  refine Gw2 c @zag.eq_1 ?_;intros;exact⟨.own 1 0 0 0 l.length,[(0,.row 4 (l.map cLo) g),(1,.row 4 (l.map cLo) 0)],2,(Xh [(0,0,0),(1,2,1)] [] rfl rfl rfl Ql Ql),rfl,rfl,rfl⟩
theorem zv8(l:List LoopR)(b:Nat)(I:l.length<=1000)(x:∀p∈l,p.body.length<=1000):zn Z9 zg6 [encL 4 cLo l,.int .i64 b] (λv=>∃n:Int,v=.int .i64 n):=by
 refine fn_x zvN rfl ?_;refine dcU zpn.eq_1 ?_;have H:=hBig;refine Gw0 ?_;intros
 refine zd (λs:Nat×Int=>([(0,encL 4 cLo l),(1,.int .i64 b),(5,.int .i64 s.2),(8,encL 4 cLo l),(9,.int .i64 l.length),(10,.int .i64 s.1)],[])) 0
  (λs=>s.1<=l.length /\ -1<=s.2/\s.2<s.1/\s.2<l.length) (λs=>l.length-s.1) (0,-1) ⟨Wa _,by simp only;omega,by simp only;omega,by simp only;omega⟩ ?start ?_
 case start=>exact(Xa [] [] rfl Ql Ql)
 rintro⟨i,m⟩ ⟨D,A,B,C⟩ wf;simp only at D A B C;clear wf;refine dcU zlP.eq_1 ?_;by_cases t:i<l.length;case neg=>refine Gw1 @dF ?_;intros;unfold zlJ;refine Gw1 @zpZ.eq_1 ?_;intros;exact⟨_,.int _ _ _,_,rfl⟩
 have g:=zg (f:=cLo) (d:=[]) t;have u:=x _ (Wc t);generalize l[i]=p at g u;have q:=zcB p.body b;have o:cLo p=[.int .i64 (p.h:Int),zb p.body,za p.ex,.int .i64 p.par]:=rfl;rw[o]at g;refine Gw4 @dT g @uf o ?_;intros;refine zC (zc q rfl) ?_;by_cases z:b∈p.body;case neg=>rw[decide_eq_false z];refine Gw0 ?_;intros;exact⟨(i+1,m),⟨by simp only;omega,by simp only;omega,by simp only;omega,by simp only;omega⟩,by simp only;omega,(Xa [] [] rfl Ql Ql)⟩
 rw[decide_eq_true z];by_cases J:m<0
 ·(refine Gw3 @dT @ub @ud ?_;intros);exact⟨(i+1,(i:Int)),⟨by simp only;omega,by simp only;omega,by simp only;omega,by simp only;omega⟩,by simp only;omega,(Xa [] [] rfl Ql Ql)⟩
 obtain⟨k,rfl⟩:∃k:Nat,m=k:=⟨m.toNat,by omega⟩;have y:k<l.length:=by omega
 have e:=zg (f:=cLo) (d:=[]) y;have w:=x _ (Wc y);generalize l[k]=j at e w;have c:cLo j=[.int .i64 (j.h:Int),zb j.body,za j.ex,.int .i64 j.par]:=rfl;rw[c]at e;by_cases F:p.body.length<j.body.length
 ·(refine Gw7 @dF @dT e @uf c @ub @ud ?_;intros);exact⟨(i+1,(i:Int)),⟨by simp only;omega,by simp only;omega,by simp only;omega,by simp only;omega⟩,by simp only;omega,(Xa [] [] rfl Ql Ql)⟩
 ·(refine Gw7 @dF @dT e @uf c @ub @ud ?_;intros);exact⟨(i+1,(k:Int)),⟨by simp only;omega,by simp only;omega,by simp only;omega,by simp only;omega⟩,by simp only;omega,(Xa [] [] rfl Ql Ql)⟩
end Go.Ab
namespace Go.Ab
open Go.RowKit Go.Proofs
def zhm:List St->Int
 |[]=>0
 |s::l=>if s.check≠0 then s.check else zhm l
def zkg:List Bl->Int
 |[]=>0
 |b::l=>if zhm b.stmts≠0 then zhm b.stmts else zkg l
def ziM(g:G):Int:=if (!g.blocks.isEmpty&&g.blocks.all λb=>zew b.stmts g.blocks.length)=true then zkg g.blocks else 18
theorem zts{l:List St}{i:Nat}(h:i<l.length):zhm (l.drop i)=if l[i].check≠0 then l[i].check else zhm (l.drop (i+1)):=by rw[Wl h,zhm]
theorem zsL{l:List Bl}{i:Nat}(h:i<l.length):zkg (l.drop i)=if zhm l[i].stmts≠0 then zhm l[i].stmts else zkg (l.drop (i+1)):=by rw[Wl h,zkg]
structure fewB(g:G):Prop where
 blocks:g.blocks.length<=12
 stmts:∀b∈g.blocks,b.stmts.length<=8
theorem zqE(g)(z:fewB g):zn Z9 ze1 [.agg g.cells] (·=.int .i64 (ziM g)):=by
 refine fn_x zqx rfl ?_;refine dcU zkc.eq_1 ?_;have D:=hBig;obtain⟨x,u⟩:=z;obtain⟨k,l⟩:=g;simp only at x u;simp only[G.cells,ziM];refine Qf ?_;intros;refine zd (λs:Nat×Nat=>([(1,encP 2 [.int .u32 k,encL 2 Xb l]),(3,.int .i64 s.2),(4,.int .i64 s.1)],[])) 0 (λs=>s.1<=l.length/\s.2<=8*s.1) (λs=>l.length-s.1) (0,0) ⟨Wa _,Wf _⟩ (Xc rfl fin5) ?_;rintro⟨i,n⟩ ⟨o,A⟩ wf;simp only at o A;refine dcU zh4.eq_1 ?_;by_cases h:i<l.length
 .have e:(l.map Xb).getD i []=[.int .u32 l[i].addr,encL 8 Xd l[i].stmts]:=zg h;have B:=u l[i] (Wc h);refine Gw3 @uf @dT e ?_;intros;exact⟨(i+1,n+l[i].stmts.length),⟨by simp only;omega,by simp only;omega⟩,by simp only;omega,Xc rfl fin5⟩
 refine Qf ?_;intros;refine dcU zhH.eq_1 ?_;by_cases p:l.length=0
 .obtain rfl:l=[]:=Wm p;refine Gw5 @uf @dT @dF @uh @zc5.eq_1 ?_;intros;exact izO
 have y:l.isEmpty=false:=by cases l with|nil=>simp at p|cons a l=>rfl
 rw[y];refine Qf ?_;intros;refine zd (λi:Nat=>([(1,encP 2 [.int .u32 k,encL 2 Xb l]),(5,.int .i64 i)],[])) 0 (λi=>i<=l.length/\((l.drop i).all λb=>zew b.stmts l.length)=(l.all λb=>zew b.stmts l.length)) (λi=>l.length-i) 0 ⟨Wa _,rfl⟩ (Xc rfl fin5) ?_;rintro i ⟨o,c⟩ wf;refine dcU zhI.eq_1 ?_;by_cases h:i<l.length
 .have e:(l.map Xb).getD i []=[.int .u32 l[i].addr,encL 8 Xd l[i].stmts]:=zg h;rw[Wl h,Wo]at c;refine Gw3 @uf @dT e ?_;intros;refine zC (zc (zs0 l[i] l.length) rfl) ?_
  cases q:zew l[i].stmts l.length with
  |true=>rw[q,Ws]at c;refine Gw0 ?_;intros;exact⟨i+1,⟨by omega,c⟩,by omega,Xc rfl fin5⟩
  |false=>rw[q,Bool.false_and]at c;rw[<-c];refine Gw1 @zc5.eq_1 ?_;intros;exact izO
 rw[We (by omega)]at c;replace c:(l.all λb=>zew b.stmts l.length)=true:=by rw[<-c];rfl
 rw[c];refine Qf ?_;intros;unfold zh3;refine Gw0 ?_;intros;refine zd (λi:Nat=>([(1,encP 2 [.int .u32 k,encL 2 Xb l]),(6,.int .i64 i)],[])) 0 (λi=>i<=l.length/\zkg (l.drop i)=zkg l) (λi=>l.length-i) 0 ⟨Wa _,rfl⟩ (Xc rfl fin5) ?_;rintro i ⟨o,c⟩ wf;refine dcU zhK.eq_1 ?_;by_cases h:i<l.length
 .have e:(l.map Xb).getD i []=[.int .u32 l[i].addr,encL 8 Xd l[i].stmts]:=zg h;rw[zsL h]at c;refine Gw3 @uf @dT e ?_;intros;generalize l[i].stmts=m at e c;generalize l[i].addr=w at e;refine zd (λj:Nat=>([(1,encP 2 [.int .u32 k,encL 2 Xb l]),(6,.int .i64 i),(7,.int .i64 j)],[])) 0 (λj=>j<=m.length/\zhm (m.drop j)=zhm m) (λj=>m.length-j) 0 ⟨Wa _,rfl⟩ (Xc rfl fin5) ?_;rintro j ⟨F,d⟩ C;refine dcU zhP.eq_1 ?_;by_cases t:j<m.length
  .rw[zts t]at d;refine Gw6 @uf @dT e (gmp t) @St.len @St.eight ?_;intros;refine ze (zc (zr3 m[j]) rfl) ?_;by_cases v:m[j].check=0
   .rw[if_neg (by omega)]at d;refine Gw1 @dF ?_;intros;exact⟨j+1,⟨by omega,d⟩,by omega,Xc rfl fin5⟩
   .rw[if_pos v]at d;rw[<-d,if_pos v]at c;rw[<-c];refine Gw2 @dT @zc5.eq_1 ?_;intros;exact izO
  .rw[We (by omega),zhm]at d;rw[<-d,if_neg (by omega)]at c;refine Gw3 @uf @dF e ?_;intros;refine dcU zhQ.eq_1 ?_;refine Gw0 ?_;intros;exact⟨i+1,⟨by omega,c⟩,by omega,Xc rfl fin5⟩
 rw[We (by omega),zkg]at c;rw[<-c];refine Qf ?_;intros;unfold zhZ;refine Gw1 @zc5.eq_1 ?_;intros;exact izO
structure PredT(fv:AV)(l:List St)(p:St->Bool):Prop where
 ex:∃f caps,fv=.fn (.func f) caps/\zfd Z9 f=true/\zz caps=true/\∀s∈l,zn Z9 f ([.agg s.cells]++caps) (·=.bool (p s))
theorem zzh{fv}{l}{p}(g:PredT fv l p){s}(h:s∈l){H}{nx}{k}(e:k (.bool (p s)) H nx):zop Z9 fv [.agg s.cells] H nx k:=by obtain⟨f,b,rfl,d,c,j⟩:=g.ex;rw[ziU];refine⟨d,ze (zc (j s h) ?_) e⟩;simp only[WH,WI,Wo,WJ];exact⟨rfl,zd1 c⟩
theorem zBj{fv}{l}{p}(h:PredT fv l p){H H2}{σ}{D}{t}:Vw H H2 σ D t fv fv:=by
 obtain⟨f,c,rfl,j,g,k⟩:=h.ex;refine .fn _ _ _ _ rfl λi a b d e=>?_
 rw[d]at e;cases e;exact zl (zbN g d)
theorem znv(l)(fv)(p)(n:PredT fv l p):zn Z9 zai [encL 8 Xd l,fv] (·=.int .i64 (idxI (l.findIdx? p))):=by
 refine fn_x zez rfl ?_;refine dcU zbR.eq_1 ?_;have q:=hBig;refine Gw0 ?_;intros;refine zd (λi:Nat=>([(0,encL 8 Xd l),(1,fv),(7,.int .i64 l.length),(8,.int .i64 i)],[])) 0 (λi=>i<=l.length/\∀j (h:j<l.length),j<i->p l[j]=false) (λi=>l.length-i) 0 ⟨Wa _,λj _ h=>by omega⟩ (Xc rfl fin5) ?_;intro i ⟨s,c⟩ wf;refine dcU zbm.eq_1 ?_;refine Gw0 ?_;intros;(refine zf (λh=>?_) (λh=>?_))<;>(try simp only[dcd]at h)
 .have b:i<l.length:=by omega
  refine Gw3 (gmp b) @St.len @St.eight ?_;intros;refine zzh n (Wc b) ?_;refine Gw0 ?_;intros;(refine zf (λg=>?_) (λg=>?_))<;>(try simp only[dcd]at g)
  ·(refine Gw1 @zaK.eq_1 ?_;intros);have e:l.findIdx? p=some i:=by rw[Wt];exact⟨b,g,λj d=>by rw[c j (by omega) d];simp⟩
   rw[e];exact izO
  ·(refine Gw0 ?_;intros);refine⟨i+1,⟨by omega,λj d m=>?_⟩,by omega,Xc rfl fin5⟩;by_cases k:j=i
   .subst k;simpa using g
   .exact c j d (by omega)
 .unfold zbp;refine Gw1 @zaK.eq_1 ?_;intros;have e:l.findIdx? p=none:=by rw[Wu];intro x o;obtain⟨j,d,rfl⟩:=Wz.1 o;exact c j d (by omega)
  rw[e];exact izO
theorem zHr{l:List St}{p:St->Bool}:decide (idxI (l.findIdx? p) >= 0)=l.any p:=by
 cases h:l.findIdx? p with
 |none=>have:=Wu.1 h;rw[decide_eq_false (by simp[idxI])];symm;rw[WS];intro x d;rw[this x d];simp
 |some i=>obtain⟨b,c,_⟩:=Wt.1 h;rw[decide_eq_true (by simp[idxI])];exact(zyS b c).symm
theorem zlt(l)(fv)(p)(b:PredT fv l p):zn Z9 zad [encL 8 Xd l,fv] (·=.bool (l.any p)):=by refine fn_x zdP rfl ?_;refine dcU zbk.eq_1 ?_;refine Gw0 ?_;intros;refine ze (zaW (D:=noR) (znv l fv p b) (.cons (zV rfl) (.cons (zBj b) .nil)) (.inl rfl)) ?_;refine Gw1 @zbr.eq_1 ?_;intros;refine⟨_,.bool _ _,?_⟩;rw[<-zHr]
structure PredI(fv:AV)(l:List Int)(p:Int->Bool):Prop where
 ex:∃f caps,fv=.fn (.func f) caps/\zfd Z9 f=true/\zz caps=true/\∀s∈l,zn Z9 f ([.int .i64 s]++caps) (·=.bool (p s))
theorem zAb{fv}{l}{p}(g:PredI fv l p){s}(h:s∈l){H}{nx}{k}(e:k (.bool (p s)) H nx):zop Z9 fv [.int .i64 s] H nx k:=by obtain⟨f,b,rfl,d,c,j⟩:=g.ex;rw[ziU];refine⟨d,ze (zc (j s h) ?_) e⟩;simp only[WH,WI,Wo,WJ];exact⟨rfl,zd1 c⟩
theorem zBU{fv}{l}{p}(h:PredI fv l p){H H2}{σ}{D}{t}:Vw H H2 σ D t fv fv:=by
 obtain⟨f,c,rfl,j,g,k⟩:=h.ex;refine .fn _ _ _ _ rfl λi a b d e=>?_
 rw[d]at e;cases e;exact zl (zbN g d)
theorem znz(l)(fv)(p)(n:PredI fv l p):zn Z9 zam [za l,fv] (·=.int .i64 (idxI (l.findIdx? p))):=by
 refine fn_x zd2 rfl ?_;refine dcU zcd.eq_1 ?_;have q:=hBig;refine Gw1 @ud ?_;intros;refine zd (λi:Nat=>([(0,za l),(1,fv),(7,.int .i64 l.length),(8,.int .i64 i)],[])) 0 (λi=>i<=l.length/\∀j (h:j<l.length),j<i->p l[j]=false) (λi=>l.length-i) 0 ⟨Wa _,λj _ h=>by omega⟩ (Xc rfl fin5) ?_;intro i ⟨s,c⟩ wf;refine dcU zbB.eq_1 ?_;refine Gw0 ?_;intros;(refine zf (λh=>?_) (λh=>?_))<;>(try simp only[dcd]at h)
 .have b:i<l.length:=by omega
  refine Gw2 @ud (gmp b) ?_;intros;refine zAb n (Wc b) ?_;refine Gw0 ?_;intros;(refine zf (λg=>?_) (λg=>?_))<;>(try simp only[dcd]at g)
  ·(refine Gw1 @zaE.eq_1 ?_;intros);have e:l.findIdx? p=some i:=by rw[Wt];exact⟨b,g,λj d=>by rw[c j (by omega) d];simp⟩
   rw[e];exact izO
  ·(refine Gw0 ?_;intros);refine⟨i+1,⟨by omega,λj d m=>?_⟩,by omega,Xc rfl fin5⟩;by_cases k:j=i
   .subst k;simpa using g
   .exact c j d (by omega)
 .unfold zby;refine Gw1 @zaE.eq_1 ?_;intros;have e:l.findIdx? p=none:=by rw[Wu];intro x o;obtain⟨j,d,rfl⟩:=Wz.1 o;exact c j d (by omega)
  rw[e];exact izO
theorem zIi{l:List Int}{p:Int->Bool}:decide (idxI (l.findIdx? p) >= 0)=l.any p:=by
 cases h:l.findIdx? p with
 |none=>have:=Wu.1 h;rw[decide_eq_false (by simp[idxI])];symm;rw[WS];intro x d;rw[this x d];simp
 |some i=>obtain⟨b,c,_⟩:=Wt.1 h;rw[decide_eq_true (by simp[idxI])];exact(zyS b c).symm
theorem zlr(l)(fv)(p)(b:PredI fv l p):zn Z9 zaS [za l,fv] (·=.bool (l.any p)):=by refine fn_x zhh rfl ?_;refine dcU zda.eq_1 ?_;refine Gw0 ?_;intros;refine ze (zaW (D:=noR) (znz l fv p b) (.cons (zV rfl) (.cons (zBU b) .nil)) (.inl rfl)) ?_;refine Gw1 @zc9.eq_1 ?_;intros;refine⟨_,.bool _ _,?_⟩;rw[<-zIi]
end Go.Ab
namespace Go.Ab
open Go.RowKit Go.Proofs Go.Ab.Dm
structure PredP(fv:AV)(l:List (Nat×Nat))(p:Nat×Nat->Bool):Prop where
 ex:∃f caps,fv=.fn (.func f) caps/\zfd Z9 f=true/\zz caps=true/\∀s∈l,zn Z9 f ([.agg (cP s)]++caps) (·=.bool (p s))
theorem zz1{c:AV}{l:List (Nat×Nat)}{p:Nat×Nat->Bool}(h:PredP c l p){s:Nat×Nat}(j:s∈l){H:AH}{nx:Nat}{k:AV->AH->Nat->Prop}(g:k (.bool (p s)) H nx):zop Z9 c [.agg (cP s)] H nx k:=by obtain⟨f,b,rfl,e,d,m⟩:=h.ex;rw[ziU];refine⟨e,ze (zc (m s j) ?_) g⟩;simp only[WH,WI,Wo,WJ];exact⟨rfl,zd1 d⟩
theorem zHX{c:AV}{l:List (Nat×Nat)}{p:Nat×Nat->Bool}(k:PredP c l p){H h:AH}{σ:Nat->Nat->Option (Nat×Nat×Nat)}{D:Nat->Nat->Prop}{t:Bool}:Vw H h σ D t c c:=by
 obtain⟨f,d,rfl,m,j,n⟩:=k.ex;refine .fn _ _ _ _ rfl λi a b e g=>?_
 rw[e]at g;cases g;exact zl (zbN j e)
theorem cP_two(e:Nat×Nat):[(cP e).getD 0 .undef,(cP e).getD 1 .undef]=cP e:=rfl
theorem cP_len(e:Nat×Nat):(cP e).length=2:=rfl
theorem znH(l:List (Nat×Nat))(k:AV)(p:Nat×Nat->Bool)(o:PredP k l p):zn Z9 zaN [ziw l,k] (·=.int .i64 (idxI (l.findIdx? p))):=by
 refine fn_x zgC rfl ?_;refine dcU zc4.eq_1 ?_;have s:=hBig;refine Gw1 @uu ?_;intros;refine zd (λi:Nat=>([(0,ziw l),(1,k),(7,.int .i64 l.length),(8,.int .i64 i)],[])) 0 (λi=>i<=l.length/\∀j (h:j<l.length),j<i->p l[j]=false) (λi=>l.length-i) 0 ⟨Wa _,λj _ h=>by omega⟩ (Xc rfl fin5) ?_;intro i ⟨t,c⟩ wf;refine dcU zcv.eq_1 ?_;refine Gw0 ?_;intros;(refine zf (λh=>?_) (λh=>?_))<;>(try simp only[dcd]at h)
 .have b:i<l.length:=by omega
  refine Gw4 @uu (gmp b) @cP_len @cP_two ?_;intros;refine zz1 o (Wc b) ?_;refine Gw0 ?_;intros;(refine zf (λg=>?_) (λg=>?_))<;>(try simp only[dcd]at g)
  ·(refine Gw1 @zbj.eq_1 ?_;intros);have e:l.findIdx? p=some i:=by rw[Wt];exact⟨b,g,λj d=>by rw[c j (by omega) d];simp⟩
   rw[e];exact izO
  ·(refine Gw0 ?_;intros);refine⟨i+1,⟨by omega,λj d n=>?_⟩,by omega,Xc rfl fin5⟩;by_cases m:j=i
   .subst m;simpa using g
   .exact c j d (by omega)
 .unfold zcu;refine Gw1 @zbj.eq_1 ?_;intros;have e:l.findIdx? p=none:=by rw[Wu];intro x q;obtain⟨j,d,rfl⟩:=Wz.1 q;exact c j d (by omega)
  rw[e];exact izO
theorem zGU{l:List (Nat×Nat)}{p:Nat×Nat->Bool}:decide (0<=idxI (l.findIdx? p))=l.any p:=by
 rw[Bool.eq_iff_iff,decide_eq_true_eq]
 cases h:l.findIdx? p with
 |none=>
  rw[Wu]at h;constructor
  .intro b;simp[idxI]at b
  .intro b;obtain⟨x,e,c⟩:=WU.1 b;rw[h x e]at c;cases c
 |some i=>obtain⟨d,b,_⟩:=Wt.1 h;exact⟨λ_=>WU.2 ⟨_,Wc d,b⟩,λ_=>by simp[idxI]⟩
theorem zlk(l:List (Nat×Nat))(b:AV)(p:Nat×Nat->Bool)(c:PredP b l p):zn Z9 zaw [ziw l,b] (·=.bool (l.any p)):=by refine fn_x zfn rfl ?_;refine dcU zcs.eq_1 ?_;refine Gw0 ?_;intros;refine ze (zaW (D:=noR) (znH l b p c) (.cons (zV rfl) (.cons (zHX c) .nil)) (.inl rfl)) ?_;refine Gw1 @zcr.eq_1 ?_;intros;refine⟨_,.bool _ _,?_⟩;rw[<-zGU]
theorem zzD(l:List (Nat×Nat))(h:Nat):PredP (.fn (.func zgQ) [encP 1 [.int .i64 h]]) l (λe=>decide (e.2=h)):=by refine⟨_,_,rfl,by kernel_rfl,rfl,λs c=>?_⟩;refine fn_x zub rfl ?_;refine dcU zm5.eq_1 ?_;have b:cP s=[.int .i64 (s.1:Int),.int .i64 (s.2:Int)]:=rfl;refine Gw6 b @ua @zsP @ad0 @ad1 @znc.eq_1 ?_;intros;exact bxO (decide_eq_decide.2 (by omega))
theorem zDY{H:AH}{f d c:Nat}{h:Int}(k:H.get d 0=some (.row 1 [[.int .i64 h]] c)):Vw H [] nos allR false (.fn (.func f) [.ptr d 0 c 0 0]) (.fn (.func f) [encP 1 [.int .i64 h]]):=by
 refine .fn _ _ _ _ rfl λi a b e g=>?_
 match i with
 |0=>
  cases e;cases g;refine .frzp _ d 0 c 0 0 1 1 [[.int .i64 h]] _ trivial k (by simp) (by omega) λj m=>?_
  obtain rfl:j=0:=by omega
  exact .int _ _ _
 |i+1=>cases e
noncomputable def mkLo(E:Adj)(h:Nat):LoopR:=⟨h,zfo E h,zyE (zmf E) (zfo E h),-1⟩
noncomputable def loL(E:Adj)(i:Nat):List LoopR:=(((ordE E).take i).filter (zhz E)).map (mkLo E)
theorem zH4{E:Adj}{i:Nat}(h:i<(ordE E).length):loL E (i+1)=loL E i++if zhz E (ordE E)[i]then[mkLo E (ordE E)[i]]else[]:=by unfold loL;rw[filter_take_succ h,Wh];cases zhz E (ordE E)[i]<;>simp
theorem zKH{E:Adj}{i:Nat}:(loL E i).length<=i:=by unfold loL;rw[Wk];exact filter_take_le _ _ _
def zrO(p:LoopR):Nat×List Nat:=(p.h,p.body)
theorem zFZ{E:Adj}{b:Nat}:(suc (zmf E) b).length<=E.length:=by
 unfold suc zmf;rw[Wg,Ww]
 cases(Wp E.length)[b]? with
 |none=>exact Wa _
 |some x=>exact zqM
theorem zD8{E:Adj}:(zmf E).length=E.length:=by simp[zmf]
theorem zwI(g:Gr)(y:g.small){last:Nat->St}(o:EdgeOk g.E last):zn Z9 zff [.agg g.cells] (λv=>∃P:List LoopR,v=encL 4 cLo P/\P.map zrO=(loL g.E (ordE g.E).length).map zrO):=by
 refine fn_x zv9 rfl ?_;refine dcU zp1.eq_1 ?_;have hB:=hBig;have hlen:=g.E_len;have hn:=y.1;have hpos:=o.pos;have W:=zqf g y;have X:=zlD g y;have hO:=zfr g y;have hoe:orderL g.E=ordE g.E:=by unfold orderL ordE ordL;rw[if_neg (by omega)]
 rw[hoe]at hO;have hol:(ordE g.E).length<=g.blocks.length:=zm9 (rpo o.ok o.pos).nd λx U=>by have:=zaT o U;omega
 have J:=λb=>zHc o (b:=b)
 refine Gw2 @ug @um ?_;intros;refine ze (zc W rfl) ?_;refine Gw2 @ug @um ?_;intros;refine ze (zc X rfl) ?_;refine Gw2 @ug @um ?_;intros;refine ze (zc hO rfl) ?_;refine Gw1 @ub ?_;intros
 refine zd (λs:Nat×Nat=>([(1,encP 2 g.cells),(3,ziw (zha g.E)),(4,encNN (zmf g.E)),(5,.own 0 0 s.2 0 (loL g.E s.1).length),(16,zb (ordE g.E)),(17,.int .i64 (ordE g.E).length),(18,.int .i64 s.1)],[(0,.row 4 ((loL g.E s.1).map cLo) s.2)])) 1
  (λs=>s.1<=(ordE g.E).length) (λs=>(ordE g.E).length-s.1) (0,0) (Wa _) ?start ?_
 case start=>have h0:loL g.E 0=[]:=rfl;exact(Xa [(0,1,0)] [] rfl (Gin2_5 @ue @ub @uu h0 @ug) (Gin2_5 @ue @ub @uu h0 @ug))
 rintro⟨i,γ⟩ hi wf;simp only at hi;clear wf;unfold zl5;have hll:=zKH (E:=g.E) (i:=i);by_cases z:i<(ordE g.E).length
 case pos=>
  have c:=zH4 z;have Q:=zaT o (Wc z);have N:((ordE g.E).map λ(n:Nat)=>[AV.int .i64 (n:Int)]).getD i []=[.int .i64 ((ordE g.E)[i]:Int)]:=zg (f:=cN) (d:=[]) z;generalize (ordE g.E)[i]=h at c Q N;have hb:=zwC g y o h (by omega);have hbl:=zpg (E:=g.E) (b:=h)
  have U:=zuA (zmf g.E) (zfo g.E h) (λb=>by have:=zFZ (E:=g.E) (b:=b);omega) (by omega) (λb hbm=>by
   rw[zD8];rcases(ztP o (by omega)).1 hbm with rfl|⟨_,_,_,_,h4,_⟩
   .exact Q
   .exact zaT o h4)
  have w:=zlk (zha g.E) _ _ (zzD (zha g.E) h);rw[J]at w;refine Gw3 @dT @ub N ?_;intros;refine ze (zaW (D:=allR) w (.cons (zV rfl) (.cons (zDY (h:=(h:Int)) rfl) .nil)) (.inl rfl)) ?_
  cases hh:zhz g.E h with
  |false=>rw[hh]at c;simp only[Bool.false_eq_true,if_false,Wd]at c;refine Gw0 ?_;intros;exact⟨(i+1,γ),by simp only;omega,by simp only;omega,by rw[c];exact(Xa [(0,0,0)] [] rfl (Gin2_4 @ue @ub @uu @ua) (Gin2_4 @ue @ub @uu @ua))⟩
  |true=>
   rw[hh]at c;simp only[if_true]at c;refine Gw2 @ua @um ?_;intros;refine ze (zc hb rfl) ?_;have m:cLo (mkLo g.E h)=[.int .i64 (h:Int),zb (zfo g.E h),za (zyE (zmf g.E) (zfo g.E h)),.int .i64 (-1)]:=rfl;generalize mkLo g.E h=me at c m;generalize zyE (zmf g.E) (zfo g.E h)=ex at U m;generalize zfo g.E h=bo at U m;refine Gw0 ?_;intros
   (repeat' with_reducible apply And.intro)
   all_goals try omega
   all_goals try(refine ze (zc U rfl) ?_)
   all_goals(refine Gw2 @ub @ud ?_;intros;try with_reducible exact trivial)
   all_goals exact⟨(i+1,γ+1),by simp only;omega,by simp only;omega,by rw[c];exact(Xa [(0,0,0)] [] rfl (Gin2_12 @ue @ub @ud @uu @ua @m9A @m9P @ui @uh @m9C @uj m) (Gin2_12 @ue @ub @ud @uu @ua @m9A @m9P @ui @uh @m9C @uj m))⟩
 obtain rfl:i=(ordE g.E).length:=by omega
 generalize hL:loL g.E (ordE g.E).length=L at hll;have Y:∀p∈L,p.body.length<=1000:=λp C=>by rw[<-hL]at C;unfold loL at C;obtain⟨h,_,rfl⟩:=Wx.1 C;have:=zpg (E:=g.E) (b:=h);show(zfo g.E h).length<=1000;omega
 refine Gw1 @dF ?_;intros;refine dcU zl0.eq_1 ?_;refine Gw0 ?_;intros
 refine zd (λs:Nat×List LoopR=>([(5,.own 0 0 γ 0 L.length),(40,.int .i64 L.length),(41,.int .i64 s.1)],[(0,.row 4 (s.2.map cLo) γ)])) 1
  (λs=>s.1<=L.length/\s.2.map zrO=L.map zrO) (λs=>L.length-s.1) (0,L) ⟨Wa _,rfl⟩ ?start2 ?_
 case start2=>exact(Xa [(0,0,0)] [] rfl Ql Ql)
 rintro⟨k,P⟩ ⟨hk,I⟩ wf;simp only at hk I;clear wf;have S:P.length=L.length:=by have:=congrArg List.length I;simpa using this
 have Z:∀p∈P,p.body.length<=1000:=λp C=>by
  have:zrO p∈L.map zrO:=by rw[<-I];exact Wx.2 ⟨p,C,rfl⟩
  obtain⟨q,hq,e⟩:=Wx.1 this;have e2:q.body=p.body:=congrArg Prod.snd e;rw[<-e2];exact Y q hq
 refine dcU zlT.eq_1 ?_;by_cases hk':k<L.length
 case neg=>
  refine Gw1 @dF ?_;intros;unfold zl7;refine Gw1 @zpp.eq_1 ?_;intros;rw[<-S];refine⟨_,zk3 (f:=cLo) (l:=P) trivial rfl (by omega) (λa _ j hj=>?_),P,rfl,by rw[I]⟩
  match j with
  |0=>exact .int _ _ _
  |1=>exact .sl _ _ _ _
  |2=>exact .sl _ _ _ _
  |3=>exact .int _ _ _
  |j+4=>omega
 have t:k<P.length:=by omega
 have O:=zg (f:=cLo) (d:=[]) t;have K:∀p:LoopR,cLo p=[.int .i64 (p.h:Int),zb p.body,za p.ex,.int .i64 p.par]:=λ_=>rfl
 have T:∀v:Int,(P.map cLo).set k [.int .i64 ((P[k].h:Nat):Int),zb P[k].body,za P[k].ex,.int .i64 v]=(P.set k { P[k]with par:=v }).map cLo:=λv=>by rw[WA];rfl
 have R:∀v:Int,(P.set k { P[k]with par:=v }).map zrO=P.map zrO:=λv=>by
  rw[WA];have:zrO { P[k]with par:=v }=(P.map zrO)[k]'(by rw[Wk];exact t):=by rw[WM];rfl
  rw[this,List.set_getElem_self]
 have B:zn Z9 zg6 [encL 4 cLo (P.set k { P[k]with body:=[] }),.int .i64 ((P[k].h:Nat):Int)] (λv=>∃n:Int,v=.int .i64 n):=zv8 _ _ (by rw[WK];omega) (λp C=>by
  rcases List.mem_or_eq_of_mem_set C with h|rfl
  .exact Z p h
  .exact Wa _)
 refine Gw1 @dT ?_;intros;rw[<-S];refine zbL [(0,0,0)] 1 _ (zCW P γ (by omega)) rfl rfl fin9 fin9 ?_;rintro _ _ _ ⟨rfl,rfl,rfl⟩;have F:∀{ρ:Nat->Nat}{l:List LoopR}{g:Nat},AObj.ren ρ (.row 4 (l.map cLo) g)=.row 4 (l.map cLo) g:=λ{ρ l g}=>by simp only[AObj.ren];rw[zgL (zE λ_=>rfl)]
 refine Gw5 @F O K @ub @ud ?_;intros
 have M:∀{H:AH}{V:List AV},V=[.int .i64 ((P[k].h:Nat):Int),.nilsl,za P[k].ex,.int .i64 P[k].par]->H.get 2 0=some (.row 4 ((P.map cLo).set k V) 0)->Vw H [] nos allR false (.own 2 0 0 0 P.length) (encL 4 cLo (P.set k { P[k]with body:=[] })):=λ{H V} hcs y=>by
  have e:encL 4 cLo (P.set k { P[k]with body:=[] })=.sl 4 P.length (λi j=>(((P.set k { P[k]with body:=[] }).map cLo).getD i []).getD j .undef):=by unfold encL;rw[WK]
  rw[e];refine .frz _ 2 0 0 0 P.length 4 _ _ trivial y (by omega) (by rw[WK,Wk];omega) (λi j hi hj=>?_);rw[Xn,WA];simp only[Wg,List.getElem?_set];by_cases A:k=i
  .subst A;rw[if_pos rfl,if_pos rfl,Wk,if_pos t,if_pos t,hcs]
   match j with
   |0=>exact .int _ _ _
   |1=>exact zf1
   |2=>exact .sl _ _ _ _
   |3=>exact .int _ _ _
   |j+4=>omega
  .rw[if_neg A,if_neg A,Ww,Wn hi]
   match j with
   |0=>exact .int _ _ _
   |1=>exact .sl _ _ _ _
   |2=>exact .sl _ _ _ _
   |3=>exact .int _ _ _
   |j+4=>omega
 refine zmV B (.cons (M rfl rfl) (.cons (.int _ _ _) .nil)) (λa ⟨n,e⟩=>.inl (by rw[e];rfl)) ?_;rintro _ ⟨v,rfl⟩;have u:=T v;simp only[zb,za]at u;refine Gw5 O K @ub @ud u ?_;intros;exact⟨(k+1,P.set k { P[k]with par:=v }),⟨by simp only;omega,(R v).trans I⟩,by simp only;omega,(Xa [(0,0,0)] [] rfl (Gin2_1 u) (Gin2_1 u))⟩
end Go.Ab
namespace Go.Ab
open Go.RowKit Go.Proofs
theorem zGy(l)(h:l.length<=100000000):zS Z9 z6 [za l] [] 0 (λv H nx=>v=.own 0 0 0 0 l.length/\H=[(0,.row 1 (l.map cI) 0)]/\nx=1):=by
 refine zaA (fn_x zfL rfl ?_);unfold zdg za;(conv in Z8 _ _=>reduce);have g:=hBig;have c:∀H,zcq 1 (encL 1 (λn=>[.int .i64 n]) l) H=some (l.map cI):=λH=>zvf
 refine Gw1 @zto ?_;intros
 cases d:(l.length == 0)with
 |true=>
  have e:l=[]:=Wm (by simpa using d);subst e;refine Gw0 ?_;intros;rename_i b;cases b
  ·(refine Gw2 c @zan.eq_1 ?_;intros);exact⟨.own 0 0 0 0 0,[(0,.row 1 [] 0)],1,(Xa [(0,1,1)] [] rfl Ql Ql),rfl,rfl,rfl⟩
  ·(refine Gw1 @zan.eq_1 ?_;intros);exact⟨.own 0 0 0 0 0,[(0,.row 1 [] 0)],1,(Xa [(0,1,0)] [] rfl Ql Ql),rfl,rfl,rfl⟩
 |false=>refine Gw2 c @zan.eq_1 ?_;intros;exact⟨.own 0 0 0 0 l.length,[(0,.row 1 (l.map cI) 0)],1,(Xa [(0,1,1)] [] rfl Ql Ql),rfl,rfl,rfl⟩
theorem renI{ρ:Nat->Nat}{l:List Int}{g:Nat}:AObj.ren ρ (.row 1 (l.map cI) g)=.row 1 (l.map cI) g:=by simp only[AObj.ren];rw[zgL (zE λ_=>rfl)]
theorem zlZ(b:Bl)(t:∀s∈b.stmts,s.cases.length<=100000000):zn Z9 zdT [.agg b.cells] (·=za (zat b.stmts)):=by
 refine fn_x zr1 rfl ?_;refine dcU zlI.eq_1 ?_;have x:=hBig;obtain⟨w,l⟩:=b;simp only at t;simp only[Xb];by_cases u:l.length=0
 .obtain rfl:l=[]:=Wm u;refine Gw4 @uf @dT @uh @zcz.eq_1 ?_;intros;exact⟨_,zbz (l:=[]) trivial rfl (by simp only[WL];omega),rfl⟩
 have c:l.length-1<l.length:=by omega
 have h:(((l.length:Nat):Int)-1).toNat=l.length-1:=by omega
 have g:=t _ (Wc c);have k:=zg (f:=Xd) (d:=[]) c;rw[zmS c];generalize l[l.length-1]=s at k g;obtain⟨op,var,m,next,j,v,e,n⟩:=s;simp only[Xd]at k g;unfold ze2;simp only;refine Gw5 @uf @dT @dF h k ?_;intros;by_cases o:op=6
 .rw[if_pos o];refine Gw6 @dT @dF @uf @ud @uq @zcz.eq_1 ?_;intros;exact⟨_,zbz (l:=[next]) trivial rfl (by simp only[Wr];omega),rfl⟩
 rw[if_neg o];by_cases p:op=7
 .rw[if_pos p];refine Gw6 @dT @dF @uf @ud @uq @zcz.eq_1 ?_;intros;exact⟨_,zbz (l:=[next,j]) trivial rfl (by simp only[WF,WL];omega),rfl⟩
 rw[if_neg p];by_cases q:op=8
 .rw[if_pos q];refine Gw4 @dT @dF @uf @uq ?_;intros;refine zbL [] 0 _ (zGy n g) rfl rfl Gin1_0 Gin1_0 ?_;rintro _ _ _ ⟨rfl,rfl,rfl⟩;refine Gw2 @renI @zcz.eq_1 ?_;intros;exact⟨_,zbz (l:=n) trivial rfl (by omega),rfl⟩
 rw[if_neg q];refine Gw6 @dT @dF @uf @ud @uq @zcz.eq_1 ?_;intros;exact⟨_,zbz (l:=[]) trivial rfl (by simp only[WL];omega),rfl⟩
theorem zry:∀(l:List St)(h:l.length-1<l.length),zjF l=(zph (l[l.length-1]'h) && !((l.take (l.length-1)).any zph))
 |[],h=>by simp at h
 |
  [x],h=>by
  rw[zjF,zjF];simp
 |
  x::y::l,h=>by
  have b:=zry (y::l) (by simp);rw[zjF,b];simp only[WF,Nat.add_sub_cancel,List.isEmpty_cons,WV,List.any_cons];have e:(x::y::l)[l.length+1]=(y::l)[l.length]:=rfl;rw[e];cases zph x<;>cases zph (y::l)[l.length]<;>simp
theorem zIQ{α:Type}{f:α->List AV}{H c:AH}{σ:Nat->Nat->Option (Nat×Nat×Nat)}{D:Nat->Nat->Prop}{t:Bool}{l:List α}{b i n z:Nat}(p:i<=l.length)(k:n=i)(o:z=0)(h:∀a,zz (f a)=true):
  Vw H c σ D t (.sl b n (λa j=>((l.map f).getD (z+a) []).getD j .undef)) (encL b f (l.take i)):=by
 subst k o;have e:(l.take n).length=n:=by rw[Wq];omega
 unfold encL;rw[e];refine .slf _ _ _ _ _ (λa j g q=>?_);have d:(List.map f (List.take n l)).getD a []=(l.map f).getD (0+a) []:=by rw[Xn,List.map_take,Wg,List.getElem?_take_of_lt g,Wg]
 rw[d,zg (show 0+a<l.length by omega),Wg]
 cases m:(f l[0+a])[j]? with
 |none=>exact .undef _ _
 |some x=>exact zl (zbN (h _) m)
theorem zvl(l):PredT (.fn (.func zc2) []) l zph:=⟨_,_,rfl,by kernel_rfl,rfl,λs _=>zlH s⟩
theorem zum(t ad)(l):zn Z9 zf3 [.int .i64 t,encP 2 [.int .u32 ad,encL 2 Xb l]] (·=.bool (!inN l.length t)):=by
 refine fn_x zuI rfl ?_;unfold znN inN;(conv in Z8 _ _=>reduce);have d:=hBig;by_cases b:0<=t
 .by_cases c:t<l.length
  .rw[decide_eq_true ⟨b,c⟩];refine Gw4 @uf @dT @dF @zgR.eq_1 ?_;intros;exact bzO
  .rw[decide_eq_false (λh=>c h.2)];refine Gw4 @uf @dT @dF @zgR.eq_1 ?_;intros;exact bzO
 .rw[decide_eq_false (λh=>b h.1)];refine Gw4 @uf @dT @dF @zgR.eq_1 ?_;intros;exact bzO
theorem zq5(b)(l)(m):PredI (.fn (.func zf3) [encP 2 [.int .u32 b,encL 2 Xb l]]) m (λt=> !inN l.length t):=⟨_,_,rfl,by kernel_rfl,rfl,λs _=>zum s b l⟩
theorem zxS(g)(A:fewB g)(v:∀b∈g.blocks,∀s∈b.stmts,s.cases.length<=100000000):zn Z9 zlo [.agg g.cells] (·=.bool (!g.blocks.isEmpty&&g.blocks.all λb=>zew b.stmts g.blocks.length)):=by
 refine fn_x zxV rfl ?_;refine dcU zrA.eq_1 ?_;have C:=hBig;obtain⟨y,B⟩:=A;obtain⟨n,l⟩:=g;simp only at y B v;simp only[G.cells];by_cases u:l.length=0
 .obtain rfl:l=[]:=Wm u;refine Gw4 @uf @dT @uh @zdX.eq_1 ?_;intros;exact bzO
 have z:l.isEmpty=false:=by cases l with|nil=>simp at u|cons a l=>rfl
 rw[z];generalize x:(l.all λb=>zew b.stmts l.length)=R;refine Qf ?_;intros;refine zd (λi:Nat=>([(1,encP 2 [.int .u32 n,encL 2 Xb l]),(11,encL 2 Xb l),(12,.int .i64 l.length),(13,.int .i64 i)],[])) 0 (λi=>i<=l.length/\((l.drop i).all λb=>zew b.stmts l.length)=R) (λi=>l.length-i) 0 ⟨Wa _,x⟩ (Xc rfl fin5) ?_;rintro i ⟨F,c⟩ wf;unfold zmI;by_cases o:i<l.length
 .have k:(l.map Xb).getD i []=[.int .u32 l[i].addr,encL 8 Xd l[i].stmts]:=zg o;have e:=zlZ l[i] (v _ (Wc o));rw[Wl o,Wo]at c;simp only[Xb]at e;generalize l[i].stmts=m at k c e;generalize l[i].addr=w at k e;by_cases j:m.length=0
  .obtain rfl:m=[]:=Wm j;replace c:R=false:=by rw[<-c];rfl
   subst c;refine Gw5 @uf @dT k @uh @zdX.eq_1 ?_;intros;exact bzO
  have d:m.length-1<m.length:=by omega
  have h:(((m.length:Nat):Int)-1).toNat=m.length-1:=by omega
  have p:m.isEmpty=false:=by cases m with|nil=>simp at j|cons a l=>rfl
  unfold zew at c;rw[p,zry m d]at c;refine Gw8 @uf @dT @dF k h (gmp d) @St.len @St.eight ?_;intros;refine ze (zc (zlH m[m.length-1]) rfl) ?_;generalize zph m[m.length-1]=q at c
  cases q with
  |false=>
   replace c:R=false:=by rw[<-c];rfl
   subst c;refine Gw1 @zdX.eq_1 ?_;intros;exact bzO
  |true=>
   refine Gw3 @uf @zGx h ?_;intros;refine ze (zaW (D:=noR) (zlt (m.take (m.length-1)) _ _ (zvl _)) (.cons (zIQ (by omega) (by omega) rfl (λ_=>rfl)) (.cons (zBj (zvl (m.take (m.length-1)))) .nil)) (.inl rfl)) ?_;generalize (m.take (m.length-1)).any zph=q at c
   cases q with
   |true=>
    replace c:R=false:=by rw[<-c];rfl
    subst c;refine Gw1 @zdX.eq_1 ?_;intros;exact bzO
   |false=>
    refine Gw1 @uf ?_;intros;refine ze (zc e rfl) ?_;refine Gw1 @uf ?_;intros;refine ze (zaW (D:=noR) (zlr (zat m) _ _ (zq5 n l _)) (.cons (zV rfl) (.cons (zBU (zq5 n l (zat m))) .nil)) (.inl rfl)) ?_;rw[List.all_eq_not_any_not]at c;generalize ((zat m).any λt=> !inN l.length t)=q at c
    cases q with
    |true=>
     replace c:R=false:=by rw[<-c];rfl
     subst c;refine Gw1 @zdX.eq_1 ?_;intros;exact bzO
    |false=>
     replace c:((l.drop (i+1)).all λb=>zew b.stmts l.length)=R:=by rw[<-c];rfl
     refine Gw0 ?_;intros;exact⟨i+1,⟨by omega,c⟩,by omega,(Xa [] [] rfl Ql Ql)⟩
 .rw[We (by omega)]at c;replace c:R=true:=by rw[<-c];rfl
  subst c;refine Qf ?_;intros;unfold zmm;refine Gw1 @zdX.eq_1 ?_;intros;exact bzO
theorem zrZ(g)(t:fewB g)(A:∀b∈g.blocks,∀s∈b.stmts,s.cases.length<=100000000):zn Z9 zcm [.agg g.cells] (·=.int .i64 (ziM g)):=by
 refine fn_x zr5 rfl ?_;refine dcU zl3.eq_1 ?_;have D:=hBig;have e:=zxS g t A;obtain⟨z,p⟩:=t;obtain⟨x,l⟩:=g;simp only at z p e;simp only[G.cells,ziM]at e⊢;refine Gw1 @uf ?_;intros;refine zd (λs:Nat×Nat=>([(1,encP 2 [.int .u32 x,encL 2 Xb l]),(3,.int .i64 s.2),(12,encL 2 Xb l),(13,.int .i64 l.length),(14,.int .i64 s.1)],[])) 0 (λs=>s.1<=l.length/\s.2<=8*s.1) (λs=>l.length-s.1) (0,0) ⟨Wa _,Wf _⟩ (Xc rfl fin5) ?_;rintro⟨i,n⟩ ⟨u,B⟩ wf;simp only at u B;refine dcU ziR.eq_1 ?_;by_cases h:i<l.length
 .have k:(l.map Xb).getD i []=[.int .u32 l[i].addr,encL 8 Xd l[i].stmts]:=zg h;have o:=p l[i] (Wc h);refine Gw3 @uf @dT k ?_;intros;exact⟨(i+1,n+l[i].stmts.length),⟨by simp only;omega,by simp only;omega⟩,by simp only;omega,(Xa [] [] rfl Ql Ql)⟩
 refine Qf ?_;intros;refine dcU ziq.eq_1 ?_
 (repeat first|simp(disch:=try exact dis1) only[evD,Xe,Xf,Xg,fldP,dF,zKs,tab,List.getD_cons_zero,List.getD_cons_succ]|with_reducible first|intro _|refine aJ ?_)
 refine ze (zc e rfl) ?_;generalize (!l.isEmpty&&l.all λb=>zew b.stmts l.length)=q
 cases q with
 |false=>refine Gw1 @ze3.eq_1 ?_;intros;exact izO
 |true=>
 rw[if_pos rfl];refine Gw1 @uf ?_;intros;refine zd (λi:Nat=>([(36,encL 2 Xb l),(37,.int .i64 l.length),(38,.int .i64 i)],[])) 0 (λi=>i<=l.length/\zkg (l.drop i)=zkg l) (λi=>l.length-i) 0 ⟨Wa _,rfl⟩ (Xc rfl fin5) ?_;rintro i ⟨u,d⟩ wf;refine dcU ziB.eq_1 ?_;by_cases h:i<l.length
 .have k:(l.map Xb).getD i []=[.int .u32 l[i].addr,encL 8 Xd l[i].stmts]:=zg h;have o:=p l[i] (Wc h);rw[zsL h]at d;refine Gw3 @uf @dT k ?_;intros;generalize l[i].stmts=m at k d o;generalize l[i].addr=y at k;refine zd (λj:Nat=>([(36,encL 2 Xb l),(37,.int .i64 l.length),(38,.int .i64 i),(43,encL 8 Xd m),(44,.int .i64 m.length),(45,.int .i64 j)],[])) 0 (λj=>j<=m.length/\zhm (m.drop j)=zhm m) (λj=>m.length-j) 0 ⟨Wa _,rfl⟩ (Xa [] [] rfl Ql Ql) ?_;rintro j ⟨F,c⟩ C;refine dcU zit.eq_1 ?_;by_cases v:j<m.length
  .rw[zts v]at c;refine Gw6 @uf @dT (gmp v) @St.len @St.eight @St.flat ?_;intros;refine ze (zc (zsJ m[j]) rfl) ?_;by_cases w:m[j].check=0
   .rw[if_neg (by omega)]at c;refine Gw1 @dF ?_;intros;exact⟨j+1,⟨by omega,c⟩,by omega,(Xa [] [] rfl Ql Ql)⟩
   .rw[if_pos w]at c;rw[<-c,if_pos w]at d;rw[<-d];refine Gw2 @dT @ze3.eq_1 ?_;intros;exact izO
  .rw[We (by omega),zhm]at c;rw[<-c,if_neg (by omega)]at d;refine Qf ?_;intros;refine dcU zio.eq_1 ?_;refine Gw0 ?_;intros;exact⟨i+1,⟨by omega,d⟩,by omega,Xc rfl fin5⟩
 rw[We (by omega),zkg]at d;rw[<-d];refine Qf ?_;intros;unfold zi5;refine Gw1 @ze3.eq_1 ?_;intros;exact izO
def stOk(s:St):Bool:=decide (s.cases.length<=8)&&(decide (s.e.length<=3)&&zjY s.e)
def blOk(b:Bl):Bool:=decide (b.stmts.length<=8)&&b.stmts.all stOk
def fewG(g:G):Bool:=(g.blocks.take 14).all blOk&&decide (g.blocks.length<=12)
theorem zHt{l:List Bl}{i:Nat}(h:i<l.length)(b:i<14):((l.drop i).take (14-i)).all blOk=(blOk l[i]&&((l.drop (i+1)).take (14-(i+1))).all blOk):=by rw[Wl h,show 14-i=(14-(i+1))+1 by omega,WV,Wo]
theorem zCx(g:G):zn Z9 zpo [.agg g.cells] (·=.bool (fewG g)):=by
 refine fn_x zCV rfl ?_;refine dcU zvn.eq_1 ?_;have V:=hBig;obtain⟨y,l⟩:=g;simp only[G.cells,fewG];generalize O:(l.take 14).all blOk=R;refine Gw1 @uf ?_;intros;refine zd (λi:Nat=>([(1,encP 2 [.int .u32 y,encL 2 Xb l]),(3,.int .i64 i)],[])) 0 (λi=>(i<=l.length/\i<=14)/\((l.drop i).take (14-i)).all blOk=R) (λi=>l.length-i) 0 ⟨⟨Wa _,Wa _⟩,O⟩ (Xc rfl fin5) ?_;rintro i ⟨⟨W,P⟩,c⟩ wf;refine dcU zo4.eq_1 ?_;have q:R=true->wpX Z9 0 zls (retK zgy λv J x=>∃a,Frz J v a/\a=.bool (R&&decide (l.length<=12))) [(1,encP 2 [.int .u32 y,encL 2 Xb l]),(3,.int .i64 i),(15,.bool false)] [] 0:=by intro S;subst S;refine dcU zls.eq_1 ?_;refine Gw2 @uf @zgy.eq_1 ?_;intros;exact bxO (decide_eq_decide.2 (by omega))
 by_cases F:i<l.length
 case neg=>
  rw[We (by omega),List.take_nil]at c;replace c:R=true:=by rw[<-c];rfl
  refine Qf ?_;intros;exact q c
 by_cases B:i<14
 case neg=>
  rw[show 14-i=0 by omega,Wy]at c;replace c:R=true:=by rw[<-c];rfl
  have hd:decide ((i:Int)<14)=false:=decide_eq_false (by omega);refine Gw3 @uf @dT hd ?_;intros;exact q c
 have p:(l.map Xb).getD i []=[.int .u32 l[i].addr,encL 8 Xd l[i].stmts]:=zg F;rw[zHt F B]at c;unfold blOk at c;by_cases A:l[i].stmts.length<=8
 case neg=>
  rw[decide_eq_false A]at c;replace c:R=false:=by rw[<-c];rfl
  subst c;refine Gw4 @uf @dT p @zgy.eq_1 ?_;intros;exact bzO
 rw[decide_eq_true A,Ws]at c;refine Gw4 @uf @dT @dF p ?_;intros;generalize l[i].stmts=m at p c A;generalize l[i].addr=K at p;generalize N:m.all stOk=M at c;refine zd (λj:Nat=>([(1,encP 2 [.int .u32 y,encL 2 Xb l]),(3,.int .i64 i),(4,.int .i64 j)],[])) 0 (λj=>j<=m.length/\(m.drop j).all stOk=M) (λj=>m.length-j) 0 ⟨Wa _,N⟩ (Xc rfl fin5) ?_;rintro j ⟨X,b⟩ T;refine dcU zpA.eq_1 ?_;by_cases H:j<m.length
 case neg=>
  rw[We (by omega)]at b;replace b:M=true:=by rw[<-b];rfl
  subst b;refine Gw3 @uf @dF p ?_;intros;refine dcU zpv.eq_1 ?_;refine Gw0 ?_;intros;exact⟨i+1,⟨⟨by omega,by omega⟩,by rw[<-c,Ws];rfl⟩,by omega,Xc rfl fin5⟩
 rw[Wl H,Wo]at b;have n:=zg (f:=Xd) (d:=[]) H;generalize m[j]=s at b n;obtain⟨op,var,o,next,z,C,e,D⟩:=s;simp only[Xd]at n;simp only[stOk]at b;refine Gw4 @uf @dT p n ?_;intros;by_cases t:D.length<=8
 case neg=>
  rw[decide_eq_false t]at b;replace b:M=false:=by rw[<-b];rfl
  subst b;replace c:R=false:=by rw[<-c];rfl
  subst c;refine Gw4 @uf @ud @dT @zgy.eq_1 ?_;intros;exact bzO
 rw[decide_eq_true t,Ws]at b;by_cases u:e.length<=3
 case neg=>
  rw[decide_eq_false u]at b;replace b:M=false:=by rw[<-b];rfl
  subst b;replace c:R=false:=by rw[<-c];rfl
  subst c;refine Gw5 @uf @ud @dF @dT @zgy.eq_1 ?_;intros;exact bzO
 rw[decide_eq_true u,Ws]at b;refine Gw4 @uf @ud @dF @dT ?_;intros;generalize L:zjY e=E at b;refine zd (λk:Nat=>([(1,encP 2 [.int .u32 y,encL 2 Xb l]),(3,.int .i64 i),(4,.int .i64 j),(5,.ptr 0 0 0 0 0),(6,.int .i64 k)],[(0,.row 8 [[.int .i64 op,.int .i64 var,.int .i64 o,.int .i64 next,.int .i64 z,.int .u32 C,encL 5 encX e,za D]] 0)])) 1 (λk=>k<=e.length/\zjY (e.drop k)=E) (λk=>e.length-k) 0 ⟨Wa _,L⟩ (Xa [(0,0,0)] [] rfl Ql Ql) ?_;rintro k ⟨Y,h⟩ U;refine dcU zpc.eq_1 ?_;by_cases w:k<e.length
 case neg=>
  rw[We (by omega)]at h;replace h:E=true:=by rw[<-h];rfl
  subst h;refine Qf ?_;intros;refine dcU zpt.eq_1 ?_;refine Gw0 ?_;intros;exact⟨j+1,⟨by omega,by rw[<-b,Ws]⟩,by omega,(Xa [] [] rfl Ql Ql)⟩
 rw[zwX w]at h;have Q:=zjA e[k] 70 200 (by omega);refine Gw5 @uf @dT (gmp w) @zbI @zaY ?_;intros;refine ze (zc (zyk (zdM e[k]) e[k] 70 200 (Wf _) (by omega) (by omega) (by omega) (by omega)) (flX rfl)) ?_;by_cases I:zhc e[k] 70 200<0
 .rw[if_pos I]at h;subst h;replace b:M=false:=by rw[<-b];rfl
  subst b;replace c:R=false:=by rw[<-c];rfl
  subst c;refine Gw2 @dT @zgy.eq_1 ?_;intros;exact bzO
 .rw[if_neg I]at h;refine Gw1 @dF ?_;intros;exact⟨k+1,⟨by omega,h⟩,by omega,(Xa [(0,0,0)] [] rfl Ql Ql)⟩
structure PredN(fv:AV)(l:List Nd)(p:Nd->Bool):Prop where
 ex:∃f caps,fv=.fn (.func f) caps/\zfd Z9 f=true/\zz caps=true/\∀s∈l,zn Z9 f ([.agg (encN s)]++caps) (·=.bool (p s))
def hasI(l:List Int)(t:Int):Bool:=l.any λx=>decide (x=t)
theorem zqm(l)(t):zn Z9 zbb [za l,.int .i64 t] (·=.bool (hasI l t)):=by
 refine fn_x zuW rfl ?_;unfold zqJ hasI;(conv in Z8 _ _=>reduce);have g:=hBig;generalize e:(l.any λx=>decide (x=t))=R;refine Gw1 @ud ?_;intros;refine zd (λi:Nat=>([(0,za l),(1,.int .i64 t),(5,.int .i64 i)],[])) 0 (λi=>i<=l.length/\((l.drop i).any λx=>decide (x=t))=R) (λi=>l.length-i) 0 ⟨Wa _,e⟩ (Xc rfl fin5) ?_;rintro i ⟨h,b⟩ wf;refine dcU zk6.eq_1 ?_;by_cases c:i<l.length
 .rw[Wl c,List.any_cons]at b;by_cases d:l[i]=t
  .rw[decide_eq_true d,Bool.true_or]at b;subst b;refine Gw4 @dT @ud (gmp c) @zkG.eq_1 ?_;intros;exact bzO
  .rw[decide_eq_false d,Bool.false_or]at b;refine Gw4 @dT @dF @ud (gmp c) ?_;intros;exact⟨i+1,⟨by omega,b⟩,by omega,Xc rfl fin5⟩
 .rw[We (by omega)]at b;replace b:R=false:=by rw[<-b];rfl
  subst b;refine Gw2 @dF @ud ?_;intros;unfold zlq;refine Gw1 @zkG.eq_1 ?_;intros;exact bzO
mutual
def zfJ:Nd->List Int
 |.mk f _ l=>if f.kind=9 then[f.label]else zdq l
def zdq:List Nd->List Int
 |[]=>[]
 |x::l=>zfJ x++zdq l
end
mutual
theorem zyy:∀n:Nd,(zfJ n).length<=zc6 n
 |
  .mk f _ l=>by
  have:=zlc l;rw[zfJ,zc6];split
  .simp only[Wr];omega
  .omega
theorem zlc:∀l:List Nd,(zdq l).length<=za0 l
 |[]=>by rw[zdq];simp
 |
  x::l=>by
  have b:=zyy x;have c:=zlc l;rw[zdq,Wi,za0];omega
end
theorem zus:∀(k:Nat)(e:Nd),zc6 e<=k->k<=1000->zn Z9 zfX [.agg (encN e)] (·=za (zfJ e)):=by
 intro k
 induction k with
 |zero=>intro e h;obtain⟨_,_,l⟩:=e;rw[zc6]at h;omega
 |succ k w=>
 intro e u v;obtain⟨⟨m,n,lb⟩,c,l⟩:=e;refine fn_x zuz rfl ?_;refine dcU znY.eq_1 ?_;have y:=hBig;rw[zc6]at u;have g:=zlc l;have p:=zaF ⟨m,n,lb⟩ c l;simp only at p;rw[p,zfJ];simp only;by_cases o:m=9
 .rw[if_pos o];refine Gw3 @uf @dT @zj4.eq_1 ?_;intros;exact⟨_,zbz (l:=[lb]) trivial rfl (by simp only[Wr];omega),rfl⟩
 rw[if_neg o];generalize q:zdq l=R at g;refine Qf ?_;intros;refine zd (λs:Nat×List Int=>([(1,encP 5 [.int .i64 m,.int .i64 n,.int .i64 lb,encL 5 encX c,encL 5 encN l]),(3,.own 0 0 0 0 s.2.length),(4,.int .i64 s.1)],[(0,.row 1 (s.2.map cI) 0)])) 1 (λs=>s.1<=l.length/\s.2++zdq (l.drop s.1)=R) (λs=>l.length-s.1) (0,[]) ⟨Wa _,q⟩ (Xa [(0,1,0)] [] rfl Ql Ql) ?_;rintro⟨i,x⟩ ⟨t,b⟩ wf;simp only at t b;refine dcU zkv.eq_1 ?_;by_cases j:i<l.length
 .have z:=zsE (Wc j);rw[Wl j,zdq,<-Wj]at b;have d:=congrArg List.length b;simp only[Wi]at d;refine Gw5 @uf @dT (gmp j) @zy @zG ?_;intros;refine ze (zc (w l[i] (by omega) (by omega)) (flN rfl)) ?_;refine Gw2 @ud @zvf ?_;intros;exact⟨(i+1,x++zfJ l[i]),⟨by simp only;omega,b⟩,by simp only;omega,(Xa [(0,0,1)] [] rfl (Gin1_2 @m9A @m9P) (Gin1_2 @m9A @m9P))⟩
 .rw[We (by omega),zdq,Wd]at b;subst b;refine Qf ?_;intros;unfold zkP;refine Gw1 @zj4.eq_1 ?_;intros;exact⟨_,zbz (l:=x) trivial rfl (by omega),rfl⟩
end Go.Ab
