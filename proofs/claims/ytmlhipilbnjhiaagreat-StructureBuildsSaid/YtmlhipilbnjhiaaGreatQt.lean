/-
  Part 20 of the proof: how the calls of this program run, over values instead of memory, and what each function computes.
-/
import Derived.Test.YtmlhipilbnjhiaaGreatQs
set_option maxRecDepth 100000
set_option linter.unusedVariables false
set_option linter.unusedSimpArgs false
set_option linter.unnecessarySimpa false
set_option linter.unusedSectionVars false
open Nat renaming reduceBEq->Xa,reduceAdd->Xb,reduceLeDiff->Xc,reduceSub->Xe,reduceLT->Xf,add_zero->Xk
open Go.Ab.Ent renaming tab->Xd,tabB->Xg,keep->Xj
open Int renaming reduceNeg->Xh,reduceLT->Xi,toNat->Xl
open Go.Proofs.Tryz renaming prog->Z9
open List renaming mem_append→Wa,map_map→Wc,map_congr_left→Wd,getD_eq_getElem?_getD→We,mem_cons→Wf,range→Wh,mem_cons_of_mem→Wi,mem_filter→Wj,getElem?_eq_getElem→Wk,replicate→Wl,map_cons→Wm,mem_singleton→Wn,sum_cons→Wq,getElem_mem→Wr,idxOf_lt_length_iff→Ws,mem_cons_self→Wt,append_nil→Wv,mem_range→Ww,mem_map→Wx,nodup_cons→Wz,take_length→WA,getElem?_map→WB,mem_flatMap→WC,nodup_nil→WD,count_eq_zero_of_not_mem→WE,map_nil→WF,sum_nil→WG,map_const'→WJ,length_range→WK,ext_getElem?→WL,take_add_one→WM,count→WN,length_map→WO,getD_cons_zero→WP,count_pos_iff→WR,nodup_append→WS,eq_nil_of_length_eq_zero→WU,getElem_append_left→WV,length_filter_le→WW,flatMap_append→WX,length_append→WY,length_replicate→WZ,count_le_length→W0,length_take→W3,map_replicate→W5,getElem?_range→W6,idxOf_append→W8,length_pos_of_mem→W9,length_cons→Waa,filter_cons→Wab,perm_iff_count→Wac,filter_congr→Wad,flatMap_cons→Wae
open Nat renaming zero_le→Wg,le_refl→Wp,le_trans→Wy,zero_add→WH,not_lt_zero→WI
open Function renaming comp→Wo
open Bool renaming and_eq_true→Wu,eq_false_iff→Waf
open Option renaming map_some→WQ,getD_some→W7
namespace Go.Ab.Dm
open Go.RowKit Go.Proofs
theorem zDG(g:Gr)(x:Int):zn Z9 zch [.int .i64 x,.iptr 2 λj=>g.cells.getD j .undef] (·=.bool (!edgeOk g.blocks.length x)):=by
 refine fn_x znG rfl ?_;refine dcU zhM.eq_1 ?_;refine Gw1 @ug ?_;intros;generalize h:decide (x<0)=d;cases d<;>simp only[decide_eq_true_eq,decide_eq_false_iff_not,ne_eq,Classical.not_not]at h
 ·(refine Gw1 @zeA.eq_1 ?_;intros);refine⟨_,.bool _ _,?_⟩;have b:0<=x:=by omega
  by_cases c:x<g.blocks.length
  .have:¬(g.blocks.length:Int)<=x:=by omega
   simp[edgeOk,b,c,this]
  .have:(g.blocks.length:Int)<=x:=by omega
   simp[edgeOk,b,c,this]
 ·(refine Gw1 @zeA.eq_1 ?_;intros);refine⟨_,.bool _ _,?_⟩;simp[edgeOk,h]
theorem zCZ(g:Gr):PredFn (.fn (.func zch) [.iptr 2 λj=>g.cells.getD j .undef]) (λx=> !edgeOk g.blocks.length x) :=
 ⟨_,_,rfl,by kernel_rfl,rfl,zDG g⟩
theorem ztI(l)(h:l.length<=1000):zS Z9 z6 [za l] [] 0 (λv H nx=>v=.own 0 0 0 0 l.length/\H=[(0,.row 1 (l.map cI) 0)]/\nx=1):=by
 refine zaA (fn_x zfL rfl ?_);refine dcU zdg.eq_1 ?_;have g:=hBig;have c:∀H,zcq 1 (encL 1 (λn:Int=>[AV.int .i64 n]) l) H=some (l.map λn=>[AV.int .i64 n]):=λH=>za7 (λ_ _=>rfl)
 refine Gw2 @ud @zto ?_;intros
 cases d:(l.length == 0)with
 |true=>
  have e:l=[]:=WU (by simpa using d);subst e;refine Gw0 ?_;intros;rename_i b;cases b
  ·(refine Gw2 c @zan.eq_1 ?_;intros);refine⟨.own 0 0 0 0 0,[(0,.row 1 [] 0)],1,?_,rfl,rfl,rfl⟩;exact(Xd [(0,1,1)] [] rfl Gin4_0 Gin4_0)
  ·(refine Gw1 @zan.eq_1 ?_;intros);refine⟨.own 0 0 0 0 0,[(0,.row 1 [] 0)],1,?_,rfl,rfl,rfl⟩;exact(Xd [(0,1,0)] [] rfl Gin4_0 Gin4_0)
 |false=>refine Gw2 c @zan.eq_1 ?_;intros;refine⟨.own 0 0 0 0 l.length,[(0,.row 1 (l.map cI) 0)],1,?_,rfl,rfl,rfl⟩;exact(Xd [(0,1,1)] [] rfl Gin4_0 Gin4_0)
theorem zFk{g:Gr}{k:Nat}(b:k<g.blocks.length):zb (suc g.E k)=za (g.blocks[k].targets.filter (edgeOk g.blocks.length)):=by
 rw[<-zhg];congr 1;simp only[suc,Gr.E,zg b,Wc];conv=>rhs;rw[<-List.map_id (List.filter _ _)]
 refine Wd λx c=>?_
 simp only[Wj,edgeOk,Wu,decide_eq_true_eq]at c;simp only[Wo,id];omega
theorem zBp{H H2}{σ}{D}{t}{r q g}{l m}(c:D r q)(e:H.get r q=some (.row 1 ((l++m).map cI) g))(d:l.length<=big):
  Vw H H2 σ D t (.own r q g 0 l.length) (za l):=by
 refine .frz t r q g 0 l.length 1 ((l++m).map cI) _ c e d (by simp) (λi j b h=>?_);obtain rfl:j=0:=by omega
 rw[WH,zg (show i<(l++m).length by simp;omega),zg b,WV b];exact .int _ _ _
theorem zpW(g:Gr)(x:g.small)(k:Nat)(n:k<g.blocks.length):zn Z9 zea [.agg g.cells,.int .i64 k] (·=zb (suc g.E k)):=by
 have d:=x.2 _ (Wr n);rw[zFk n];refine fn_x zp3 rfl ?_;refine dcU zjv.eq_1 ?_;have y:=hBig;have e:(g.blocks.map Blk.cells).getD k []=g.blocks[k].cells:=zf0 (Wk n);refine Gw3 @ug e @Blk.cells.eq_1 ?_;intros;generalize w:g.blocks[k]=b at d⊢;(refine zf (λh=>?_) (λh=>?_))<;>(try simp only[dcd]at h)
 ·(refine Gw1 @zfp.eq_1 ?_;intros);refine⟨_,?_,rfl⟩;have p:b.stmts=[]:=WU (by omega);have e:b.targets=[]:=by simp[Blk.targets,p]
  rw[e];exact zbz (l:=[]) trivial rfl (Wg _)
 have p:0<b.stmts.length:=by omega
 obtain⟨s,q⟩:∃s,b.stmts[b.stmts.length-1]?=some s:=⟨_,Wk (by omega)⟩
 have c:b.targets=if s.op=6 then[s.next]else if s.op=7 then[s.next,s.els]else if s.op=8 then s.cases else[]:=by
  have:b.stmts.getLast?=some s:=by rw[List.getLast?_eq_getElem?,q]
  simp[Blk.targets,this]
 have u:(b.stmts.map Stm.cells).getD ((b.stmts.length:Int)-1).toNat []=s.cells:=by rw[show((b.stmts.length:Int)-1).toNat=b.stmts.length-1 by omega];exact zf0 q
 refine Gw2 u @Stm.cells.eq_1 ?_;intros;refine zzf (λ_:Unit=>([(2,.iptr 2 λj=>g.cells.getD j .undef),(7,.own 0 0 0 0 b.targets.length)],[(0,.row 1 (b.targets.map cI) 0)])) 1 (λ_=>True) ?_ ?_
 ·(refine Gw0 ?_;intros);(refine zf (λh=>?_) (λh=>?_))<;>(try simp only[dcd]at h)
  .rw[if_pos h]at c;refine Gw0 ?_;intros;refine⟨(),?_⟩;rw[c];exact(Xd [(0,3,0)] [] rfl (Gin4_1 @ug) (Gin4_1 @ug))
  .rw[if_neg h]at c;refine Gw0 ?_;intros;(refine zf (λh=>?_) (λh=>?_))<;>(try simp only[dcd]at h)
   .rw[if_pos h]at c;refine Gw0 ?_;intros;refine⟨(),?_⟩;rw[c];exact(Xd [(0,3,0)] [] rfl (Gin4_1 @ug) (Gin4_1 @ug))
   .rw[if_neg h]at c;refine Gw0 ?_;intros;(refine zf (λh=>?_) (λh=>?_))<;>(try simp only[dcd]at h)
    .rw[if_pos h]at c;refine Gw0 ?_;intros;refine zbL [] 0 _ (ztI s.cases (by rw[<-c];exact d)) rfl rfl Gin4_0 Gin4_0 ?_;rintro v t o ⟨rfl,rfl,rfl⟩;refine Gw0 ?_;intros;refine⟨(),?_⟩;rw[c];exact(Xd [(0,3,0)] [] rfl (Gin4_1 @ug) (Gin4_1 @ug))
    .rw[if_neg h]at c;refine Gw0 ?_;intros;refine⟨(),?_⟩;rw[c];exact(Xd [(0,2,0)] [] rfl (Gin4_1 @ug) (Gin4_1 @ug))
 .rintro _ _ _;unfold zgV;refine Gw0 ?_;intros;refine zbL [(0,0,0)] 1 _ (zns b.targets 0 _ _ (zCZ g) d) rfl rfl (by simp only[evWB,Xa,Xb,Xe,Xc,Xf,implies_true]) (by simp only[evWB,Xa,Xb,Xe,Xc,Xf,implies_true]) ?_;rintro v t o ⟨m,rfl,rfl,rfl⟩;refine Gw1 @zfp.eq_1 ?_;intros;refine⟨_,?_,rfl⟩;have:=WW (edgeOk g.blocks.length) b.targets;try simp only[Bool.not_not]
  exact zBp (l:=b.targets.filter (edgeOk g.blocks.length)) (m:=m) trivial rfl (by omega)
def aLL(E:Adj)(n k:Nat):List (List AV):=(Wh n).map λi=>[if i<k then zb (suc E i)else .nilsl]
theorem zK6{E}{n k}:(aLL E n k).length=n:=by simp[aLL]
theorem zAR{E}{n}:aLL E n 0=Wl n [.nilsl]:=by unfold aLL;simp only[WI,if_false];rw[WJ,WK]
theorem zLh{E}{n k}:(aLL E n k).set k [zb (suc E k)]=aLL E n (k+1):=by
 unfold aLL;rw[za3];refine Wd λi b=>?_
 unfold updF;split
 .rename_i h;subst h;rw[if_pos (by omega)]
 .show [if i<k then zb (suc E i)else AV.nilsl]=_;by_cases h:i<k
  .rw[if_pos h,if_pos (by omega)]
  .rw[if_neg h,if_neg (by omega)]
theorem zBL{E}{n k}:zw (aLL E n k):=by intro c b;obtain⟨i,_,rfl⟩:=Wx.1 b;split<;>rfl
theorem zJV{E}{n}(c:E.length=n):aLL E n n=E.map cNs:=by
 subst c;apply WL;intro i;unfold aLL;by_cases b:i<E.length
 .simp[b,suc,We]
 .simp[b]
theorem zhx(g:Gr)(c:g.small):zn Z9 zcZ [.agg g.cells] (·=encNN g.E):=by
 refine fn_x zrT rfl ?_;refine dcU zl4.eq_1 ?_;have d:=hBig;have m:=c.1;have b:=g.E_len;refine Gw1 @ug ?_;intros;refine zd (λk:Nat=>([(1,encP 2 g.cells),(3,.own 0 0 0 0 g.blocks.length),(11,.int .i64 g.blocks.length),(12,.int .i64 k)],[(0,.row 1 (aLL g.E g.blocks.length k) 0)])) 1 (λk=>k<=g.blocks.length) (λk=>g.blocks.length-k) 0 (Wg _) (Xd [(0,1,0)] [] rfl (Gin4_2 @ug @zAR) (Gin4_2 @ug @zAR)) ?_;intro k j wf;refine dcU ziv.eq_1 ?_;refine Gw2 @ua @ug ?_;intros;(refine zf (λh=>?_) (λh=>?_))<;>(try simp only[dcd]at h)
 ·(refine Gw1 @um ?_;intros);refine ze (zc (zpW g c k (by omega)) rfl) ?_;refine Gw1 @zK6 ?_;intros;have e:(aLL g.E g.blocks.length k).set k (zb (suc g.E k)).cells=aLL g.E g.blocks.length (k+1):=zLh;refine⟨⟨by omega,rfl,rfl⟩,?_⟩;rw[e];refine Gw0 ?_;intros;exact⟨k+1,by omega,by omega,(Xd [(0,0,0)] [] rfl (by(try simp only[evWB,Xa,Xb,Xe,Xc,Xf,implies_true,Gr.cells,zly zBL])<;>exact fin4) (by(try simp only[evWB,Xa,Xb,Xe,Xc,Xf,implies_true,Gr.cells,zly zBL])<;>exact fin4))⟩
 .obtain rfl:k=g.blocks.length:=by omega
  unfold zi2;refine Gw1 @zlN.eq_1 ?_;intros;refine⟨_,?_,rfl⟩;rw[zJV b];have:=vw_NN (H:=[(0,.row 1 (g.E.map cNs) 0)]) (H2:=[]) (σ:=nos) (D:=allR) (t:=false) (r:=0) (q:=0) (g:=0) (l:=g.E) trivial rfl (by omega)
  rwa [b]at this
def tLL(A:Adj)(k n:Nat):List Nat:=(Wh k).flatMap λk=>Wl ((suc A k).count n) k
def tLi(A:Adj)(k i n:Nat):List Nat:=tLL A k n++Wl (((suc A k).take i).count n) k
theorem zBs{A}:tLL A 0=λ_=>[]:=rfl
theorem zBA{A}{k}:tLi A k 0=tLL A k:=by funext n;simp[tLi]
theorem zKT{A}{k}:tLi A k (suc A k).length=tLL A (k+1):=by funext n;unfold tLi tLL;rw[WA,List.range_succ,WX];simp
theorem zIB{A}{k i}(b:i<(suc A k).length):updF (tLi A k i) (suc A k)[i] (tLi A k i (suc A k)[i]++[k])=tLi A k (i+1):=by
 funext n;unfold updF tLi;rw[WM,Wk b];simp only[Option.toList,List.count_append];split
 .rename_i h;subst h;rw[List.append_assoc,<-List.replicate_succ'];simp
 .rename_i h;have:WN n [(suc A k)[i]]=0:=by simp[List.count_singleton];exact λe=>h e.symm
  rw[this,Xk]
structure Adj.small(A:Adj):Prop where
 len:A.length<=2000
 row:∀k,(suc A k).length<=2000000
theorem zvZ{A}(b:A.small)(k n):(tLL A k n).length<=k*2000000:=by
 induction k with
 |zero=>simp[tLL]
 |succ k ih=>
  have e:tLL A (k+1) n=tLL A k n++Wl ((suc A k).count n) k:=by unfold tLL;rw[List.range_succ,WX];simp
  rw[e,WY,WZ];have:=W0 (a:=n) (l:=suc A k);have:=b.row k;omega
theorem zKK{A}(b:A.small)(k i n):(tLi A k i n).length<=(k+1)*2000000:=by unfold tLi;rw[WY,WZ];have:=zvZ b k n;have:=W0 (a:=n) (l:=(suc A k).take i);have:=b.row k;have:((suc A k).take i).length<=(suc A k).length:=List.length_take_le' _ _;omega
theorem zi9(A:Adj)(q:A.small)(t:A.ok):zS Z9 zbH [encNN A] [] 0
  (λv H nx=>∃g,v=.own 0 0 0 0 A.length/\H=[(0,.row 1 (fe 1 A.length (tLL A A.length) g) 0),(1,.fam 1 (fi cN A.length (tLL A A.length) g))]/\nx=2):=by
 refine zaA (fn_x zoZ rfl ?_);refine dcU zi3.eq_1 ?_;have y:=hBig;have z:=q.len;refine Gw1 @ue ?_;intros
 refine zd (λs:Nat×(Nat->Nat)=>([(0,encNN A),(3,.own 0 0 0 0 A.length),(11,.int .i64 A.length),(12,.int .i64 s.1)],[(0,.row 1 (fe 1 A.length (tLL A s.1) s.2) 0),(1,.fam 1 (fi cN A.length (tLL A s.1) s.2))])) 2
  (λs=>s.1<=A.length) (λs=>A.length-s.1) (0,λ_=>0) (Wg _) (Xd [(0,1,0)] [] rfl (Gin4_2 @ue @zBs) (Gin4_2 @ue @zBs)) ?_
 rintro⟨k,g⟩ hk wf;simp only at hk;refine dcU zgk.eq_1 ?_;refine Gw1 @ue ?_;intros;(refine zf (λh=>?_) (λh=>?_))<;>(try simp only[dcd]at h)
 .have j:k<A.length:=by omega
  have o:suc A k=A[k]:=zk8 j;have m:=q.row k;rw[o]at m;refine Gw2 (gmp j) @ub ?_;intros
  refine zd (λs:Nat×(Nat->Nat)=>([(0,encNN A),(3,.own 0 0 0 0 A.length),(4,.int .i64 k),(11,.int .i64 A.length),(12,.int .i64 k),(18,zb A[k]),(19,.int .i64 A[k].length),(20,.int .i64 s.1)],[(0,.row 1 (fe 1 A.length (tLi A k s.1) s.2) 0),(1,.fam 1 (fi cN A.length (tLi A k s.1) s.2))])) 2
   (λs=>s.1<=A[k].length) (λs=>A[k].length-s.1) (0,g) (Wg _) (Xd [(0,0,0),(1,1,0)] [] rfl (Gin4_2 @ue @zBA) (Gin4_2 @ue @zBA)) ?_
  rintro⟨i,p⟩ hi wf;simp only at hi;refine dcU zf9.eq_1 ?_;refine Gw2 @ue @ub ?_;intros;(refine zf (λu=>?_) (λu=>?_))<;>(try simp only[dcd]at u)
  .have d:i<A[k].length:=by omega
   have e:=zIB (A:=A) (k:=k) (i:=i) (by rw[o];exact d);have b:(suc A k)[i]'(by rw[o];exact d)<A.length:=t k _ (Wr _);simp only[o]at e b;refine Gw1 (gmp d) ?_;intros;generalize A[k][i]=n at e b⊢;have x:=zKK q k i n
   (repeat first|simp(disch:=try exact dis1) only[evD,Xa,Xb,Xc,zpa,ztC b,zl9 b,zvS (c:=cN) (a:=k) (ca:=[AV.int .i64 (k:Int)]) rfl,zwB (ll:=tLi A k i) (k:=n) k rfl]|with_reducible intro _|((with_reducible apply And.intro);omega))
   rw[e];exact⟨(i+1,_),by simp only;omega,by simp only;omega,(Xd [(0,0,0),(1,1,0)] [] rfl (Gin4_1 @ue) (Gin4_1 @ue))⟩
  .obtain rfl:i=A[k].length:=by omega
   have w:=zKT (A:=A) (k:=k);rw[o]at w;rw[w];refine dcU zf6.eq_1 ?_;refine Gw0 ?_;intros;exact⟨(k+1,p),by simp only;omega,by simp only;omega,(Xd [(0,0,0),(1,1,0)] [] rfl (Gin4_1 @ue) (Gin4_1 @ue))⟩
 .obtain rfl:k=A.length:=by omega
  unfold zgf;refine Gw1 @zi4.eq_1 ?_;intros;exact⟨.own 0 0 0 0 A.length,_,2,(Xd [(0,0,0),(1,1,0)] [] rfl Gin4_0 Gin4_0),g,rfl,rfl,rfl⟩
def zxm(A:Adj):Adj:=(Wh A.length).map (tLL A A.length)
theorem zmF(A:Adj)(b:A.small)(c:A.ok):zn Z9 zbH [encNN A] (·=encNN (zxm A)):=by refine zS.mono (zi9 A b c) ?_;rintro v H nx ⟨d,rfl,rfl,rfl⟩;refine⟨_,?_,rfl⟩;have e:=b.len;rw[zz6];exact zAN trivial rfl (by unfold big;omega) rfl (λ_ _=>trivial) (λi _=>Wy (zvZ b _ _) (by unfold big;omega)) (λ_=>rfl)
def zkF(l:List Nat)(j:Nat):Bool:=j == 0||(l.getD j 0 != l.getD (j-1) 0)
def keepL(l:List Nat)(n:Nat):List Nat:=(filR (zkF l) n).map (λj=>l.getD j 0)
def zaB(l:List Nat):List Nat:=keepL l l.length
theorem zF3{l}{n}:(keepL l n).length<=n:=by unfold keepL;rw[WO];exact filR_le
theorem ztn{l}{j}(b:j<l.length)(h:zkF l j=true):keepL l (j+1)=keepL l j++[l[j]]:=by unfold keepL;rw[filR_pos h,List.map_append];simp[We,b]
theorem zwG{l}{j}(h:zkF l j=false):keepL l (j+1)=keepL l j:=by unfold keepL;rw[filR_neg h]
theorem zx4{l}{n}(c:n<=l.length)(h:∀j,j<n->zkF l j=true):keepL l n=l.take n:=by
 induction n with
 |zero=>rfl
 |succ n ih=>rw[ztn (by omega) (h n (by omega)),ih (by omega) (λj b=>h j (by omega)),WM,Wk (by omega)];rfl
theorem zsk{l}{j}(c:1<=j)(b:j<l.length):zkF l j=(l[j] != l[j-1]):=by unfold zkF;rw[We,We,Wk b,Wk (show j-1<l.length by omega)];simp;omega
def curN(K l:List Nat):List Nat:=K++l.drop K.length
theorem zA6{K l}(h:K.length<=l.length):(curN K l).length=l.length:=by simp[curN];omega
theorem zIN{K l}{j}(h:K.length<=j)(b:j<l.length):(curN K l)[j]?=some l[j]:=by unfold curN;rw[List.getElem?_append_right h,List.getElem?_drop,show K.length+(j-K.length)=j by omega,Wk b]
theorem zyt{K l}{j}(h:K.length<=j)(b:j<l.length):((curN K l).map cN).getD j []=[.int .i64 (l[j]:Int)]:=by simp[We,zIN h b]
theorem zIl{K l}{v}(h:K.length<l.length):(curN K l).set K.length v=curN (K++[v]) l:=by unfold curN;rw[List.set_append_right _ _ (Wp _),Nat.sub_self,List.drop_eq_getElem_cons h,List.set_cons_zero];simp
theorem zFK{K l}{v:Nat}(h:K.length<l.length):((curN K l).map cN).set K.length [.int .i64 (v:Int)]=(curN (K++[v]) l).map cN:=by rw[<-zIl h,List.map_set]
theorem zGl{l}{n}(h:n<=l.length):curN (l.take n) l=l:=by unfold curN;rw[W3,Nat.min_eq_left h,List.take_append_drop]
theorem zqn(n k)(c)(b)(M:k<n)(hl:(c k).length<=100000000000):
  zS Z9 zax [.own 0 (k+1) (b k) 0 (c k).length] [(0,.fam 1 (fi cN n c b))] 1
   (λv H nx=>∃m,v=.own 0 (k+1) (b k) 0 (zaB (c k)).length/\H=[(0,.fam 1 (fi cN n (updF c k (zaB (c k)++m)) b))]/\nx=1):=by
 refine zaA (fn_x zeG rfl ?_);refine dcU zcE.eq_1 ?_;have hB:=hBig;have d:updF c k (c k)=c:=by funext i;unfold updF;split;(rename_i h;rw[h]);rfl
 have I:updF b k (b k)=b:=by funext i;unfold updF;split;(rename_i h;rw[h]);rfl
 have hset:∀y,(fi cN n c b).set k (y.map cN,b k)=fi cN n (updF c k y) b:=λy=>by rw[zGz,I]
 have p:∀C y:List Nat,(fi cN n (updF c k C) b).set k (y.map cN,b k)=fi cN n (updF c k y) b:=λC y=>by rw[zGz,I];congr 1;funext i;unfold updF;split<;>rfl
 generalize O:c k=l at hl d⊢;have A:∀K m,(∀j,j<l.length->zkF l j=true)->K=(4,AV.undef)->m=0->zaB l=l:=λK m h _ _=>by unfold zaB;rw[zx4 (Wp _) h,WA]
 refine Gw0 ?_;intros;(refine zf (λh=>?_) (λh=>?_))<;>(try simp only[dcd]at h)
 ·(refine Gw1 @zae.eq_1 ?_;intros)
  have g:∀j,j<l.length->zkF l j=true:=λj hj=>by
   have:j=0:=by omega
   subst this;rfl
  have e:=A (4,.undef) 0 g rfl rfl;refine⟨.own 0 (k+1) (b k) 0 l.length,[(0,.fam 1 (fi cN n (updF c k (l++[])) b))],1,?_,[],by rw[e],by rw[e],rfl⟩;rw[Wv,d];exact(Xg [(0,0,0)] [] rfl rfl rfl Gin4_0 Gin4_0)
 refine Gw0 ?_;intros;refine zd (λi:Nat=>([(0,.own 0 (k+1) (b k) 0 l.length),(3,.int .i64 i)],[(0,.fam 1 (fi cN n c b))])) 1 (λi=>1<=i/\i<=l.length/\∀j,j<i->zkF l j=true) (λi=>l.length-i) 1 ⟨by omega,by omega,λj hj=>(by rw[show j=0 by omega];rfl)⟩ (Xg [(0,0,0)] [] rfl rfl rfl Gin4_0 Gin4_0) ?_;intro i ⟨J,hi2,g⟩ wf;refine dcU zb5.eq_1 ?_;refine Gw0 ?_;intros;(refine zf (λZ=>?_) (λZ=>?_))<;>(try simp only[dcd]at Z)
 .have u:i<l.length:=by omega
  have L:i-1<l.length:=by omega
  have ei:((i:Int)-1).toNat=i-1:=by omega
  (repeat first|simp(disch:=try exact dis1) only[evD,Xa,Xb,Xc,zl9 M,O,zg u,ei,zg L]|with_reducible first|intro _|refine aJ ?_)
  (refine zf (λh3=>?_) (λh3=>?_))<;>(try simp only[dcd]at h3)
  .have w:zkF l i=false:=by rw[zsk J u];simp;omega
   have U:keepL l i=l.take i:=zx4 (by omega) g;have N:keepL l (i+1)=l.take i:=by rw[zwG w,U]
   have t:(keepL l (i+1)).length=i:=by rw[N,W3];omega
   have o:updF c k (curN (keepL l (i+1)) l)=c:=by rw[N,zGl (by omega),d]
   have Q:((l.length:Int)-i).toNat=l.length-i:=by omega
   (repeat first|simp(disch:=try exact dis1) only[evD,Xa,Xb,Xc,zl9 M,O,Q]|with_reducible first|intro _|refine aJ ?_)
   refine zd (λa:Nat=>([(0,.own 0 (k+1) (b k) 0 l.length),(3,.int .i64 (keepL l (i+a)).length),(4,.own 0 (k+1) (b k) i (l.length-i)),(5,.int .i64 a)],[(0,.fam 1 (fi cN n (updF c k (curN (keepL l (i+a)) l)) b))])) 1
    (λa=>1<=a/\i+a<=l.length/\(keepL l (i+a)).length<i+a) (λa=>l.length-(i+a)) 1 ⟨by omega,by omega,by omega⟩ (Xg [(0,0,0)] [] rfl rfl rfl (Gin4_2 o t) (Gin4_2 o t)) ?_
   intro a ⟨ha1,ha2,R⟩ wf;refine dcU zbY.eq_1 ?_;refine Gw0 ?_;intros;(refine zf (λh4=>?_) (λh4=>?_))<;>(try simp only[dcd]at h4)
   .have q:i+a<l.length:=by omega
    have B:i+a-1<l.length:=by omega
    have W:i+((a:Int)-1).toNat=i+a-1:=by omega
    have X:=zyt (K:=keepL l (i+a)) (l:=l) (by omega) q;have Y:=zyt (K:=keepL l (i+a)) (l:=l) (by omega) B;have s:updF c k (curN (keepL l (i+a)) l) k=curN (keepL l (i+a)) l:=zg4;have D:=zA6 (K:=keepL l (i+a)) (l:=l) (by omega)
    (repeat first|simp(disch:=try exact dis1) only[evD,Xa,Xb,Xc,zl9 M,s,W,X,Y]|with_reducible first|intro _|refine aJ ?_)
    (refine zf (λh5=>?_) (λh5=>?_))<;>(try simp only[dcd]at h5)
    .have V:zkF l (i+a)=true:=by rw[zsk (by omega) q];simp;omega
     have z:=ztn q V;have P:=zFK (K:=keepL l (i+a)) (l:=l) (v:=l[i+a]) (by omega);rw[<-z]at P;have x:(keepL l (i+a+1)).length=(keepL l (i+a)).length+1:=by rw[z];simp
     (repeat first|simp(disch:=try exact dis1) only[evD,Xa,Xb,Xc,zl9 M,s,W,X,Y,P,p]|with_reducible first|intro _|refine aJ ?_)
     exact⟨a+1,⟨by omega,by omega,by rw[show i+(a+1)=i+a+1 by omega,x];omega⟩,by omega,(Xg [(0,0,0)] [] rfl rfl rfl (Gin4_2 (show i+(a+1)=i+a+1 by omega) x) (Gin4_2 (show i+(a+1)=i+a+1 by omega) x))⟩
    .have V:zkF l (i+a)=false:=by rw[zsk (by omega) q];simp;omega
     have z:=zwG V;refine Gw0 ?_;intros;exact⟨a+1,⟨by omega,by omega,by rw[show i+(a+1)=i+a+1 by omega,z];omega⟩,by omega,(Xg [(0,0,0)] [] rfl rfl rfl (Gin4_2 (show i+(a+1)=i+a+1 by omega) z) (Gin4_2 (show i+(a+1)=i+a+1 by omega) z))⟩
   .have S:i+a=l.length:=by omega
    rw[S]at R⊢;have hz:((l.length:Int)-(keepL l l.length).length).toNat=l.length-(keepL l l.length).length:=by omega
    have D:=zA6 (K:=keepL l l.length) (l:=l) (by omega);have F:((curN (keepL l l.length) l).map cN).take (keepL l l.length).length++Wl (l.length-(keepL l l.length).length) [AV.int .i64 0]++((curN (keepL l l.length) l).map cN).drop ((keepL l l.length).length+(l.length-(keepL l l.length).length))=(keepL l l.length++Wl (l.length-(keepL l l.length).length) 0).map cN:=by rw[List.drop_of_length_le (by rw[WO,D];omega),Wv,<-List.map_take,List.map_append,W5];congr 2;unfold curN;rw[List.take_append_of_le_length (Wp _),WA]
    have s:updF c k (curN (keepL l l.length) l) k=curN (keepL l l.length) l:=zg4;refine dcU zb4.eq_1 ?_
    (repeat first|simp(disch:=try exact dis1) only[evD,Xa,Xb,Xc,zae,zl9 M,s,hz,F,p]|with_reducible first|intro _|refine aJ ?_)
    refine⟨.own 0 (k+1) (b k) 0 (zaB l).length,[(0,.fam 1 (fi cN n (updF c k (zaB l++Wl (l.length-(keepL l l.length).length) 0)) b))],1,?_,_,rfl,rfl,rfl⟩;exact(Xg [(0,0,0)] [] rfl rfl rfl (Gin4_1 @zaB.eq_1) (Gin4_1 @zaB.eq_1))
  .have w:zkF l i=true:=by rw[zsk J u];simp;omega
   refine dcU zbW.eq_1 ?_;refine Gw0 ?_;intros;refine⟨i+1,⟨by omega,by omega,λj hj=>?_⟩,by omega,(Xg [(0,0,0)] [] rfl rfl rfl Gin4_0 Gin4_0)⟩;by_cases T:j=i
   .subst T;exact w
   .exact g j (by omega)
 .obtain rfl:i=l.length:=by omega
  unfold zb0;have e:=A (4,.undef) 0 g rfl rfl;refine Gw1 @zae.eq_1 ?_;intros;refine⟨.own 0 (k+1) (b k) 0 l.length,[(0,.fam 1 (fi cN n (updF c k (l++[])) b))],1,?_,[],by rw[e],by rw[e],rfl⟩;rw[Wv,d];exact(Xg [(0,0,0)] [] rfl rfl rfl Gin4_0 Gin4_0)
def fe2(F n:Nat)(lens b:Nat->Nat):List (List AV):=(Wh n).map λi=>[.own F (i+1) (b i) 0 (lens i)]
theorem zzH{F n}{lens gs}:(fe2 F n lens gs).length=n:=by simp[fe2]
theorem zFS{F n k}{lens gs}(h:k<n):(fe2 F n lens gs).getD k []=[.own F (k+1) (gs k) 0 (lens k)]:=by simp[fe2,We,h]
theorem zKD{F n k m}{lens gs}:(fe2 F n lens gs).set k [.own F (k+1) (gs k) 0 m]=fe2 F n (updF lens k m) gs:=by
 unfold fe2;rw[za3];refine Wd λi b=>?_
 unfold updF;split
 .rename_i h;subst h;rfl
 .rfl
theorem zAK{H HH}{σ}{D}{F F' n}{lens gs}(h:∀i,σ F' (i+1)=some (F,i+1,0)):RowV H HH σ D (fe2 F n lens gs) (fe2 F' n lens gs):=by
 refine⟨by simp[fe2],λi g b=>?_⟩;unfold fe2 at b⊢;simp only[WB,Option.map_eq_some_iff]at b⊢;obtain⟨k,e,rfl⟩:=b;refine⟨_,⟨k,e,rfl⟩,rfl,λj x y c d=>?_⟩
 cases j with
 |succ j=>cases c
 |zero=>cases c;cases d;exact .own _ _ _ 0 _ _ _ _ _ (h k) rfl
theorem zJj{ρ}{n}{ll}{gs}:AObj.ren ρ (.fam 1 (fi cN n ll gs))=.fam 1 (fi cN n ll gs):=by
 simp only[AObj.ren,fi,Wc,AObj.fam.injEq,true_and];refine Wd λi d=>?_
 simp only[Wo,Prod.mk.injEq,and_true];rw[zgL (by intro c b;obtain⟨a,_,rfl⟩:=Wx.1 b;rfl)]
theorem fe_ren{α:Type}{ρ:Nat->Nat}{F n g:Nat}{c:Nat->List α}{b:Nat->Nat}:AObj.ren ρ (.row 1 (fe F n c b) g)=.row 1 (fe (ρ F) n c b) g:=by
 simp only[AObj.ren,fe,Wc,AObj.row.injEq,and_true,true_and];refine Wd λi d=>?_
 simp[AV.ren]
theorem zJz{H HH}{σ}{D}{t}{F r g n q}{L rr}{lens gs}(w:D r q)(y:H.get r q=some (.row 1 (fe2 F n lens gs) g))(p:n<=big)(x:H.look F=some (.fam 1 (fi cN n rr gs)))(h:∀i,i<n->D F (i+1))(k:∀i,i<n->(L i).length<=big)(z:∀i,i<n->lens i=(L i).length/\∃m,rr i=L i++m):Vw H HH σ D t (.own r q g 0 n) (encNN ((Wh n).map L)):=by
 have e:encNN ((Wh n).map L)=.sl 1 n (λi j=>((((Wh n).map L).map cNs).getD i []).getD j .undef):=by simp[encNN,encL]
 rw[e];refine .frz t r q g 0 n 1 (fe2 F n lens gs) _ w y p (by rw[zzH];omega) (λi j d A=>?_);obtain rfl:j=0:=by omega
 obtain⟨u,m,v⟩:=z i d;rw[WH,zFS d,u];simp only[WP,Wc,We,WB,W6 d,WQ,W7,Wo];show Vw H HH σ D false (.own F (i+1) (gs i) 0 (L i).length) (.sl 1 (L i).length λa b=>(((L i).map cN).getD a []).getD b .undef);have s:=zsw (c:=cN) x d;rw[v]at s;refine .frz false F (i+1) (gs i) 0 (L i).length 1 ((L i++m).map cN) _ (h i d) s (k i d) (by simp) (λa b o p=>?_);obtain rfl:b=0:=by omega
 rw[WH,zg (show a<(L i++m).length by simp;omega),zg o,WV o];exact .int _ _ _
theorem zyL{l}:(zaB l).length<=l.length:=zF3
theorem zEv(A):(zxm A).length=A.length:=by simp[zxm]
theorem _root_.Go.Ab.Gr.E_small{g:Gr}(c:g.small):g.E.small:=by
 refine⟨by rw[g.E_len];have:=c.1;omega,λk=>?_⟩;unfold suc Gr.E;rw[We,WB]
 cases d:g.blocks[k]? with
 |none=>simp
 |some b=>simp only[WQ,W7,WO];have e:=WW (edgeOk g.blocks.length) b.targets;have h:=c.2 b (List.mem_of_getElem? d);omega
theorem zjf(g:Gr)(z:g.small):zn Z9 zay [.agg g.cells] (·=encNN ((Wh g.E.length).map λi=>zaB (tLL g.E g.E.length i))):=by
 refine fn_x zjT rfl ?_;refine dcU zeJ.eq_1 ?_;have J:=hBig;have K:=z.1;have q:=g.E_len;have u:=Gr.E_small z;refine Gw2 @ug @um ?_;intros;refine ze (zc (zhx g z) rfl) ?_;refine Gw0 ?_;intros;refine zbL [] 0 _ (zi9 g.E u g.E_ok) rfl rfl (Gin4_1 @ue) (Gin4_1 @ue) ?_;rintro v D B ⟨j,rfl,rfl,rfl⟩;have y:∀i,(tLL g.E g.E.length i).length<=2000000000:=λi=>Wy (zvZ u _ _) (by omega)
 generalize tLL g.E g.E.length=T at y⊢;generalize g.E.length=n at q⊢;refine Gw2 @zJj @fe_ren ?_;intros;have c:∀(e:Nat->List Nat),fe 1 n T j=fe2 1 n (λi=>(T i).length) j:=λ_=>rfl
 refine zd (λs:Nat×(Nat->List Nat)=>([(3,.own 0 0 0 0 n),(9,.int .i64 n),(10,.int .i64 s.1)],[(0,.row 1 (fe2 1 n (λi=>if i<s.1 then(zaB (T i)).length else(T i).length) j) 0),(1,.fam 1 (fi cN n s.2 j))])) 2
  (λs=>s.1<=n/\(∀i,i<s.1->∃m,s.2 i=zaB (T i)++m)/\∀i,s.1<=i->s.2 i=T i) (λs=>n-s.1) (0,T) ⟨Wg _,λi h=>by simp at h,λi _=>rfl⟩ (Xd [(0,1,0),(1,2,0)] [] rfl ?_ ?_) ?_
 .simp only[evWB,Xa,Xb,Xe,Xc,Xf,implies_true,c,WI,if_false];exact⟨zAK (F:=2) (λ_=>rfl),zck (λ_=>rfl) (by decide) ⟨rfl,rfl⟩ trivial⟩
 .simp only[evWB,Xa,Xb,Xe,Xc,Xf,implies_true]
 rintro⟨k,e⟩ ⟨H,w,x⟩ wf;simp only at H w x;refine dcU zdI.eq_1 ?_;refine Gw0 ?_;intros;(refine zf (λh=>?_) (λh=>?_))<;>(try simp only[dcd]at h)
 .have p:k<n:=by omega
  have b:=x k (Wp _);have I:=y k;have A:(if k<k then(zaB (T k)).length else(T k).length)=(e k).length:=by rw[if_neg (by omega),b]
  (repeat first|simp(disch:=try exact dis1) only[evD,Xa,Xb,Xc,zzH,zFS p,A]|with_reducible first|intro _|refine aJ ?_)
  refine zbL [(0,1,0)] 1 _ (zqn n k e j p (by rw[b];omega)) rfl rfl (by exact zck (λ_=>rfl) (by decide) ⟨rfl,rfl⟩ trivial) (by simp only[evWB,Xa,Xb,Xe,Xc,Xf,implies_true]) ?_;rintro v D B ⟨m,rfl,rfl,rfl⟩
  have t:updF (λi=>if i<k then(zaB (T i)).length else(T i).length) k (zaB (e k)).length=λi=>if i<k+1 then(zaB (T i)).length else(T i).length:=by
   funext i;unfold updF;by_cases o:i=k
   .subst o;rw[if_pos rfl,if_pos (by omega),b]
   .rw[if_neg o];show(if i<k then(zaB (T i)).length else(T i).length)=_;by_cases C:i<k
    .rw[if_pos C,if_pos (by omega)]
    .rw[if_neg C,if_neg (by omega)]
  refine Gw4 @zJj @zzH @zKD t ?_;intros;refine⟨(k+1,updF e k (zaB (e k)++m)),⟨by simp only;omega,λi d=>?_,λi d=>?_⟩,by simp only;omega,Xd [(0,0,0),(1,1,0)] [] rfl ?_ ?_⟩
  .simp only at d⊢;by_cases o:i=k
   .subst o;rw[zg4];exact⟨m,by rw[b]⟩
   .rw[zwx o];exact w i (by omega)
  .simp only at d⊢;rw[zwx (by omega)];exact x i (by omega)
  .simp only[evWB,Xa,Xb,Xe,Xc,Xf,implies_true];exact⟨zAK (F:=1) (λ_=>rfl),zck (λ_=>rfl) (by decide) ⟨rfl,rfl⟩ trivial⟩
  .simp only[evWB,Xa,Xb,Xe,Xc,Xf,implies_true]
 .obtain rfl:k=n:=by omega
  unfold zdB;refine Gw1 @zeO.eq_1 ?_;intros;refine⟨_,?_,rfl⟩;exact zJz trivial rfl (by omega) rfl (λ_ _=>trivial) (λi _=>Wy zyL (by have:=y i;omega)) (λi d=>⟨if_pos d,w i d⟩)
def inB(n:Nat)(l:List Nat):List Bool:=mapR (λi=>decide (i∈l)) n
theorem zvy{n}{l}:(inB n l).length=n:=zsl
theorem zLi{n i}{l}(h:i<n):((inB n l).map cB).getD i []=[.bool (decide (i∈l))]:=by simp[inB,mapR,We,h]
theorem zEu{n k}{l}:((inB n l).map cB).set k [.bool true]=(inB n (l++[k])).map cB:=by
 unfold inB mapR;rw[Wc,Wc,za3];refine Wd λi b=>?_
 unfold updF;split
 .rename_i h;subst h;simp
 .rename_i h;simp[h]
theorem zwh{n}:(inB n []).map cB=Wl n [.bool false]:=by
 unfold inB mapR;rw[Wc];have:(cB ∘ λi=>decide (i∈([]:List Nat)))=λ_=>[AV.bool false]:=by funext i;simp
 rw[this,WJ,WK]
def zdv(A:Adj):List AV:=[.ptr 1 0 0 0 0,.iptr 1 λj=>[encNN A].getD j .undef,.ptr 3 0 0 0 0,.ptr 2 0 0 0 0]
def ordH(A:Adj)(s:List Nat×List Nat)(g:Nat):AH:=[(0,.row 1 ((inB A.length s.1).map cB) 0),(1,.row 1 [[.own 0 0 0 0 A.length]] 0),(2,.row 1 [[.own 4 0 g 0 s.2.length]] 0),
 (3,.row 1 [[.fn (.func zcc) (zdv A)]] 0),(4,.row 1 (s.2.map cN) g)]
theorem _root_.Go.Ab.ut:type_of% @ordH.eq_1:=@ordH.eq_1
theorem _root_.Go.Ab.ur:type_of% @zdv.eq_1:=@zdv.eq_1
theorem zhS(A)(F:A.small)(t:A.ok):∀(f:Nat)(k g:Nat)(s:List Nat×List Nat)(m d:Nat),DfsI A.length m d s->k<A.length->k∉s.1->A.length<=f+m ->
  zS Z9 zcc ([.int .i64 k]++zdv A) (ordH A s g) 5 (λv H nx=>∃D,v=.tup []/\H=ordH A (dfs A f k s) D/\nx=5)
 |
  0,k,g,s,m,d,u,y,K,hf=>by
  have:=(u.nd.snoc y K).len;have:=u.le;simp at *;omega
 |
  f+1,k,g,s,m,d,u,y,K,hf=>by
  have P:=zhS A F t f;have T:=hBig;have N:=u.nd.len;have O:=u.post;have L:=F.len;refine zaA (fn_x znu rfl ?_);refine dcU zhU.eq_1 ?_;have B:∀c∈suc A k,c<A.length:=t k;have p:DfsI A.length (m+1) (d+1) (s.1++[k],s.2):=⟨u.nd.snoc y K,by have:=u.le;simp;omega,by simp;omega⟩;have n:=zsb A f k s;have q:=F.row k;rw[zk8 y]at B n q;refine Gw7 @ur @ut @zvy @ue @ub (gmp y) @zEu ?_;intros;generalize M:A[k]=j at B n q⊢;let S:=λi:Nat=>(j.take i).foldl (zbM A f) (s.1++[k],s.2)
  refine zd (λa:Nat×Nat=>([(0,.int .i64 k),(1,.ptr 1 0 0 0 0),(3,.ptr 3 0 0 0 0),(4,.ptr 2 0 0 0 0),(14,zb j),(15,.int .i64 j.length),(16,.int .i64 a.1)],ordH A (S a.1) a.2)) 5
   (λa=>a.1<=j.length) (λa=>j.length-a.1) (0,g) (Wg _) (Xg [(0,0,0),(1,1,0),(2,2,0),(3,3,0),(4,4,0)] [] rfl rfl rfl (by(try simp only[evWB,Xa,Xb,Xe,Xc,Xf,implies_true,S,List.foldl_nil,ordH,zdv,encNN])<;>exact fin4) (by(try simp only[evWB,Xa,Xb,Xe,Xc,Xf,implies_true,S,List.foldl_nil,ordH,zdv,encNN])<;>exact fin4)) ?_
  rintro⟨i,a0⟩ hi wf;simp only at hi;refine dcU zfN.eq_1 ?_;refine Gw2 @ut @ub ?_;intros;have C:DfsI A.length (m+1) (d+1) (S i):=ziu (zmJ t f (m+1) (d+1)) (j.take i) _ (λc x=>B c (List.mem_of_mem_take x)) p;have J:=C.nd.len;(refine zf (λh=>?_) (λh=>?_))<;>(try simp only[dcd]at h)
  .have o:i<j.length:=by omega
   have b:S (i+1)=zbM A f (S i) j[i]:=zdZ o;have x:=B j[i] (Wr o);generalize S i=z at C J b⊢;refine Gw1 (gmp o) ?_;intros;generalize j[i]=c at b x⊢
   (repeat first|simp(disch:=try exact dis1) only[evD,Xa,Xb,Xc,zvy,zLi x]|with_reducible first|intro _|refine aJ ?_)
   (refine zf (λw=>?_) (λw=>?_))<;>(try simp only[dcd]at w)
   .have e:zbM A f z c=dfs A f c z:=by unfold zbM;rw[if_neg w]
    rw[e]at b;refine Gw1 @ur ?_;intros;refine⟨by kernel_rfl,?_⟩;refine zbL [(0,0,0),(1,1,0),(2,2,0),(3,3,0),(4,4,0)] 5 _ (P c a0 z (m+1) (d+1) C x w (by omega)) rfl rfl (Gin4_2 @ut @ur) (Gin4_2 @ut @ur) ?_;rintro v R Q ⟨D,rfl,rfl,rfl⟩;refine Gw2 @ut @ur ?_;intros;exact⟨(i+1,D),by simp only;omega,by simp only;omega,(Xg [(0,0,0),(1,1,0),(2,2,0),(3,3,0),(4,4,0)] [] rfl rfl rfl (Gin4_3 b @ut @ur) (Gin4_3 b @ut @ur))⟩
   .have e:zbM A f z c=z:=by unfold zbM;rw[if_pos w]
    rw[e]at b;refine Gw0 ?_;intros;exact⟨(i+1,a0),by simp only;omega,by simp only;omega,(Xg [(0,0,0),(1,1,0),(2,2,0),(3,3,0),(4,4,0)] [] rfl rfl rfl (Gin4_3 b @ut @ur) (Gin4_3 b @ut @ur))⟩
  .refine dcU zfz.eq_1 ?_;have o:j.length<=i:=by omega
   have I:S i=j.foldl (zbM A f) (s.1++[k],s.2):=by simp only[S];rw[List.take_of_length_le o]
   have:=C.post;refine Gw1 @zhL.eq_1 ?_;intros;refine⟨.tup [],ordH A (dfs A (f+1) k s) (a0+1),5,?_,a0+1,rfl,rfl,rfl⟩;rw[I,n];exact(Xg [(0,0,0),(1,1,0),(2,2,0),(3,3,0),(4,4,0)] [] rfl rfl rfl (Gin4_2 @ut @ur) (Gin4_2 @ut @ur))
def revP(l:List Nat)(i x:Nat):Nat:=if x<i\/l.length-i<=x then l.getD (l.length-1-x) 0 else l.getD x 0
def revL(l:List Nat)(i:Nat):List Nat:=(Wh l.length).map (revP l i)
theorem zIA{l}{i}:(revL l i).length=l.length:=by simp[revL]
theorem zyJ{l}:revL l 0=l:=by
 apply WL;intro x;unfold revL revP;by_cases b:x<l.length
 .have:¬l.length<=x:=by omega
  simp[b,We,this]
 .simp[b]
theorem zH9{l}{i}(h:l.length<=2*i+1):revL l i=l.reverse:=by
 apply WL;intro x;unfold revL revP;by_cases b:x<l.length
 .rw[List.getElem?_reverse b];simp only[WB,W6 b,WQ];by_cases c:x<i\/l.length-i<=x
  .rw[if_pos c];rw[We,Wk (show l.length-1-x<l.length by omega)];rfl
  .rw[if_neg c,show l.length-1-x=x by omega,We,Wk b];rfl
 .simp[b]
theorem zBm{l}{i x}(b:x<l.length):((revL l i).map cN).getD x []=[.int .i64 (revP l i x:Int)]:=by simp[revL,We,b]
theorem zDI{l}{i}(h:2*i+1<l.length):
  (((revL l i).map cN).set i [.int .i64 (revP l i (l.length-1-i):Int)]).set (l.length-1-i) [.int .i64 (revP l i i:Int)]=(revL l (i+1)).map cN:=by
 unfold revL;rw[Wc,Wc,za3,za3];refine Wd λx e=>?_
 have g:=Ww.1 e;unfold updF;simp only[Wo];by_cases c:x=l.length-1-i
 .rw[if_pos c];unfold revP;rw[if_neg (by omega),if_pos (by omega),show l.length-1-x=i by omega]
 .rw[if_neg c];by_cases b:x=i
  .rw[if_pos b];unfold revP;rw[if_neg (by omega),if_pos (by omega),b]
  .rw[if_neg b];unfold revP;by_cases d:x<i\/l.length-i<=x
   .rw[if_pos d,if_pos (by omega)]
   .rw[if_neg d,if_neg (by omega)]
theorem zqR(l:List Nat)(g:Nat)(d:l.length<=1000000):zS Z9 zbG [.own 0 0 g 0 l.length] [(0,.row 1 (l.map cN) g)] 1
  (λv H nx=>v=.tup []/\H=[(0,.row 1 (l.reverse.map cN) g)]/\nx=1):=by
 refine zaA (fn_x zjW rfl ?_);refine dcU zeP.eq_1 ?_;have b:=hBig;refine Gw0 ?_;intros;refine zd (λi:Nat=>([(0,.own 0 0 g 0 l.length),(2,.int .i64 i),(3,.int .i64 ((l.length:Int)-1-i))],[(0,.row 1 ((revL l i).map cN) g)])) 1 (λi=>2*i<=l.length+1) (λi=>l.length+1-i) 0 (by omega) (Xg [(0,0,0)] [] rfl rfl rfl (Gin4_1 @zyJ) (Gin4_1 @zyJ)) ?_;intro i c wf;refine dcU zdK.eq_1 ?_;refine Gw0 ?_;intros;(refine zf (λh=>?_) (λh=>?_))<;>(try simp only[dcd]at h)
 .have e:((l.length:Int)-1-i).toNat=l.length-1-i:=by omega
  (repeat first|simp(disch:=try exact dis1) only[evD,Xa,Xb,Xc,e,zIA,zBm (l:=l) (i:=i) (show l.length-1-i<l.length by omega),zBm (l:=l) (i:=i) (show i<l.length by omega),List.length_set]|with_reducible first|intro _|refine aJ ?_)
  rw[zDI (by omega)];exact⟨i+1,by omega,by omega,(Xg [(0,0,0)] [] rfl rfl rfl Gin4_0 Gin4_0)⟩
 ·(refine Gw1 @zeK.eq_1 ?_;intros);refine⟨.tup [],[(0,.row 1 (l.reverse.map cN) g)],1,?_,rfl,rfl,rfl⟩;rw[zH9 (by omega)];exact(Xg [(0,0,0)] [] rfl rfl rfl Gin4_0 Gin4_0)
def ordL(A:Adj)(r:Nat):List Nat:=(dfs A A.length r ([],[])).2.reverse
theorem zKC{A}(b:A.ok){r}(c:r<A.length):DfsI A.length 0 0 (dfs A A.length r ([],[])) :=
 zmJ b A.length 0 0 r _ ⟨⟨by simp,by simp⟩,by simp,by simp⟩ c (by simp)
theorem zjq(A:Adj)(g:A.small)(b:A.ok)(r:Nat)(j:r<A.length):zn Z9 zb9 [encNN A,.int .i64 r] (·=zb (ordL A r)):=by
 refine fn_x zjJ rfl ?_;unfold zfR;have o:=hBig;have p:=g.len;have hd:=zKC b j;have c:=hd.nd.len;have d:=hd.post;have n:DfsI A.length 0 0 ([],[]):=⟨⟨by simp,by simp⟩,by simp,by simp⟩;refine Gw1 @ue ?_;intros;(refine zf (λh=>?_) (λh=>?_))<;>(try simp only[dcd]at h)
 .omega
 refine Gw0 ?_;intros;refine⟨by kernel_rfl,?_⟩;refine zbL [(0,1,0),(1,2,0),(2,3,0),(3,4,0)] 5 _ (zhS A g b A.length r 0 ([],[]) 0 0 n j (by simp) (by omega)) rfl rfl (Gin4_4 @ut @ur @zwh @ue) (Gin4_4 @ut @ur @zwh @ue) ?_;rintro v k e ⟨m,rfl,rfl,rfl⟩;unfold ordL;generalize dfs A A.length r ([],[])=s at c d⊢;refine Gw2 @ut @ur ?_;intros;refine zbL [(0,9,0)] 1 _ (zqR s.2 m (by omega)) rfl rfl Gin4_0 Gin4_0 ?_;rintro v k e ⟨rfl,rfl,rfl⟩;refine Gw1 @zfP.eq_1 ?_;intros;refine⟨_,?_,rfl⟩;rw[show s.2.length=s.2.reverse.length by simp];exact zbX trivial rfl (by simp;omega)
theorem znI(A)(r:Nat)(b:A.length<=r):zn Z9 zb9 [encNN A,.int .i64 r] (·=zb []):=by
 refine fn_x zjJ rfl ?_;unfold zfR;refine Gw1 @ue ?_;intros;(refine zf (λh=>?_) (λh=>?_))<;>(try simp only[dcd]at h)
 ·(refine Gw1 @zfP.eq_1 ?_;intros);refine⟨_,?_,rfl⟩;exact zbX (l:=[]) trivial rfl (Wg _)
 .omega
theorem zfr(g:Gr)(b:g.small):zn Z9 zaH [.agg g.cells] (·=zb (orderL g.E)):=by
 refine fn_x zpS rfl ?_;refine dcU zjM.eq_1 ?_;refine Gw2 @ug @um ?_;intros;refine ze (zc (zhx g b) rfl) ?_;refine Gw0 ?_;intros;by_cases c:0<g.E.length
 .refine ze (zc (zjq g.E (Gr.E_small b) g.E_ok 0 c) rfl) ?_;refine Gw1 @zfT.eq_1 ?_;intros;refine⟨_,.sl _ _ _ _,?_⟩;have:orderL g.E=ordL g.E 0:=by unfold orderL ordL;rw[if_neg (by omega)]
  rw[this];rfl
 .refine ze (zc (znI g.E 0 (by omega)) rfl) ?_;refine Gw1 @zfT.eq_1 ?_;intros;refine⟨_,.sl _ _ _ _,?_⟩;have:orderL g.E=[]:=by unfold orderL;rw[if_pos (by omega)]
  rw[this];rfl
def tI:Option Nat->Int
 |some c=>c
 |none=> -1
def outI(n:Nat)(T:Nat->Option Nat):List Int:=(Wh n).map λk=>tI (T k)
def plcI(n:Nat)(l:List Nat)(j:Nat):List Int:=(Wh n).map λk=>if l.idxOf k<j then(l.idxOf k:Int)else -1
theorem zgP{n}{T}:(outI n T).length=n:=by simp[outI]
theorem zk9{n j}{l}:(plcI n l j).length=n:=by simp[plcI]
theorem zr8{n k}{T}(h:k<n):((outI n T).map cI).getD k []=[.int .i64 (tI (T k))]:=by simp[outI,We,h]
theorem zv0{n k j}{l}(h:k<n):((plcI n l j).map cI).getD k []=[.int .i64 (if l.idxOf k<j then(l.idxOf k:Int)else -1)]:=by simp[plcI,We,h]
theorem zHD{n k}{T}{v}:((outI n T).map cI).set k [.int .i64 (tI v)]=(outI n (updF T k v)).map cI:=by
 unfold outI;rw[Wc,Wc,za3];refine Wd λi b=>?_
 unfold updF;simp only[Wo];split<;>rfl
theorem zIE{n j}{l}(c:l.Nodup)(g:j<l.length):((plcI n l j).map cI).set l[j] [.int .i64 (j:Int)]=(plcI n l (j+1)).map cI:=by
 unfold plcI;rw[Wc,Wc,za3];refine Wd λi m=>?_
 unfold updF;simp only[Wo];have b:l.idxOf l[j]=j:=c.idxOf_getElem j g;by_cases h:i=l[j]
 .rw[if_pos h,h,b,if_pos (by omega)]
 .rw[if_neg h];have k:l.idxOf i≠j:=by intro e;have:i∈l:=Ws.1 (by omega);exact h (by have:=List.getElem_idxOf (Ws.2 this);rw[<-this];congr 1)
  by_cases d:l.idxOf i<j
  .rw[if_pos d,if_pos (by omega)]
  .rw[if_neg d,if_neg (by omega)]
theorem zr9{H H2}{σ}{D}{t}{r R g g2}{l}(b:D r 0)(c:H.get r 0=some (.row 1 [[.own R 0 g2 0 l.length]] g))(d:D R 0)(e:H.get R 0=some (.row 1 (l.map cI) g2))(h:l.length<=big):Vw H H2 σ D t (.ptr r 0 g 0 0) (.iptr 1 λj=>[za l].getD j .undef):=by
 refine .frzp t r 0 g 0 0 1 1 _ _ b c (by simp) (by simp) (λj k=>?_);obtain rfl:j=0:=by omega
 exact zbz d e h
def Nca(T:Nat->Option Nat)(l:List Nat)(r a b c:Nat):Prop:=c∈l/\Ch T a c/\Ch T b c/\∀x,Ch T a x->Ch T b x->Ch T c x
theorem ziN{A:Adj}{r:Nat}{l:List Nat}{f:Nat->Nat}{T:Nat->Option Nat}(L:Lay A r l f)(w:WT r l T)(n:Nat)(M:∀x∈l,x<n)(Y:n<=2001)(a b:Nat)(W:a∈l)(X:b∈l)(S:Hd r T a)(U:Hd r T b):
  zn Z9 za2 [.int .i64 a,.int .i64 b,.iptr 1 λj=>[za (plcI n l l.length)].getD j .undef,.iptr 1 λj=>[za (outI n T)].getD j .undef] (λv=>∃c:Nat,v=.int .i64 c/\Nca T l r a b c):=by
 refine fn_x zo1 rfl ?_;unfold zi1;have hB:=hBig;refine Gw0 ?_;intros
 refine zd (λs:Nat×Nat=>([(0,.int .i64 s.1),(1,.int .i64 s.2),(2,.iptr 1 λj=>[za (plcI n l l.length)].getD j .undef),(3,.iptr 1 λj=>[za (outI n T)].getD j .undef)],[])) 0
  (λs=>s.1∈l/\s.2∈l/\Hd r T s.1/\Hd r T s.2/\Ch T a s.1/\Ch T b s.2/\∀x,Ch T a x->Ch T b x->Ch T s.1 x/\Ch T s.2 x) (λs=>l.idxOf s.1+l.idxOf s.2) (a,b) ⟨W,X,S,U,.refl _,.refl _,λx N o=>⟨N,o⟩⟩ (Xj rfl fin5) ?_
 rintro⟨c,d⟩ ⟨p,hd,z,B,k,m,q⟩ wf;simp only at p hd z B k m q;have J:=M c p;have K:=M d hd;have Q:=zkB p;have R:=zkB hd
 have step:∀{u v:Nat},u∈l->v∈l->Hd r T u->l.idxOf v<l.idxOf u->∃j,T u=some j/\j∈l/\l.idxOf j<l.idxOf u/\Hd r T j/\∀x,Ch T u x->Ch T v x->Ch T j x:=by
  intro u v hu Z C V;rcases C with rfl|C
  .rw[L.pl0]at V;omega
  .cases P:T u with
   |none=>exact absurd P C
   |some j=>
    obtain⟨_,o,t,F⟩:=w.up u j P;refine⟨j,rfl,o,t,F,λx O H=>?_⟩;rcases O.cases' with rfl|⟨j',D,g⟩
    .have:=(w.mem L.root Z H).2.1;omega
    .rw[P]at D;cases D;exact g
 refine dcU zf7.eq_1 ?_;refine Gw0 ?_;intros;(refine zf (λh=>?_) (λh=>?_))<;>(try simp only[dcd]at h)
 .have I:l.idxOf c≠l.idxOf d:=λe=>h (by rw[L.inj p hd e])
  (repeat first|simp(disch:=try exact dis1) only[evD,Xa,Xb,Xc,za,zk9,zv0 J,zv0 K,if_pos Q,if_pos R]|with_reducible first|intro _|refine aJ ?_)
  (refine zf (λo=>?_) (λo=>?_))<;>(try simp only[dcd]at o)
  .obtain⟨j,t,F,O,H,D⟩:=step p hd z (by omega)
   (repeat first|simp(disch:=try exact dis1) only[evD,Xa,Xb,Xc,za,zgP,zr8 J,t,tI]|with_reducible first|intro _|refine aJ ?_)
   exact⟨(j,d),⟨F,hd,H,B,k.trans (.up t (.refl _)),m,λx g y=>⟨D x (q x g y).1 (q x g y).2,(q x g y).2⟩⟩,by simp only;omega,Xj rfl fin5⟩
  .obtain⟨j,t,F,O,H,D⟩:=step hd p B (by omega)
   (repeat first|simp(disch:=try exact dis1) only[evD,Xa,Xb,Xc,za,zgP,zr8 K,t,tI]|with_reducible first|intro _|refine aJ ?_)
   exact⟨(c,j),⟨p,F,z,H,k,m.trans (.up t (.refl _)),λx g y=>⟨(q x g y).1,D x (q x g y).2 (q x g y).1⟩⟩,by simp only;omega,Xj rfl fin5⟩
 .have I:c=d:=by omega
  subst I;unfold zge;refine Gw1 @zir.eq_1 ?_;intros;exact⟨_,.int _ _ _,c,rfl,p,k,m,λx N o=>(q x N o).1⟩
def negI(n k:Nat):List Int:=(Wh n).map λi=>if i<k then -1 else 0
theorem zI6{n k}:(negI n k).length=n:=by simp[negI]
theorem zxN{n}:(negI n 0).map cI=Wl n [.int .i64 0]:=by unfold negI;simp only[WI,if_false];rw[WJ,WK,W5]
theorem zI3{n k}:((negI n k).map cI).set k [.int .i64 (-1)]=(negI n (k+1)).map cI:=by
 unfold negI;rw[Wc,Wc,za3];refine Wd λi c=>?_
 unfold updF;simp only[Wo];by_cases h:i=k
 .rw[if_pos h,if_pos (by omega)]
 .rw[if_neg h];by_cases b:i<k
  .rw[if_pos b,if_pos (by omega)]
  .rw[if_neg b,if_neg (by omega)]
theorem zAV{n}:negI n n=outI n (λ_=>none):=by unfold negI outI;exact Wd λi b=>if_pos (Ww.1 b)
theorem zBe{n}{l}:negI n n=plcI n l 0:=by unfold negI plcI;exact Wd λi b=>by rw[if_pos (Ww.1 b),if_neg (by omega)]
def zcl(n:Nat)(o p:List Int):AH:=[(0,.row 1 [[.own 2 0 0 0 n]] 0),(1,.row 1 [[.own 3 0 0 0 n]] 0),(2,.row 1 (o.map cI) 0),(3,.row 1 (p.map cI) 0)]
theorem zFp{A}{n k p}:p∈tLL A n k↔p<n/\k∈suc A p:=by
 unfold tLL;simp only[WC,Ww,List.mem_replicate,ne_eq];constructor
 .rintro⟨q,b,c,rfl⟩;exact⟨b,WR.1 (by omega)⟩
 .rintro⟨b,c⟩;exact⟨p,b,by have:=WR.2 c;omega,rfl⟩
structure TI(A:Adj)(r:Nat)(l:List Nat)(f:Nat->Nat)(T:Nat->Option Nat):Prop where
 wt:WT r l T
 sd:Sd A r l T
 gd:T=(λ_=>none)\/∃T0,Gd A r l f T0 T
theorem TI.next{A}{r}{l}{f}{T U}(L:Lay A r l f)(h:TI A r l f T)(P:Pass A r l T U):Gd A r l f T U/\TI A r l f U:=by
 have g:Gd A r l f T U:=by
  rcases h.gd with rfl|⟨b,g⟩
  .exact Gd.first P
  .exact g.next L P
 exact⟨g,P.wt,g.sd L h.sd,.inr ⟨T,g⟩⟩
theorem Rpo.lay{A}{r}{l}(h:Rpo A r l):∃f,Lay A r l f:=by
 obtain⟨t,m⟩:=h.head
 have j:∀k,∃p,k∈l->k≠r->p∈l/\k∈suc A p/\l.idxOf p<l.idxOf k:=by
  intro k;by_cases b:k∈l/\k≠r
  .obtain⟨p,B,C,c,g,s⟩:=h.pred k b.1 b.2;refine⟨p,λ_ _=>⟨by rw[c];simp[g],s,?_⟩⟩;have d:k∉B:=λq=>by have:=h.nd;rw[c,WS]at this;exact this.2.2 k q k (by simp) rfl
   rw[c,W8,if_pos g,W8,if_neg d,List.idxOf_cons_self];have:=Ws.2 g;omega
  .exact⟨0,λn o=>absurd ⟨n,o⟩ b⟩
 refine⟨λk=>Classical.choose (j k),h.nd,by rw[m];simp,by rw[m];simp,h.mem,λk b e=>Classical.choose_spec (j k) b e⟩
structure Bst(U:Nat->Option Nat)(r:Nat)(l qs:List Nat)(best:Option Nat):Prop where
 no:best=none->∀p∈qs,p∈l->¬Hd r U p
 yes:∀c,best=some c->c∈l/\Hd r U c/\∀x,Ch U c x↔∀p∈qs,p∈l->Hd r U p->Ch U p x
theorem Bst.skip{U}{r}{l qs}{best}(h:Bst U r l qs best){p}(s:¬(p∈l/\Hd r U p)):Bst U r l (qs++[p]) best:=by
 have key:∀q,q∈qs++[p]->q∈l->Hd r U q->q∈qs:=by
  intro q b d e;rcases Wa.1 b with b|b
  .exact b
  .simp at b;subst b;exact absurd ⟨d,e⟩ s
 refine⟨λn q b d e=>h.no n q (key q b d e) d e,λc o=>?_⟩;obtain⟨d,e,m⟩:=h.yes c o;refine⟨d,e,λx=>(m x).trans ⟨λg q b j k=>g q (key q b j k) j k,λg q b=>g q (by simp[b])⟩⟩
theorem Bst.first{U}{r}{l qs}(h:Bst U r l qs none){p}(e:p∈l)(g:Hd r U p):Bst U r l (qs++[p]) (some p):=by
 refine⟨λm=>(by cases m),λc n=>?_⟩;cases n;refine⟨e,g,λx=>⟨λd q b j k=>?_,λd=>d p (by simp) e g⟩⟩;rcases Wa.1 b with b|b
 .exact absurd k (h.no rfl q b j)
 .simp at b;subst b;exact d
theorem Bst.more{U}{r}{l qs}{c d}(w:WT r l U)(h:Bst U r l qs (some c)){p}(o:p∈l)(s:Hd r U p)(hd:Nca U l r c p d):Bst U r l (qs++[p]) (some d):=by
 obtain⟨B,t,j⟩:=h.yes c rfl;obtain⟨k,g,m,n⟩:=hd;refine⟨λy=>(by cases y),λA z=>?_⟩;cases z;refine⟨k,w.held t g,λx=>⟨λe q b u v=>?_,λe=>n x ((j x).2 λq b=>e q (by simp[b])) (e p (by simp) o s)⟩⟩;rcases Wa.1 b with b|b
 .exact(j x).1 (g.trans e) q b u v
 .simp at b;subst b;exact m.trans e
theorem zFM{n k c:Nat}{T}:((outI n T).map cI).set k [.int .i64 (c:Int)]=(outI n (updF T k (some c))).map cI:=zHD (v:=some c)
theorem dF{p}(h:¬p){b:Decidable p}:@decide p b=false:=decide_eq_false h
theorem dT{p}(h:p){b:Decidable p}:@decide p b=true:=decide_eq_true h
theorem _root_.Go.Ab.uo:type_of% @zcl.eq_1:=@zcl.eq_1
theorem zqr(A:Adj)(hA:A.small)(hok:A.ok)(r:Nat)(hr:r<A.length):
  zS Z9 ze4 [encNN A,.int .i64 r] [] 0 (λv H nx=>∃T,DTree' A r (ordL A r) T/\v=.own 0 0 0 0 A.length/\H=[(0,.row 1 ((outI A.length T).map cI) 0)]/\nx=1):=by
 refine zaA (fn_x zqB rfl ?_);refine dcU zkN.eq_1 ?_;have hB:=hBig;have hn:=hA.len;refine Gw1 @ue ?_;intros;refine zd (λk:Nat=>([(0,encNN A),(1,.int .i64 r),(5,.ptr 0 0 0 0 0),(6,.ptr 1 0 0 0 0),(25,.int .i64 A.length),(26,.int .i64 k)],zcl A.length (negI A.length k) (negI A.length k))) 4 (λk=>k<=A.length) (λk=>A.length-k) 0 (Wg _) (Xd [(0,2,0),(1,4,0),(2,1,0),(3,3,0)] [] rfl (Gin4_3 @ue @uo @zxN) (Gin4_3 @ue @uo @zxN)) ?_;intro k hk wf;refine dcU zhT.eq_1 ?_;refine Gw2 @ue @uo ?_;intros;(refine zf (λh=>?_) (λh=>?_))<;>(try simp only[dcd]at h)
 ·(refine Gw3 @m9S @zI6 @zI3 ?_;intros);refine⟨?_,?_⟩<;>exact⟨by omega,⟨by omega,by omega⟩,by omega,k+1,by omega,by omega,(Xd [(0,0,0),(1,1,0),(2,2,0),(3,3,0)] [] rfl (Gin4_2 @ue @uo) (Gin4_2 @ue @uo))⟩
 .obtain rfl:k=A.length:=by omega
  refine dcU zh2.eq_1 ?_;refine Gw0 ?_;intros;refine ze (zc (zjq A hA hok r hr) rfl) ?_;have o:Rpo A r (ordL A r):=rpo hok hr;obtain⟨f,L⟩:=o.lay;generalize ordL A r=l at o L⊢;have F:=o.lt;have hll:l.length<=A.length:=NdL.len ⟨o.nd,F⟩;refine Gw1 @ub ?_;intros;refine zd (λj:Nat=>([(0,encNN A),(1,.int .i64 r),(5,.ptr 0 0 0 0 0),(6,.ptr 1 0 0 0 0),(8,zb l),(40,.int .i64 l.length),(41,.int .i64 j)],zcl A.length (outI A.length λ_=>none) (plcI A.length l j))) 4 (λj=>j<=l.length) (λj=>l.length-j) 0 (Wg _) (Xd [(0,0,0),(1,1,0),(2,2,0),(3,3,0)] [] rfl (by(try simp only[evWB,Xa,Xb,Xe,Xc,Xf,implies_true,encNN,zcl,<-zAV,<-zBe])<;>exact fin4) (by(try simp only[evWB,Xa,Xb,Xe,Xc,Xf,implies_true,encNN,zcl,<-zAV,<-zBe])<;>exact fin4)) ?_;intro j hj wf;refine dcU zh1.eq_1 ?_;refine Gw3 @ue @uo @ub ?_;intros;(refine zf (λh2=>?_) (λh2=>?_))<;>(try simp only[dcd]at h2)
  .have t:j<l.length:=by omega
   have hlj:=F _ (Wr t);have hps:=zIE (n:=A.length) o.nd t;refine Gw3 (gmp t) @zk9 hps ?_;intros;exact⟨j+1,by omega,by omega,(Xd [(0,0,0),(1,1,0),(2,2,0),(3,3,0)] [] rfl (Gin4_2 @ue @uo) (Gin4_2 @ue @uo))⟩
  .obtain rfl:j=l.length:=by omega
   unfold zhV;refine Gw0 ?_;intros;refine ze (zc (zmF A hA hok) rfl) ?_;have hbl:(zxm A).length=A.length:=zEv A;have hbs:∀k (h:k<(zxm A).length),(zxm A)[k]=tLL A A.length k:=λk h=>by simp[zxm]
   generalize zxm A=back at hbl hbs⊢;refine Gw0 ?_;intros
   refine zd (λs:Bool×(Nat->Option Nat)=>([(1,.int .i64 r),(5,.ptr 0 0 0 0 0),(6,.ptr 1 0 0 0 0),(8,zb l),(10,encNN back),(11,.fn (.func za2) [.ptr 1 0 0 0 0,.ptr 0 0 0 0 0]),(12,.bool s.1)],zcl A.length (outI A.length s.2) (plcI A.length l l.length))) 4
    (λs=>TI A r l f s.2/\(s.1=false->DTree' A r l s.2)) (λs=>if s.1 then far l s.2+1 else 0) (true,λ_=>none) ⟨⟨zDw,zKS,.inl rfl⟩,λh=>by cases h⟩ (Xd [(0,0,0),(1,1,0),(2,2,0),(3,3,0)] [] rfl (Gin4_2 @ue @uo) (Gin4_2 @ue @uo)) ?_
   rintro⟨ch,T⟩ ⟨hT,N⟩ wf;simp only at hT N;refine dcU zhW.eq_1 ?_;refine Gw3 @uo @ue @ub ?_;intros;(refine zf (λh3=>?_) (λh3=>?_))<;>(try simp only[dcd]at h3)
   .subst h3;refine Gw0 ?_;intros
    refine zd (λs:Nat×Bool×(Nat->Option Nat)=>([(1,.int .i64 r),(5,.ptr 0 0 0 0 0),(6,.ptr 1 0 0 0 0),(8,zb l),(10,encNN back),(11,.fn (.func za2) [.ptr 1 0 0 0 0,.ptr 0 0 0 0 0]),(12,.bool s.2.1),(56,zb l),(57,.int .i64 l.length),(58,.int .i64 s.1)],zcl A.length (outI A.length s.2.2) (plcI A.length l l.length))) 4
     (λs=>s.1<=l.length/\PassTo A r l T (max 1 s.1) s.2.2/\(s.2.1=true->∃v∈l,s.2.2 v≠T v)/\(s.2.1=false->s.2.2=T)) (λs=>l.length-s.1) (0,false,T) ⟨Wg _,PassTo.start L hT.wt,λh=>(by cases h),λ_=>rfl⟩ (Xd [(0,0,0),(1,1,0),(2,2,0),(3,3,0)] [] rfl (Gin4_2 @ue @uo) (Gin4_2 @ue @uo)) ?_
    rintro⟨j,cg,U⟩ ⟨hj2,J,W,X⟩ wf;simp only at hj2 J W X;refine dcU zhY.eq_1 ?_;refine Gw3 @uo @ue @ub ?_;intros;(refine zf (λh4=>?_) (λh4=>?_))<;>(try simp only[dcd]at h4)
    .have t:j<l.length:=by omega
     have hlj:=F _ (Wr t);have O:l[j]∈l:=Wr t;have C:l.idxOf l[j]=j:=o.nd.idxOf_getElem j t;refine Gw1 (gmp t) ?_;intros;generalize l[j]=k at hlj O C⊢;(refine zf (λh5=>?_) (λh5=>?_))<;>(try simp only[dcd]at h5)
     .have P:k=r:=by omega
      subst P;have hj0:j=0:=by rw[<-C];exact L.pl0
      subst hj0;refine dcU zcN.eq_1 ?_;refine Gw0 ?_;intros;exact⟨(1,cg,U),⟨by simp only;omega,J,W,X⟩,by simp only;omega,(Xd [(0,0,0),(1,1,0),(2,2,0),(3,3,0)] [] rfl (Gin4_2 @ue @uo) (Gin4_2 @ue @uo))⟩
     .have P:k≠r:=λe=>h5 (by rw[e])
      have hjpos:0<j:=by rw[<-C];exact L.pos O P
      rw[show max 1 j=j by omega]at J;have hkb:k<back.length:=by omega
      have Z:=hbs k hkb;have Q:∀p,p∈back[k]->p<A.length/\k∈suc A p:=λp w=>by rw[Z]at w;exact zFp.1 w
      have y:∀p,Pr A l p k->p∈back[k]:=λp w=>by rw[Z];exact zFp.2 ⟨F p w.1,w.2⟩
      refine Gw3 @ue (gmp hkb) @ub ?_;intros;have hpb:back[k].length<=4000000000:=by rw[Z];exact Wy (zvZ hA _ _) (by omega)
      generalize back[k]=R at Q y hpb⊢
      refine zd (λs:Nat×Option Nat=>([(1,.int .i64 r),(5,.ptr 0 0 0 0 0),(6,.ptr 1 0 0 0 0),(8,zb l),(10,encNN back),(11,.fn (.func za2) [.ptr 1 0 0 0 0,.ptr 0 0 0 0 0]),(12,.bool cg),(14,.int .i64 k),(15,.int .i64 (tI s.2)),(56,zb l),(57,.int .i64 l.length),(58,.int .i64 j),(68,zb R),(69,.int .i64 R.length),(70,.int .i64 s.1)],zcl A.length (outI A.length U) (plcI A.length l l.length))) 4
       (λs=>s.1<=R.length/\Bst U r l (R.take s.1) s.2) (λs=>R.length-s.1) (0,none) ⟨Wg _,⟨λ_ p w=>(by simp at w),λc hc=>(by cases hc)⟩⟩ (Xd [(0,0,0),(1,1,0),(2,2,0),(3,3,0)] [] rfl (by(try simp only[evWB,Xa,Xb,Xe,Xc,Xf,implies_true,encNN,zcl,tI])<;>exact fin4) (by(try simp only[evWB,Xa,Xb,Xe,Xc,Xf,implies_true,encNN,zcl,tI])<;>exact fin4)) ?_
      rintro⟨i,m⟩ ⟨hi,b⟩ wf;simp only at hi b;refine dcU zhN.eq_1 ?_;generalize g:tI m=bv;refine Gw3 @uo @ue @ub ?_;intros;(refine zf (λh6=>?_) (λh6=>?_))<;>(try simp only[dcd]at h6)
      .have hi':i<R.length:=by omega
       have w:=Q _ (Wr hi');have B:R.take (i+1)=R.take i++[R[i]]:=by rw[WM,Wk hi'];rfl
       refine Gw1 (gmp hi') ?_;intros;generalize R[i]=p at w B⊢
       (repeat first|simp(disch:=try exact dis1) only[evD,Xa,Xb,Xc,zk9,zv0 w.1]|with_reducible first|intro _|refine aJ ?_)
       by_cases q:p∈l
       .have hpi:=zkB q;rw[if_pos hpi];have hneg:¬((l.idxOf p:Int)<0):=by omega
        (repeat first|simp(disch:=try exact dis1) only[evD,Xa,Xb,Xc,decide_eq_false hneg]|with_reducible first|intro _|refine aJ ?_)
        generalize S:decide ((p:Int)≠r)=h7b;cases h7b<;>simp only[decide_eq_true_eq,decide_eq_false_iff_not,ne_eq,Classical.not_not]at S
        .have hpr:p=r:=by omega
         have Y:Hd r U p:=.inl hpr;refine Gw0 ?_;intros
         cases m with
         |none=>
          simp only[tI]at g;subst g
          (repeat first|simp(disch:=try exact dis1) only[evD,Xa,Xb,Xc,Xh,Xi]|with_reducible first|intro _|refine aJ ?_)
          exact⟨(i+1,some p),⟨by simp only;omega,by simp only;rw[B];exact b.first q Y⟩,by simp only;omega,(Xd [(0,0,0),(1,1,0),(2,2,0),(3,3,0)] [] rfl (by(try simp only[evWB,Xa,Xb,Xe,Xc,Xf,implies_true,encNN,zcl,tI])<;>exact fin4) (by(try simp only[evWB,Xa,Xb,Xe,Xc,Xf,implies_true,encNN,zcl,tI])<;>exact fin4))⟩
         |some c=>
          have hcn:¬((c:Int)<0):=by omega
          obtain⟨K,M,_⟩:=b.yes c rfl;simp only[tI]at g;subst g
          (repeat first|simp(disch:=try exact dis1) only[evD,Xa,Xb,Xc,decide_eq_false hcn]|with_reducible first|intro _|refine aJ ?_)
          refine⟨by kernel_rfl,?_⟩;refine zmV (D:=allR) (ziN L J.wt A.length F (by omega) c p K q M Y) (.cons (.int _ _ _) (.cons (.int _ _ _) (.cons (zr9 (l:=plcI A.length l l.length) trivial (by rw[zk9];rfl) trivial rfl (by rw[zk9];omega)) (.cons (zr9 (l:=outI A.length U) trivial (by rw[zgP];rfl) trivial rfl (by rw[zgP];omega)) .nil)))) (λa h=>.inl (by obtain⟨c,rfl,_⟩:=h;rfl)) ?_;rintro v ⟨d,rfl,hd⟩;refine Gw0 ?_;intros;exact⟨(i+1,some d),⟨by simp only;omega,by simp only;rw[B];exact b.more J.wt q Y hd⟩,by simp only;omega,(Xd [(0,0,0),(1,1,0),(2,2,0),(3,3,0)] [] rfl (by(try simp only[evWB,Xa,Xb,Xe,Xc,Xf,implies_true,encNN,zcl,tI])<;>exact fin4) (by(try simp only[evWB,Xa,Xb,Xe,Xc,Xf,implies_true,encNN,zcl,tI])<;>exact fin4))⟩
        .have hpr:p≠r:=λe=>S (by rw[e])
         (repeat first|simp(disch:=try exact dis1) only[evD,Xa,Xb,Xc,zgP,zr8 w.1]|with_reducible first|intro _|refine aJ ?_)
         generalize I:tI (U p)=ov
         cases V:U p with
         |none=>
          rw[V]at I;simp only[tI]at I;subst I;have hno:¬(p∈l/\Hd r U p):=λh=>(by rcases h.2 with h|h;exact hpr h;exact h V)
          (repeat first|simp(disch:=try exact dis1) only[evD,Xa,Xb,Xc,Xh,Xi]|with_reducible first|intro _|refine aJ ?_)
          subst g;exact⟨(i+1,m),⟨by simp only;omega,by simp only;rw[B];exact b.skip hno⟩,by simp only;omega,(Xd [(0,0,0),(1,1,0),(2,2,0),(3,3,0)] [] rfl (by(try simp only[evWB,Xa,Xb,Xe,Xc,Xf,implies_true,encNN,zcl,tI])<;>exact fin4) (by(try simp only[evWB,Xa,Xb,Xe,Xc,Xf,implies_true,encNN,zcl,tI])<;>exact fin4))⟩
         |some u=>
          have Y:Hd r U p:=.inr (by rw[V];simp);have hun:¬((u:Int)<0):=by omega
          rw[V]at I;simp only[tI]at I;subst I
          (repeat first|simp(disch:=try exact dis1) only[evD,Xa,Xb,Xc,decide_eq_false hun]|with_reducible first|intro _|refine aJ ?_)
          cases m with
          |none=>
           simp only[tI]at g;subst g
           (repeat first|simp(disch:=try exact dis1) only[evD,Xa,Xb,Xc,Xh,Xi]|with_reducible first|intro _|refine aJ ?_)
           exact⟨(i+1,some p),⟨by simp only;omega,by simp only;rw[B];exact b.first q Y⟩,by simp only;omega,(Xd [(0,0,0),(1,1,0),(2,2,0),(3,3,0)] [] rfl (by(try simp only[evWB,Xa,Xb,Xe,Xc,Xf,implies_true,encNN,zcl,tI])<;>exact fin4) (by(try simp only[evWB,Xa,Xb,Xe,Xc,Xf,implies_true,encNN,zcl,tI])<;>exact fin4))⟩
          |some c=>
           have hcn:¬((c:Int)<0):=by omega
           obtain⟨K,M,_⟩:=b.yes c rfl;simp only[tI]at g;subst g
           (repeat first|simp(disch:=try exact dis1) only[evD,Xa,Xb,Xc,decide_eq_false hcn]|with_reducible first|intro _|refine aJ ?_)
           refine⟨by kernel_rfl,?_⟩;refine zmV (D:=allR) (ziN L J.wt A.length F (by omega) c p K q M Y) (.cons (.int _ _ _) (.cons (.int _ _ _) (.cons (zr9 (l:=plcI A.length l l.length) trivial (by rw[zk9];rfl) trivial rfl (by rw[zk9];omega)) (.cons (zr9 (l:=outI A.length U) trivial (by rw[zgP];rfl) trivial rfl (by rw[zgP];omega)) .nil)))) (λa h=>.inl (by obtain⟨c,rfl,_⟩:=h;rfl)) ?_;rintro v ⟨d,rfl,hd⟩;refine Gw0 ?_;intros;exact⟨(i+1,some d),⟨by simp only;omega,by simp only;rw[B];exact b.more J.wt q Y hd⟩,by simp only;omega,(Xd [(0,0,0),(1,1,0),(2,2,0),(3,3,0)] [] rfl (by(try simp only[evWB,Xa,Xb,Xe,Xc,Xf,implies_true,encNN,zcl,tI])<;>exact fin4) (by(try simp only[evWB,Xa,Xb,Xe,Xc,Xf,implies_true,encNN,zcl,tI])<;>exact fin4))⟩
       .have hno:¬(p∈l/\Hd r U p):=λh=>q h.1
        have hpi:¬l.idxOf p<l.length:=λh=>q (Ws.1 h)
        rw[if_neg hpi]
        (repeat first|simp(disch:=try exact dis1) only[evD,Xa,Xb,Xc,Xh,Xi]|with_reducible first|intro _|refine aJ ?_)
        subst g;exact⟨(i+1,m),⟨by simp only;omega,by simp only;rw[B];exact b.skip hno⟩,by simp only;omega,(Xd [(0,0,0),(1,1,0),(2,2,0),(3,3,0)] [] rfl (by(try simp only[evWB,Xa,Xb,Xe,Xc,Xf,implies_true,encNN,zcl,tI])<;>exact fin4) (by(try simp only[evWB,Xa,Xb,Xe,Xc,Xf,implies_true,encNN,zcl,tI])<;>exact fin4))⟩
      .obtain rfl:i=R.length:=by omega
       rw[WA]at b;obtain⟨f1,f2,f3⟩:=L.fm k O P
       have hfU:Hd r U (f k):=by
        by_cases hfr:f k=r
        .exact .inl hfr
        .obtain⟨c,h,_⟩:=J.new (f k) f1 hfr (by omega);exact .inr (by rw[h];simp)
       cases m with
       |none=>exact absurd hfU (b.no rfl (f k) (y _ ⟨f1,f2⟩) f1)
       |some c=>
        simp only[tI]at g;subst g;obtain⟨b1,b2,b3⟩:=b.yes c rfl;have z:=J.step L hT.wt O P C (c:=c) (λx=>(b3 x).trans ⟨λh p w Y=>h p (y p w) w.1 Y,λh p w h8 h9=>h p ⟨h8,(Q p w).2⟩ h9⟩);have hTk:U k=T k:=J.old k (.inr (by omega));refine dcU zh0.eq_1 ?_
        (repeat first|simp(disch:=try exact dis1) only[evD,Xa,Xb,Xc,zcl,zgP,zr8 hlj]|with_reducible first|intro _|refine aJ ?_)
        (refine zf (λS=>?_) (λS=>?_))<;>(try simp only[dcd]at S)
        .have hck:some c≠U k:=λe=>S (by rw[<-e];rfl)
         refine dcU zcN.eq_1 ?_;refine Gw2 @zgP @zFM ?_;intros;exact⟨(j+1,true,updF U k (some c)),⟨by simp only;omega,by simp only;rw[show max 1 (j+1)=j+1 by omega];exact z,λ_=>⟨k,O,by simp only;rw[zg4,<-hTk];exact hck⟩,λh=>(by cases h)⟩,by simp only;omega,(Xd [(0,0,0),(1,1,0),(2,2,0),(3,3,0)] [] rfl (by(try simp only[evWB,Xa,Xb,Xe,Xc,Xf,implies_true,encNN,zcl,tI])<;>exact fin4) (by(try simp only[evWB,Xa,Xb,Xe,Xc,Xf,implies_true,encNN,zcl,tI])<;>exact fin4))⟩
        .have hck:U k=some c:=by
          cases hU:U k with
          |none=>rw[hU]at S;simp[tI]at S
          |some u=>rw[hU]at S;simp[tI]at S;rw[show u=c by omega]
         have hsame:updF U k (some c)=U:=by funext v;unfold updF;split;(rename_i h;rw[h,hck]);rfl
         rw[hsame]at z;refine dcU zcN.eq_1 ?_;refine Gw0 ?_;intros;exact⟨(j+1,cg,U),⟨by simp only;omega,by simp only;rw[show max 1 (j+1)=j+1 by omega];exact z,W,X⟩,by simp only;omega,(Xd [(0,0,0),(1,1,0),(2,2,0),(3,3,0)] [] rfl (by(try simp only[evWB,Xa,Xb,Xe,Xc,Xf,implies_true,encNN,zcl,tI])<;>exact fin4) (by(try simp only[evWB,Xa,Xb,Xe,Xc,Xf,implies_true,encNN,zcl,tI])<;>exact fin4))⟩
    .obtain rfl:j=l.length:=by omega
     have hlp:0<l.length:=W9 L.root;rw[show max 1 l.length=l.length by omega]at J;obtain⟨hg,hTI⟩:=hT.next L J;refine Gw0 ?_;intros
     cases cg with
     |true=>obtain⟨v,hv,hne⟩:=W rfl;have:=hg.far L hv hne;exact⟨(true,U),⟨hTI,λh=>(by cases h)⟩,by simp only[if_true];omega,(Xd [(0,0,0),(1,1,0),(2,2,0),(3,3,0)] [] rfl (Gin4_2 @ue @uo) (Gin4_2 @ue @uo))⟩
     |false=>have hU:=X rfl;subst hU;exact⟨(false,U),⟨hTI,λ_=>hg.done L hT.sd⟩,by simp,(Xd [(0,0,0),(1,1,0),(2,2,0),(3,3,0)] [] rfl (Gin4_2 @ue @uo) (Gin4_2 @ue @uo))⟩
   .subst h3;refine dcU zhO.eq_1 ?_;refine Gw1 @zkx.eq_1 ?_;intros;refine⟨.own 0 0 0 0 A.length,[(0,.row 1 ((outI A.length T).map cI) 0)],1,(Xd [(0,2,0)] [] rfl Gin4_0 Gin4_0),T,N rfl,rfl,rfl,rfl⟩
end Go.Ab.Dm
namespace Go.Ab.Dm
theorem nodup_sub_len:∀{l m:List Nat},l.Nodup->(∀x∈l,x∈m)->l.length<=m.length
 |[],_,_,_=>Wg _
 |
  a::l,m,h,hs=>by
  have c:=hs a (by simp);have b:=Wz.1 h;have:=nodup_sub_len (l:=l) (m:=m.erase a) b.2 (λx d=>(List.mem_erase_of_ne (λe=>b.1 (by rw[<-e];exact d))).2 (hs x (by simp[d])));rw[List.length_erase_of_mem c]at this;have:=W9 c;simp only[Waa];omega
theorem zty{S}{c}:∀(L:List Nat)(b:Int),(b = -1\/∃m:Nat,b=m/\(m≠c->(suc S m).length<(suc S c).length))->(c∈L\/b=c)->(∀a∈L,a≠c->(suc S a).length<(suc S c).length)->L.foldl (zdV S) b=c
 |
  [],b,_,h,_=>by
  rcases h with h|h
  .cases h
  .exact h
 |
  a::L,b,n,g,hl=>by
  rw[List.foldl_cons];by_cases d:a=c
  .subst d
   have e:zdV S b a=a:=by
    unfold zdV;rcases n with rfl|⟨m,rfl,p⟩
    .rw[if_pos (.inl (by omega))]
    .by_cases j:m=a
     .subst j;rw[if_neg (by rintro(h|h);omega;simp at h)]
     .rw[if_pos (.inr (by simpa using p j))]
   rw[e];exact zty L a (.inr ⟨a,rfl,λh=>absurd rfl h⟩) (.inr rfl) (λx k=>hl x (by simp[k]))
  .have o:=hl a (by simp) d;refine zty L _ ?_ ?_ (λx k=>hl x (by simp[k]))
   .unfold zdV;split
    .exact .inr ⟨a,rfl,λ_=>o⟩
    .exact n
   .rcases g with g|g
    .rcases Wf.1 g with h|h
     .exact absurd h.symm d
     .exact .inl h
    .subst g;right;unfold zdV;rw[if_neg (by rintro(h|h);omega;simp at h;omega)]
structure SL(A:Adj)(r:Nat)(l:List Nat)(inc:Bool)(S:Adj)(n:Nat):Prop where
 nd:∀b,b<n->(suc S b).Nodup
 mem:∀a b,b<n->(a∈suc S b↔(b∈l/\a∈l/\a≠b/\(a≠r\/inc=true)/\Dm A r a b))
theorem zD6{A:Adj}{r:Nat}{l:List Nat}{f:Nat->Nat}{T:Nat->Option Nat}{inc:Bool}{S:Adj}{n:Nat}(L:Lay A r l f)(D:DTree' A r l T)(h:SL A r l inc S n)(M:∀x∈l,(x≠r\/inc=true)->x<n){b:Nat}(H:b<n)(X:∀v,v∉l->T v=none):
  zxR S b=match T b with
   |none=> -1
   |some c=>if c≠r\/inc=true then c else -1:=by
 have g:(∀a,a∉suc S b)->zxR S b = -1:=λhe=>by unfold zxR;rw[List.eq_nil_iff_forall_not_mem.2 he];rfl
 cases N:T b with
 |none=>
  simp only;refine g λa t=>?_
  obtain⟨y,p,z,q,B⟩:=(h.mem a b H).1 t;rcases((D.ch b y a p).2 B).cases' with s|⟨j,s,_⟩
  .exact z s
  .rw[N]at s;cases s
 |some c=>
  obtain⟨I,d,hcp,_⟩:=D.wt.up b c N;have R:c≠b:=λe=>by subst e;omega
  have V:Dm A r c b:=(D.ch b I c d).1 (.up N (.refl _))
  have below:∀a,a∈suc S b->a∈l/\Ch T c a:=by
   intro a t;obtain⟨y,p,z,q,B⟩:=(h.mem a b H).1 t;rcases((D.ch b y a p).2 B).cases' with s|⟨j,s,P⟩
   .exact absurd s z
   .rw[N]at s;cases s;exact⟨p,P⟩
  simp only;by_cases o:c≠r\/inc=true
  .rw[if_pos o];have Q:c∈suc S b:=(h.mem c b H).2 ⟨I,d,R,o,V⟩;refine zty _ _ (.inl rfl) (.inl Q) λa t C=>?_
   obtain⟨y,p,z,q,B⟩:=(h.mem a b H).1 t;obtain⟨_,k⟩:=below a t;have w:=M a p q;have J:=M c d o
   have hlt:l.idxOf a<l.idxOf c:=by
    obtain⟨_,s,P⟩:=D.wt.mem L.root d k;rcases Nat.lt_or_ge (l.idxOf a) (l.idxOf c)with Z|Z
    .exact Z
    .exact absurd (P (by omega)) C
   have K:Dm A r a c:=(D.ch c d a p).1 k;have u:a∉suc S a:=λW=>((h.mem a a w).1 W).2.2.1 rfl
   have:=nodup_sub_len (l:=a::suc S a) (m:=suc S c) (Wz.2 ⟨u,h.nd a w⟩) (λx Y=>by
    rcases Wf.1 Y with rfl|Y
    .exact(h.mem x c J).2 ⟨d,p,C,q,K⟩
    .obtain⟨g1,O,g3,g4,g5⟩:=(h.mem x a w).1 Y;have F:=(D.ch a p x O).2 g5;have hxa:=(D.wt.mem L.root p F).2.1
     exact(h.mem x c J).2 ⟨d,O,λe=>by subst e;omega,g4,(D.ch c d x O).1 (k.trans F)⟩)
   simp only[Waa]at this;exact this
  .rw[if_neg o];have U:c=r:=Classical.byContradiction λW=>o (.inl W)
   refine g λa t=>?_
   obtain⟨y,p,z,q,B⟩:=(h.mem a b H).1 t;obtain⟨_,k⟩:=below a t;rw[U]at k;have:=D.wt.root_ch k;rcases q with q|q
   .exact q this
   .exact o (.inr q)
theorem mem_ordL{A}(b:A.ok){r}(c:r<A.length){x}:x∈ordL A r↔RA A (λ_=>False) r x:=(rpo b c).mem x
theorem DTree'.out{A}{r}{l}{T}(D:DTree' A r l T){v}(h:v∉l):T v=none:=by
 cases b:T v with
 |none=>rfl
 |some c=>exact absurd (D.wt.up v c b).1 h
theorem treeL_eq{E}(g:E.ok)(h:0<E.length){T}(D:DTree' E 0 (ordL E 0) T):outI E.length T=treeL E:=by
 obtain⟨f,L⟩:=(rpo g h).lay;have d:∀x∈ordL E 0,x<E.length:=(rpo g h).lt
 have s:SL E 0 (ordL E 0) true (zdy E) E.length:=by
  refine⟨λb j=>?_,λa b j=>?_⟩
  .rw[ztE j];exact List.Pairwise.filter _ List.nodup_range
  .rw[ztE j,Wj,Ww,zFq g h,mem_ordL g h,mem_ordL g h];constructor
   .rintro⟨o,k,m,p⟩;exact⟨k,zA9 k p,λe=>m e.symm,.inr rfl,p⟩
   .rintro⟨o,k,m,_,q⟩;exact⟨d a ((mem_ordL g h).2 k),o,λe=>m e.symm,q⟩
 unfold outI treeL;refine Wd λb j=>?_
 have n:=Ww.1 j;rw[zD6 L D s (λx u _=>d x u) n (λv t=>D.out t)]
 cases T b with
 |none=>rfl
 |some c=>simp[tI]
end Go.Ab.Dm
namespace Go.Ab
open Go.RowKit Go.Proofs
inductive Ev(st:List PSt)(cs:List Int):Nat->Nat->Nat->RR->Prop
 |stop {a j:Nat}{s:PSt}:st[a]?=some s->s.kind=2->Ev st cs 0 a j .stop
 |vis {a j:Nat}{s:PSt}:st[a]?=some s->s.kind=0->Ev st cs 0 a j (.visit s.block (a+1) j)
 |jmp {n a j:Nat}{s:PSt}{t:Int}{r:RR}:st[a]?=some s->s.kind=1->s.to=some [t]->s.block ≠ -1->Ev st cs n t.toNat j r->Ev st cs (n+1) a j r
 |pick {n a j:Nat}{s:PSt}{l:List Int}{r:RR}:st[a]?=some s->s.kind=1->s.to=some l->¬(l.length=1/\s.block ≠ -1)->Ev st cs n (l.getD (pickV cs j l.length).1.toNat 0).toNat (pickJ cs j) r->Ev st cs (n+1) a j r
section
variable {st:List PSt}{cs:List Int}
inductive Goes(st:List PSt):Nat->Nat->Prop
 |refl (a:Nat):Goes st a a
 |step {a b:Nat}{s:PSt}{t:Int}:st[a]?=some s->s.kind=1->s.to=some [t]->s.block ≠ -1->Goes st t.toNat b->Goes st a b
end
structure Ctx where
 f:Int
 h:Int
 x:Int
structure Shp where
 kids:Nat->List Nat
 cnt:Nat->Nat
 head:Nat->Bool
 inB:Nat->Nat->Bool
 last:Nat->St
 one:Nat->Bool
def nSeq(l:List Nd):Nd:=.mk ⟨1,0,0⟩ [] l
def zaq(k b t:Int):Nd:=.mk ⟨k,b,t⟩ [] []
def zap(l:List Nat)(c:Ctx):Ctx:=match l with
 |[]=>c
 |t::_=>⟨t,c.h,c.x⟩
def zj6(S:Shp)(k:Nat):List Nat->List Nat->List Nat
 |[],out=>out
 |x::l,out=>if !S.inB k x&&(out.isEmpty||decide (S.cnt x≠1))then zj6 S k l (out++[x])else zj6 S k l out
def beyL(S:Shp)(k:Nat):List Nat:=if S.head k then zj6 S k (S.kids k) []else[]
def zk4(S:Shp)(k:Nat):List Nat:=(S.kids k).filter λx=>decide (x∉beyL S k)
def zJ(S:Shp)(k:Nat):List Nat:=(zk4 S k).filter λx=>decide (S.cnt x≠1)
def inlL(S:Shp)(k:Nat):List Nat:=(zk4 S k).filter λx=>decide (S.cnt x=1)
def zgH(c:Ctx)(t:Int):Nd:=if t=c.f then nSeq []else if t=c.h then zaq 8 0 0 else if t=c.x then zaq 7 0 0 else zaq 9 0 t
def wayN(S:Shp)(code:Nat->Ctx->Nd)(k:Nat)(c:Ctx)(t:Int):Nd:=if t.toNat∈inlL S k then code t.toNat c else zgH c t
def trN(S:Shp)(code:Nat->Ctx->Nd)(k:Nat)(c:Ctx):Nd :=
 if (S.last k).op=6 then wayN S code k c (S.last k).next
 else if (S.last k).op=7 then .mk ⟨3,0,0⟩ (S.last k).e [wayN S code k c (S.last k).next,wayN S code k c (S.last k).els]
 else if (S.last k).op=8 then .mk ⟨6,0,0⟩ (S.last k).e ((S.last k).cases.map (wayN S code k c))
 else if (S.last k).op=9 then zaq 11 0 0 else zaq 12 0 0
def zah(code:Nat->Ctx->Nd)(c:Ctx):List Nat->List Nd
 |[]=>[]
 |k::l=>code k (zap l c)::zah code c l
def isWh(n:Nd):Bool:=decide (n.f.kind=3)&&(match n.l with
 |[a,b]=>decide (b.f.kind=7)&&decide (a.f.kind≠7)
 |_=>false)
def hd0(n:Nd):Nd:=n.l.getD 0 (nSeq [])
def inC(S:Shp)(k:Nat)(c:Ctx):Ctx:=⟨k,k,(zap (beyL S k) c).f⟩
def zsy(S:Shp)(code:Nat->Ctx->Nd)(k:Nat)(c:Ctx):Nd :=
 if S.one k&&isWh (trN S code k (zap (zJ S k) (inC S k c)))then .mk ⟨5,k,0⟩ (trN S code k (zap (zJ S k) (inC S k c))).cond [nSeq (hd0 (trN S code k (zap (zJ S k) (inC S k c)))::zah code (inC S k c) (zJ S k))]
 else .mk ⟨4,0,0⟩ [] [nSeq (zaq 2 k 0::trN S code k (zap (zJ S k) (inC S k c))::zah code (inC S k c) (zJ S k))]
def zex(S:Shp):Nat->Nat->Ctx->Nd
 |0,_,_=>nSeq []
 |
  f+1,k,c=>if S.head k then nSeq (zaq 10 0 k::zsy S (zex S f) k c::zah (zex S f) c (beyL S k))
  else nSeq (zaq 10 0 k::zaq 2 k 0::trN S (zex S f) k (zap (zJ S k) c)::zah (zex S f) c (zJ S k))
mutual
def wN(w:NdF->List Ex->Nat):Nd->Nat
 |.mk f c l=>w f c+wNs w l
def wNs(w:NdF->List Ex->Nat):List Nd->Nat
 |[]=>0
 |n::l=>wN w n+wNs w l
end
theorem zEY{α:Type}(w:NdF->List Ex->Nat)(f:α->Nd):∀l:List α,wNs w (l.map f)=(l.map λx=>wN w (f x)).sum
 |[]=>by simp[wNs]
 |n::a=>by rw[Wm,wNs,zEY w f a];simp
def tgS(s:St):List Int:=if s.op=6 then[s.next]else if s.op=7 then[s.next,s.els]else if s.op=8 then s.cases else[]
structure Tr(S:Shp)(R:List Nat)(T:Nat->Option Nat):Prop where
 nd:R.Nodup
 kid:∀k t,t∈S.kids k↔t∈R/\T t=some k
 kn:∀k,(S.kids k).Nodup
 down:∀k t,k∈R->t∈R->T t=some k->R.idxOf k<R.idxOf t
 tg:∀k∈R,∀t∈tgS (S.last k),∃u∈R,t=(u:Nat)
 cnt:∀t,S.cnt t=((R.map λk=>(tgS (S.last k)).count (t:Int)).sum)
 dom:∀k∈R,∀t:Nat,T t≠none->(t:Int)∈tgS (S.last k)->S.cnt t=1->T t=some k
 pred:∀t∈R,∀k,T t=some k->k∈R/\∃j∈R,(t:Int)∈tgS (S.last j)
section
variable {S:Shp}{R:List Nat}{T:Nat->Option Nat}
theorem zp2{k:Nat}:∀(l out:List Nat),∀x∈zj6 S k l out,x∈out\/x∈l
 |[],out,x,h=>.inl h
 |
  y::l,out,x,h=>by
  unfold zj6 at h;split at h
  .rcases zp2 l _ x h with h|h
   .rcases Wa.1 h with h|h
    .exact .inl h
    .exact .inr (by rw[Wn.1 h];exact Wt)
   .exact .inr (Wi _ h)
  .rcases zp2 l _ x h with h|h
   .exact .inl h
   .exact .inr (Wi _ h)
theorem zoz{k:Nat}:∀(l out:List Nat),out.Nodup->l.Nodup->(∀x∈out,x∉l)->(zj6 S k l out).Nodup
 |[],out,h,_,_=>h
 |
  y::l,out,h,h2,h3=>by
  have c:=Wz.1 h2;unfold zj6;split
  .refine zoz l _ ?_ c.2 ?_
   .rw[WS];refine⟨h,by simp,λa g b j=>?_⟩;rw[Wn.1 j];rintro rfl;exact h3 a g Wt
   .intro x d e;rcases Wa.1 d with d|d
    .exact h3 x d (Wi _ e)
    .rw[Wn.1 d]at e;exact c.1 e
  .exact zoz l _ h c.2 λx d e=>h3 x d (Wi _ e)
theorem zsa{k x:Nat}(h:x∈beyL S k):x∈S.kids k:=by
 unfold beyL at h;split at h
 .rcases zp2 _ _ x h with h|h
  .cases h
  .exact h
 .cases h
theorem zDK(D:Tr S R T){k:Nat}:(beyL S k).Nodup:=by
 unfold beyL;split
 .exact zoz _ _ WD (D.kn k) (λx h=>by cases h)
 .exact WD
theorem zw3{k x:Nat}:x∈zk4 S k↔x∈S.kids k/\x∉beyL S k:=by unfold zk4;rw[Wj];simp
theorem zs7{k x:Nat}:x∈inlL S k↔x∈S.kids k/\x∉beyL S k/\S.cnt x=1:=by unfold inlL;rw[Wj,zw3];simp[and_assoc]
theorem zqG{k x:Nat}:x∈zJ S k↔x∈S.kids k/\x∉beyL S k/\S.cnt x≠1:=by unfold zJ;rw[Wj,zw3];simp[and_assoc]
theorem zDf(D:Tr S R T){k:Nat}:(zk4 S k).Nodup:=(D.kn k).filter _
theorem zp6{α:Type}(p:α->Bool)(g:α->Nat):∀l:List α,(l.map g).sum=((l.filter p).map g).sum+((l.filter λx=> !p x).map g).sum
 |[]=>rfl
 |
  a::l=>by
  have:=zp6 p g l;rw[Wab,Wab];cases b:p a<;>simp[b]<;>omega
theorem zvM{α:Type}(g:α->Nat){a b:List α}(h:a.Perm b):(a.map g).sum=(b.map g).sum:=by
 induction h with
 |nil=>rfl
 |cons x _ e=>simp[e]
 |swap x y l=>simp;omega
 |trans _ _ c d=>rw[c,d]
theorem zuM{a b:List Nat}(e:a.Nodup)(g:b.Nodup)(h:∀x,x∈a↔x∈b):a.Perm b:=by
 rw[Wac];intro x;by_cases c:x∈a
 .rw[e.count,g.count,if_pos c,if_pos ((h x).1 c)]
 .rw[WE c,WE λd=>c ((h x).2 d)]
theorem zI0(D:Tr S R T)(k:Nat)(g:Nat->Nat):((S.kids k).map g).sum=((beyL S k).map g).sum+(((zJ S k).map g).sum+((inlL S k).map g).sum):=by
 rw[zp6 (λx=>decide (x∈beyL S k)) g (S.kids k),zp6 (λx=>decide (S.cnt x≠1)) g ((S.kids k).filter λx=> !decide (x∈beyL S k))];have b:(S.kids k).filter (λx=> !decide (x∈beyL S k))=zk4 S k:=by unfold zk4;exact Wad λx _=>by by_cases h:x∈beyL S k<;>simp[h]
 rw[b];congr 1
 .refine zvM g (zuM ((D.kn k).filter _) (zDK D) λx=>?_);rw[Wj];simp only[decide_eq_true_eq];exact⟨λh=>h.2,λh=>⟨zsa h,h⟩⟩
 .congr 1;unfold inlL;rw[Wad λx _=>show(!decide (S.cnt x≠1))=decide (S.cnt x=1) by by_cases h:S.cnt x=1<;>simp[h]]
def trW(w:NdF->List Ex->Nat)(S:Shp)(k:Nat)(c:Ctx):Nat :=
 (if (S.last k).op=6 then 0 else if (S.last k).op=7 then w ⟨3,0,0⟩ (S.last k).e else if (S.last k).op=8 then w ⟨6,0,0⟩ (S.last k).e else if (S.last k).op=9 then w ⟨11,0,0⟩ []else w ⟨12,0,0⟩ [])
 + (((tgS (S.last k)).filter λt=> !decide (t.toNat∈inlL S k)).map λt=>wN w (zgH c t)).sum
theorem ztq{α:Type}(g:α->Nat):∀{l:List α}{a:α},a∈l->g a<=(l.map g).sum
 |
  x::l,a,h=>by
  rw[Wm,Wq];rcases Wf.1 h with rfl|h
  .omega
  .have:=ztq g h;omega
theorem zHh(D:Tr S R T){k:Nat}(o:k∈R){t:Nat}(p:t∈inlL S k):(tgS (S.last k)).count (t:Int)=1:=by obtain⟨g,q,c⟩:=zs7.1 p;obtain⟨h,b⟩:=(D.kid k t).1 g;obtain⟨_,j,n,d⟩:=D.pred t h k b;have e:=D.dom j n t (by rw[b];simp) d c;rw[b]at e;cases e;have s:=WR.2 d;have m:=ztq (λk=>(tgS (S.last k)).count (t:Int)) o;rw[<-D.cnt,c]at m;omega
theorem zII(D:Tr S R T){k:Nat}(d:k∈R):(((tgS (S.last k)).filter λt=>decide (t.toNat∈inlL S k)).map Xl).Perm (inlL S k):=by
 rw[Wac];intro x;by_cases b:x∈inlL S k
 .have c:=zHh D d b;have e:(inlL S k).Nodup:=(zDf D).filter _;rw[e.count,if_pos b]
  have g:(((tgS (S.last k)).filter λt=>decide (t.toNat∈inlL S k)).map Xl).count x=(tgS (S.last k)).count (x:Int):=by
   rw[WN,List.countP_map,List.countP_filter,WN];refine List.countP_congr λt j=>?_
   obtain⟨u,m,rfl⟩:=D.tg k d t j;simp only[Wo,Int.toNat_natCast,Wu,beq_iff_eq,decide_eq_true_eq];constructor
   .rintro⟨rfl,_⟩;rfl
   .intro h;have:u=x:=by omega
    subst this;exact⟨rfl,b⟩
  rw[g,c]
 .rw[WE b,WE];intro h;obtain⟨t,c,rfl⟩:=Wx.1 h;exact b (of_decide_eq_true (Wj.1 c).2)
theorem zqp(w:NdF->List Ex->Nat)(k b t:Int):wN w (zaq k b t)=w ⟨k,b,t⟩ []:=by rw[zaq,wN,wNs,Xk]
theorem ways_w(D:Tr S R T)(w:NdF->List Ex->Nat)(code:Nat->Ctx->Nd){k:Nat}(e:k∈R)(c:Ctx):
  ((tgS (S.last k)).map λt=>wN w (wayN S code k c t)).sum=(((tgS (S.last k)).filter λt=> !decide (t.toNat∈inlL S k)).map λt=>wN w (zgH c t)).sum+((inlL S k).map λt=>wN w (code t c)).sum:=by
 rw[zp6 (λt=>decide (t.toNat∈inlL S k)),Nat.add_comm];congr 1
 .congr 1;refine Wd λt d=>?_
  have b:=(Wj.1 d).2;simp only[Bool.not_eq_true',decide_eq_false_iff_not]at b;rw[wayN,if_neg b]
 .rw[<-zvM _ (zII D e),Wc];congr 1;refine Wd λt d=>?_
  have b:=of_decide_eq_true (Wj.1 d).2;rw[wayN,if_pos b];rfl
theorem trN_w(D:Tr S R T)(w:NdF->List Ex->Nat)(code:Nat->Ctx->Nd){k:Nat}(h:k∈R)(c:Ctx):
  wN w (trN S code k c)=trW w S k c+((inlL S k).map λt=>wN w (code t c)).sum:=by
 have b:=ways_w D w code h c;unfold trN trW;unfold tgS at b⊢;by_cases d:(S.last k).op=6
 .simp only[if_pos d]at b⊢;simp only[Wm,WF,Wq,WG]at b⊢;omega
 simp only[if_neg d]at b⊢;by_cases e:(S.last k).op=7
 .simp only[if_pos e]at b⊢;simp only[Wm,WF,Wq,WG]at b⊢;simp only[wN,wNs];omega
 simp only[if_neg e]at b⊢;by_cases g:(S.last k).op=8
 .simp only[if_pos g]at b⊢;rw[wN,zEY];omega
 simp only[if_neg g]at b⊢;simp only[WF,WG,List.filter_nil]at b⊢;split<;>rw[zqp]<;>omega
def subT(S:Shp):Nat->Nat->List Nat
 |0,_=>[]
 |f+1,k=>k::(S.kids k).flatMap (subT S f)
def OwnP(w:NdF->List Ex->Nat)(S:Shp)(x v:Nat):Prop:=∃c0:Ctx,
 (S.head x=false/\v=w ⟨1,0,0⟩ []+w ⟨10,0,x⟩ []+w ⟨2,x,0⟩ []+trW w S x (zap (zJ S x) c0)) \/
 (S.head x=true/\v=w ⟨1,0,0⟩ []+w ⟨10,0,x⟩ []+w ⟨4,0,0⟩ []+w ⟨1,0,0⟩ []+w ⟨2,x,0⟩ []+trW w S x (zap (zJ S x) (inC S x c0))) \/
 (S.head x=true/\S.one x=true/\(S.last x).op=7/\v+w ⟨3,0,0⟩ (S.last x).e+w ⟨7,0,0⟩ []=w ⟨1,0,0⟩ []+w ⟨10,0,x⟩ []+w ⟨5,x,0⟩ (S.last x).e+w ⟨1,0,0⟩ []+trW w S x (zap (zJ S x) (inC S x c0)))
theorem zuV(c:Ctx)(t:Int):(zgH c t).f.kind=1\/(zgH c t).f.kind=7\/(zgH c t).f.kind=8\/(zgH c t).f.kind=9:=by
 unfold zgH;split
 .exact .inl rfl
 split
 .exact .inr (.inr (.inl rfl))
 split
 .exact .inr (.inl rfl)
 .exact .inr (.inr (.inr rfl))
theorem zEi{c:Ctx}{t:Int}(h:(zgH c t).f.kind=7):zgH c t=zaq 7 0 0:=by
 unfold zgH at h⊢;split
 .rename_i b;rw[if_pos b]at h;cases h
 .rename_i b;rw[if_neg b]at h;split
  .rename_i d;rw[if_pos d]at h;cases h
  .rename_i d;rw[if_neg d]at h;split
   .rfl
   .rename_i e;rw[if_neg e]at h;cases h
theorem zkE(f k:Nat)(c:Ctx):(zex S f k c).f.kind=1:=by
 cases f with
 |zero=>rfl
 |succ f=>unfold zex;split<;>rfl
theorem zDD{code:Nat->Ctx->Nd}(p:∀k c,(code k c).f.kind=1){k:Nat}{c:Ctx}(h:isWh (trN S code k c)=true):
  (S.last k).op=7/\trN S code k c=.mk ⟨3,0,0⟩ (S.last k).e [wayN S code k c (S.last k).next,zaq 7 0 0]/\wayN S code k c (S.last k).els=zaq 7 0 0/\(wayN S code k c (S.last k).next).f.kind≠7:=by
 have g:∀t,(wayN S code k c t).f.kind=7->wayN S code k c t=zaq 7 0 0:=λt b=>by
  unfold wayN at b⊢;split
  .rename_i j;rw[if_pos j,p]at b;cases b
  .rename_i j;rw[if_neg j]at b;exact zEi b
 have d:∀t,(wayN S code k c t).f.kind≠3:=λt b=>by
  unfold wayN at b;split at b
  .rw[p]at b;cases b
  .have:=zuV c t;omega
 unfold trN at h⊢;by_cases o:(S.last k).op=6
 .rw[if_pos o]at h;unfold isWh at h;rw[decide_eq_false (d _),Bool.false_and]at h;cases h
 rw[if_neg o]at h⊢;by_cases m:(S.last k).op=7
 .rw[if_pos m]at h⊢;have n:(decide ((3:Int)=3)&&(decide ((wayN S code k c (S.last k).els).f.kind=7)&&decide ((wayN S code k c (S.last k).next).f.kind≠7)))=true:=h;rw[Wu,Wu,decide_eq_true_eq,decide_eq_true_eq]at n;replace h:=n.2;have e:=g _ h.1;exact⟨m,by rw[e],e,of_decide_eq_true h.2⟩
 rw[if_neg m]at h;exfalso;split at h
 .unfold isWh at h;simp[Nd.f]at h
 .split at h<;>(unfold isWh zaq at h;simp[Nd.f]at h)
theorem trW_ge(w:NdF->List Ex->Nat){code:Nat->Ctx->Nd}(n:∀k c,(code k c).f.kind=1){k:Nat}{c:Ctx}(j:(S.last k).op=7)(b:wayN S code k c (S.last k).els=zaq 7 0 0):
  w ⟨3,0,0⟩ (S.last k).e+w ⟨7,0,0⟩ []<=trW w S k c:=by
 have d:¬(S.last k).els.toNat∈inlL S k:=λh=>by rw[wayN,if_pos h]at b;have:=n (S.last k).els.toNat c;rw[b]at this;cases this
 rw[wayN,if_neg d]at b;unfold trW;rw[if_neg (by omega),if_pos j];refine Nat.add_le_add_left ?_ _;have m:(S.last k).els∈(tgS (S.last k)).filter λt=> !decide (t.toNat∈inlL S k):=by rw[Wj];refine⟨?_,by simp[d]⟩;unfold tgS;rw[if_neg (by omega),if_pos j];simp
 have g:=ztq (λt=>wN w (zgH c t)) m;rw[b,zqp]at g;exact g
section
variable (w:NdF->List Ex->Nat) (own:Nat->Nat) (r:Nat->Nat->Prop) (hadd:∀a b c d,r a b->r c d->r (a+c) (b+d)) (h0:r 0 0)
include hadd h0
theorem zFJ{α:Type}{g h:α->Nat}:∀{l:List α},(∀x∈l,r (g x) (h x))->r (l.map g).sum (l.map h).sum
 |[],_=>h0
 |
  a::l,hh=>by
  rw[Wm,Wm,Wq,Wq];exact hadd _ _ _ _ (hh a Wt) (zFJ λx e=>hh x (Wi _ e))
theorem zy5{code:Nat->Ctx->Nd}{s:Nat->Nat}:∀{l:List Nat}(c:Ctx),(∀x∈l,∀c,r (wN w (code x c)) (s x))->r (wNs w (zah code c l)) (l.map s).sum
 |[],_,_=>h0
 |
  a::l,c,hh=>by
  rw[zah,wNs,Wm,Wq];exact hadd _ _ _ _ (hh a Wt _) (zy5 c λx e=>hh x (Wi _ e))
theorem zJq(D:Tr S R T)(j:∀x∈R,∀v,OwnP w S x v->r v (own x)):∀(f k:Nat)(c:Ctx),k∈R->R.length<=f+R.idxOf k->r (wN w (zex S f k c)) ((subT S f k).map own).sum
 |
  0,k,c,hk,hf=>by
  have:=Ws.2 hk;omega
 |
  f+1,k,c,hk,hf=>by
  have z:∀x∈S.kids k,∀c,r (wN w (zex S f x c)) ((subT S f x).map own).sum:=λx p c=>by obtain⟨n,m⟩:=(D.kid k x).1 p;have:=D.down k x hk n m;exact zJq D j f x c n (by omega)
  have A:=λc=>zy5 w r hadd h0 (code:=zex S f) (s:=λx=>((subT S f x).map own).sum) (l:=beyL S k) c λx p=>z x (zsa p)
  have I:=λc=>zy5 w r hadd h0 (code:=zex S f) (s:=λx=>((subT S f x).map own).sum) (l:=zJ S k) c λx p=>z x (zqG.1 p).1
  have F:=λc=>zFJ r hadd h0 (g:=λt=>wN w (zex S f t c)) (h:=λx=>((subT S f x).map own).sum) (l:=inlL S k) λx p=>z x (zs7.1 p).1 c
  have H:=zI0 D k λx=>((subT S f x).map own).sum
  have u:((subT S (f+1) k).map own).sum=own k+((S.kids k).map λx=>((subT S f x).map own).sum).sum:=by
   rw[subT,Wm,Wq,List.map_flatMap];congr 1
   induction S.kids k with
   |nil=>rfl
   |cons a l z=>rw[Wae,List.sum_append,z,Wm,Wq]
  rw[u,H,zex];by_cases q:S.head k=true
  .rw[if_pos q];have o:=trN_w D w (zex S f) hk (zap (zJ S k) (inC S k c));simp only[nSeq,wN,wNs,zqp];unfold zsy;by_cases y:(S.one k&&isWh (trN S (zex S f) k (zap (zJ S k) (inC S k c))))=true
   .rw[if_pos y];rw[Wu]at y;obtain⟨J,L,M,N⟩:=zDD (zkE f) y.2;rw[L]at o⊢;simp only[Nd.cond,hd0,Nd.l,WP,nSeq,wN,wNs,zqp]at o⊢;have K:=trW_ge w (zkE f) J M;have n:=j k hk (w ⟨1,0,0⟩ []+w ⟨10,0,k⟩ []+w ⟨5,k,0⟩ (S.last k).e+w ⟨1,0,0⟩ []+trW w S k (zap (zJ S k) (inC S k c))-w ⟨3,0,0⟩ (S.last k).e-w ⟨7,0,0⟩ []) ⟨c,.inr (.inr ⟨q,y.1,J,by omega⟩)⟩;have m:=hadd _ _ _ _ n (hadd _ _ _ _ (A c) (hadd _ _ _ _ (I (inC S k c)) (F (zap (zJ S k) (inC S k c)))));refine(congrArg (λa=>r a _) ?_).mp m;omega
   .rw[if_neg y];have n:=j k hk _ ⟨c,.inr (.inl ⟨q,rfl⟩)⟩;have m:=hadd _ _ _ _ n (hadd _ _ _ _ (A c) (hadd _ _ _ _ (I (inC S k c)) (F (zap (zJ S k) (inC S k c)))));simp only[nSeq,wN,wNs,zqp];refine(congrArg (λa=>r a _) ?_).mp m;omega
  .rw[if_neg q];have C:S.head k=false:=Waf.2 q;have o:=trN_w D w (zex S f) hk (zap (zJ S k) c);have n:=j k hk _ ⟨c,.inl ⟨C,rfl⟩⟩;have m:=hadd _ _ _ _ n (hadd _ _ _ _ (A c) (hadd _ _ _ _ (I c) (F (zap (zJ S k) c))));have B:beyL S k=[]:=by unfold beyL;rw[if_neg q]
   rw[B]at m⊢;simp only[zah,wNs,WF,WG,nSeq,wN,zqp]at m⊢;refine(congrArg (λa=>r a _) ?_).mp m;omega
end
end
structure Top(R:List Nat)(T:Nat->Option Nat):Prop where
 zero:0∈R
 first:R.idxOf 0=0
 root:T 0=none
 held:∀k∈R,k≠0->T k≠none
section
variable {S:Shp}{R:List Nat}{T:Nat->Option Nat}
theorem zET(D:Tr S R T){x y:Nat}(h:Dm.Ch T x y):x∈R->y∈R/\R.idxOf y<=R.idxOf x:=by
 induction h with
 |refl k=>exact λe=>⟨e,Wp _⟩
 |@up k j x h1 _ ih=>intro c;obtain⟨b,_⟩:=D.pred k c j h1;have g:=D.down j k b c h1;obtain⟨d,m⟩:=ih b;exact⟨d,by omega⟩
theorem zK8{x k:Nat}(h:Dm.Ch T x k):x=k\/∃t,Dm.Ch T x t/\T t=some k:=by
 induction h with
 |refl k=>exact .inl rfl
 |@up a j x b h2 e=>
  rcases e with rfl|⟨t,c,d⟩
  .exact .inr ⟨a,.refl a,b⟩
  .exact .inr ⟨t,.up b c,d⟩
theorem zpK(D:Tr S R T):∀(f k x:Nat),k∈R->R.length<=f+R.idxOf k->(x∈subT S f k↔x∈R/\Dm.Ch T x k)
 |
  0,k,x,e,hf=>by
  have:=Ws.2 e;omega
 |
  f+1,k,x,e,hf=>by
  rw[subT,Wf,WC];have j:∀t∈S.kids k,(x∈subT S f t↔x∈R/\Dm.Ch T x t):=λt m=>by obtain⟨b,c⟩:=(D.kid k t).1 m;have:=D.down k t e b c;exact zpK D f t x b (by omega)
  constructor
  .rintro(rfl|⟨t,b,c⟩)
   .exact⟨e,.refl _⟩
   .obtain⟨d,g⟩:=(j t b).1 c;exact⟨d,g.trans (.up ((D.kid k t).1 b).2 (.refl _))⟩
  .rintro⟨b,c⟩;rcases zK8 c with rfl|⟨t,d,g⟩
   .exact .inl rfl
   .have h:t∈S.kids k:=(D.kid k t).2 ⟨(zET D d b).1,g⟩;exact .inr ⟨t,h,(j t h).2 ⟨b,d⟩⟩
theorem zAJ{f:Nat->List Nat}:∀{l:List Nat},l.Nodup->(∀a∈l,(f a).Nodup)->(∀a∈l,∀b∈l,a≠b->∀x,x∈f a->x∉f b)->(l.flatMap f).Nodup
 |[],_,_,_=>WD
 |
  a::l,h1,j,k=>by
  have g:=Wz.1 h1;rw[Wae,WS];refine⟨j a Wt,zAJ g.2 (λb d=>j b (Wi _ d)) (λb d c m=>k b (Wi _ d) c (Wi _ m)),?_⟩;rintro x n _ o rfl;obtain⟨b,d,h⟩:=WC.1 o;exact k a Wt b (Wi _ d) (λe=>g.1 (e▸d)) x n h
theorem zuX(D:Tr S R T):∀(f k:Nat),k∈R->R.length<=f+R.idxOf k->(subT S f k).Nodup
 |0,k,g,O=>WD
 |
  f+1,k,g,O=>by
  have n:∀t∈S.kids k,t∈R/\T t=some k/\R.length<=f+R.idxOf t:=λt o=>by obtain⟨c,d⟩:=(D.kid k t).1 o;have:=D.down k t g c d;exact⟨c,d,by omega⟩
  rw[subT,Wz];constructor
  .intro h;obtain⟨t,c,d⟩:=WC.1 h;obtain⟨p,J,K⟩:=n t c;have U:=(zET D ((zpK D f t k p K).1 d).2 g).2;have:=D.down k t g p J;omega
  .refine zAJ (D.kn k) (λt o=>zuX D f t (n t o).1 (n t o).2.2) λa L b M m x w y=>?_
   obtain⟨z,A,a3⟩:=n a L;obtain⟨B,C,F⟩:=n b M;have H:=((zpK D f a x z a3).1 w);have I:=((zpK D f b x B F).1 y)
   have no:∀u v,T u=some k->T v=some k->v∈R->u≠v->¬Dm.Ch T u v:=λu v P Q s q N=>by
    rcases N.cases' with h|⟨j,c,d⟩
    .exact q h.symm
    .rw[P]at c;cases c;have p:=(zET D d g).2;have:=D.down k v g s Q;omega
   rcases H.2.total I.2 with h|h
   .exact no a b A C B m h
   .exact no b a C A z (λe=>m e.symm) h
theorem zF1(D:Tr S R T)(P:Top R T):∀(n x:Nat),R.idxOf x<=n->x∈R->Dm.Ch T x 0
 |
  n,x,c,hx=>by
  by_cases d:x=0
  .subst d;exact .refl _
  .cases b:T x with
   |none=>exact absurd b (P.held x hx d)
   |some j=>
    obtain⟨e,_⟩:=D.pred x hx j b;have g:=D.down j x e hx b
    match n,c with
    |0,c=>omega
    |n+1,c=>exact .up b (zF1 D P n j (by omega) e)
theorem zIY(D:Tr S R T)(P:Top R T){n:Nat}(b:R.length<=n):(subT S n 0).Perm R:=by
 refine zuM (zuX D n 0 P.zero (by rw[P.first];omega)) D.nd λx=>?_
 rw[zpK D n 0 x P.zero (by rw[P.first];omega)];exact⟨λh=>h.1,λh=>⟨h,zF1 D P _ x (Wp _) h⟩⟩
theorem zJ8(D:Tr S R T)(P:Top R T)(w:NdF->List Ex->Nat)(own:Nat->Nat)(e:∀x∈R,∀v,OwnP w S x v->v<=own x){n:Nat}(g:R.length<=n)(c:Ctx):wN w (zex S n 0 c)<=(R.map own).sum:=by refine Wy (zJq w own (·<=·) (λa b c d h j=>by omega) (Wp 0) D e n 0 c P.zero (by rw[P.first];omega)) ?_;rw[zvM own (zIY D P g)];exact Wp _
end
def CtxP(S:Shp)(x:Nat)(c:Ctx):Prop:=∃c0,(S.head x=false/\c=zap (zJ S x) c0)\/(S.head x=true/\c=zap (zJ S x) (inC S x c0))
inductive EmP(S:Shp)(x:Nat):Nd->Prop
 |seq (l:List Nd):EmP S x (nSeq l)
 |label:EmP S x (zaq 10 0 x)
 |block:EmP S x (zaq 2 x 0)
 |loop (n:Nd):S.head x=true->n.f.kind≠10->EmP S x (.mk ⟨4,0,0⟩ [] [n])
 |while_ (n:Nd):S.head x=true->S.one x=true->(S.last x).op=7->n.f.kind≠10->EmP S x (.mk ⟨5,x,0⟩ (S.last x).e [n])
 |if_ (a b:Nd):(S.last x).op=7->a.f.kind≠10->b.f.kind≠10->EmP S x (.mk ⟨3,0,0⟩ (S.last x).e [a,b])
 |switch (l:List Nd):(S.last x).op=8->l.length=(S.last x).cases.length->(∀z∈l,z.f.kind≠10)->EmP S x (.mk ⟨6,0,0⟩ (S.last x).e l)
 |ret:EmP S x (zaq 11 0 0)
 |halt:EmP S x (zaq 12 0 0)
 |leaf (t:Int) (c:Ctx):t∈tgS (S.last x)->t.toNat∉inlL S x->CtxP S x c->EmP S x (zgH c t)
theorem zft{k b t:Int}:allN (zaq k b t)=[zaq k b t]:=by rw[zaq,allN,zcj]
theorem zxd{y:Nd}:∀{l:List Nd},y∈zcj l↔∃n∈l,y∈allN n
 |[]=>by simp[zcj]
 |n::l=>by rw[zcj,Wa,zxd];simp
theorem zCO{c:Ctx}{t:Int}{y:Nd}(h:y∈allN (zgH c t)):y=zgH c t:=by
 unfold zgH at h⊢;split
 .rename_i b;rw[if_pos b]at h;simpa [nSeq,allN,zcj]using h
 .rename_i b;rw[if_neg b]at h;split
  .rename_i d;rw[if_pos d,zft]at h;simpa using h
  .rename_i d;rw[if_neg d]at h;split
   .rename_i e;rw[if_pos e,zft]at h;simpa using h
   .rename_i e;rw[if_neg e,zft]at h;simpa using h
section
variable {S:Shp}{R:List Nat}{T:Nat->Option Nat}
theorem zyx{code:Nat->Ctx->Nd}{y:Nd}:∀{l:List Nat}{c:Ctx},y∈zcj (zah code c l)->∃t∈l,∃b,y∈allN (code t b)
 |[],c,h=>by rw[zah,zcj]at h;cases h
 |
  k::l,c,h=>by
  rw[zah,zcj,Wa]at h;rcases h with h|h
  .exact⟨k,Wt,_,h⟩
  .obtain⟨t,d,e⟩:=zyx h;exact⟨t,Wi _ d,e⟩
theorem zK7{code:Nat->Ctx->Nd}{y:Nd}{k:Nat}{c:Ctx}{t:Int}(g:t∈tgS (S.last k))(e:CtxP S k c)(h:y∈allN (wayN S code k c t)):EmP S k y\/∃u∈inlL S k,∃d,y∈allN (code u d):=by
 unfold wayN at h;split at h
 .rename_i b;exact .inr ⟨_,b,_,h⟩
 .rename_i b;exact .inl (zCO h▸.leaf t c g b e)
theorem zwR{code:Nat->Ctx->Nd}(b:∀k c,(code k c).f.kind=1){k:Nat}{c:Ctx}{t:Int}:(wayN S code k c t).f.kind≠10:=by
 unfold wayN;split
 .rw[b];decide
 .have:=zuV c t;omega
theorem mem_tr{code:Nat->Ctx->Nd}(j:∀k c,(code k c).f.kind=1){y:Nd}{k:Nat}{c:Ctx}(s:CtxP S k c)(h:y∈allN (trN S code k c)):EmP S k y\/∃u∈inlL S k,∃m,y∈allN (code u m):=by
 have b:=λt (v:t∈tgS (S.last k))=>zK7 (S:=S) (code:=code) (y:=y) v s
 unfold tgS at b;unfold trN at h;by_cases d:(S.last k).op=6
 .rw[if_pos d]at h;simp only[if_pos d]at b;exact b _ (by simp) h
 simp only[if_neg d]at h b;by_cases e:(S.last k).op=7
 .simp only[if_pos e]at h b;rw[allN,Wf]at h;rcases h with rfl|h
  .exact .inl (.if_ _ _ e (zwR j) (zwR j))
  .rw[zcj,zcj,zcj,Wv,Wa]at h;rcases h with h|h
   .exact b _ (by simp) h
   .exact b _ (by simp) h
 simp only[if_neg e]at h b;by_cases g:(S.last k).op=8
 .simp only[if_pos g]at h b;rw[allN,Wf]at h;rcases h with rfl|h
  .exact .inl (.switch _ g (by simp) λz w=>by
   obtain⟨t,_,rfl⟩:=Wx.1 w
   exact zwR j)
  .obtain⟨n,o,p⟩:=zxd.1 h;obtain⟨t,q,rfl⟩:=Wx.1 o;exact b t q p
 simp only[if_neg g]at h;split at h
 .rw[zft,Wn]at h;rw[h];exact .inl .ret
 .rw[zft,Wn]at h;rw[h];exact .inl .halt
theorem zuN(D:Tr S R T){y:Nd}:∀(f k:Nat)(c:Ctx),k∈R->R.length<=f+R.idxOf k->y∈allN (zex S f k c)->∃x∈R,EmP S x y
 |
  0,k,c,b,hf,_=>by
  have:=Ws.2 b;omega
 |
  f+1,k,c,b,hf,h=>by
  have v:∀x∈S.kids k,∀c,y∈allN (zex S f x c)->∃x∈R,EmP S x y:=λx B c h=>by obtain⟨j,n⟩:=(D.kid k x).1 B;have:=D.down k x b j n;exact zuN D f x c j (by omega) h
  have e:∀{l:List Nat}{c:Ctx},(∀t∈l,t∈S.kids k)->y∈zcj (zah (zex S f) c l)->∃x∈R,EmP S x y:=λA h=>by obtain⟨t,j,p,n⟩:=zyx h;exact v t (A t j) p n
  have d:∀{c:Ctx},CtxP S k c->y∈allN (trN S (zex S f) k c)->∃x∈R,EmP S x y:=λz h=>by
   rcases mem_tr (zkE f) z h with h|⟨u,j,p,n⟩
   .exact⟨k,b,h⟩
   .exact v u (zs7.1 j).1 p n
  have w:∀t∈beyL S k,t∈S.kids k:=λt s=>zsa s
  have q:∀t∈zJ S k,t∈S.kids k:=λt s=>(zqG.1 s).1
  rw[zex]at h;by_cases m:S.head k=true
  .rw[if_pos m,nSeq,allN,Wf,zcj,Wa,zft,Wn,zcj,Wa]at h;have g:CtxP S k (zap (zJ S k) (inC S k c)):=⟨c,.inr ⟨m,rfl⟩⟩;rcases h with h|h|h|h
   .exact⟨k,b,h▸.seq _⟩
   .exact⟨k,b,h▸.label⟩
   .unfold zsy at h;by_cases o:(S.one k&&isWh (trN S (zex S f) k (zap (zJ S k) (inC S k c))))=true
    .rw[if_pos o]at h;rw[Wu]at o;obtain⟨C,F,H,I⟩:=zDD (zkE f) o.2;have d:=d g;rw[F]at h d;simp only[Nd.cond,hd0,Nd.l,WP]at h;rw[allN,Wf,nSeq,zcj,zcj,Wv,allN,Wf,zcj,Wa]at h;rcases h with h|h|h|h
     .exact⟨k,b,h▸.while_ _ m o.1 C (show(1:Int)≠10 by decide)⟩
     .exact⟨k,b,h▸.seq _⟩
     .exact d (by rw[allN,Wf,zcj,Wa];exact .inr (.inl h))
     .exact e q h
    .rw[if_neg o]at h;rw[allN,Wf,nSeq,zcj,zcj,Wv,allN,Wf,zcj,Wa,zft,Wn,zcj,Wa]at h;rcases h with h|h|h|h|h
     .exact⟨k,b,h▸.loop _ m (show(1:Int)≠10 by decide)⟩
     .exact⟨k,b,h▸.seq _⟩
     .exact⟨k,b,h▸.block⟩
     .exact d g h
     .exact e q h
   .exact e w h
  .rw[if_neg m,nSeq,allN,Wf,zcj,Wa,zft,Wn,zcj,Wa,zft,Wn,zcj,Wa]at h;have g:CtxP S k (zap (zJ S k) c):=⟨c,.inl ⟨Waf.2 m,rfl⟩⟩;rcases h with h|h|h|h|h
   .exact⟨k,b,h▸.seq _⟩
   .exact⟨k,b,h▸.label⟩
   .exact⟨k,b,h▸.block⟩
   .exact d g h
   .exact e q h
end
def Vst(c:List PSt)(p:Nat)(b:Int):Prop:=∃s,c[p]?=some s/\s.kind=0/\s.block=b
def Stp(b:List PSt)(p:Nat):Prop:=∃s,b[p]?=some s/\s.kind=2
def Dec(c:List PSt)(p:Nat)(b:List Int):Prop:=∃s,c[p]?=some s/\s.kind=1/\s.to=some b/\¬(b.length=1/\s.block ≠ -1)
structure LabE where
 at_:Int->Nat
 used:Int->Prop
def EntB(b:List PSt)(x:Int)(p:Nat):Prop:=∃p0,Goes b p p0/\Vst b p0 x
def Trn(c:List PSt)(S:Shp)(x:Nat)(p:Nat):Prop :=
 if (S.last x).op=6 then EntB c (S.last x).next p
 else if (S.last x).op=7 then ∃a b,Dec c p [a,b]/\EntB c (S.last x).next a.toNat/\EntB c (S.last x).els b.toNat
 else if (S.last x).op=8 then ∃d,Dec c p d/\d.length=(S.last x).cases.length/\∀(i:Nat)(t:Int),(S.last x).cases[i]?=some t->∃a:Int,d[i]?=some a/\EntB c t a.toNat
 else Stp c p
structure CtxE(st:List PSt)(R:List Nat)(c:Ctx)(q t b:Nat):Prop where
 f:∀u∈R,c.f=(u:Int)->EntB st u q
 h:∀u∈R,c.h=(u:Int)->EntB st u t
 x:∀u∈R,c.x=(u:Int)->EntB st u b
section
variable {S:Shp}{R:List Nat}{T:Nat->Option Nat}{st:List PSt}{L:LabE}
def Run(st:List PSt)(S:Shp)(x:Nat):Prop:=∃p0,Vst st p0 x/\Trn st S x (p0+1)
end
end Go.Ab
