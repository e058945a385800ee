/-
  Part 25 of the proof: how the calls of this program run, over values instead of memory, and what each function computes.
-/
import Derived.Test.YtmlhipilbnjhiaaGreatQx
set_option maxRecDepth 100000
set_option linter.unusedVariables false
set_option linter.unusedSimpArgs false
set_option linter.unnecessarySimpa false
set_option linter.unusedSectionVars false
open Nat renaming reduceBEq->Xa,reduceAdd->Xb,reduceLeDiff->Xc,reduceSub->Xf,reduceLT->Xg,beq->Xs,blt->Xt
open Go.Ab.Ent renaming tabB->Xd,keep->Xn,tab->Xr
open Go.Ab.AV renaming int->Xe,ren->Xl,agg->Xm,tup->Xo,flat->Xp,cells->Xq
open Go.Ab.TOk renaming cons->Xh,base->Xk
open Go.Ab.RowV renaming of_flat->Xi
open Go.Ab.Bl renaming cells->Xj
open Go.Proofs.Tryz renaming prog->Z9
open And renaming intro→Wa
open List renaming length_cons→Wc,length_nil→Wd,length_append→Wf,map_cons→Wg,length_map→Wh,map_nil→Wi,range→Wj,length_singleton→Wk,getElem_mem→Wm,map_append→Wn,append_nil→Wr,append_assoc→Ws,drop_of_length_le→Wt,mem_filter→Wu,length_range→Ww,length_filter_le→Wx,mem_cons→Wy,mem_cons_self→Wz,mem_append→WA,take_of_length_le→WB,take_length→WC,length_take→WD,take_succ_eq_append_getElem→WE,mem_singleton→WF,singleton_append→WH,mem_cons_of_mem→WI,all_eq_true→WJ
open Nat renaming zero_le→We,le_refl→Wo
open Int renaming ofNat→Wl,toNat→Wq
open Bool renaming and_eq_true→Wp,eq_iff_iff→Wv,false_ne_true→WG
namespace Go.Ab
open Go.RowKit Go.Proofs Go.Ab.Dm
section
variable {H H2:AH}{σ:Nat->Nat->Option (Nat×Nat×Nat)}{D:Nat->Nat->Prop}{t:Bool}
theorem zpL{r q g:Nat}{x:AV}{l:List Nd}(c:D r q)(d:H.get r q=some (.row 5 [[.int .i64 1,.int .i64 0,.int .i64 0,.nilsl,x]] g))(k:Vw H H2 σ D false x (encL 5 encN l)):Vw H H2 σ D t (.own r q g 0 1) (encL 5 encN [nSeq l]):=by
 have e:encL 5 encN [nSeq l]=.sl 5 1 (λi j=>([encN (nSeq l)].getD i []).getD j .undef):=rfl;rw[e];refine .frz t r q g 0 1 5 _ _ c d (by unfold big;omega) (by simp) (λi j m h=>?_);obtain rfl:i=0:=by omega
 have b:encN (nSeq l)=[.int .i64 1,.int .i64 0,.int .i64 0,encL 5 encX [],encL 5 encN l]:=by unfold nSeq;rw[zaF]
 rw[b]
 match j,h with
 |0,_=>exact .int _ _ _
 |1,_=>exact .int _ _ _
 |2,_=>exact .int _ _ _
 |3,_=>exact zf1
 |4,_=>exact k
theorem zx5{r q g:Nat}{a b z:Int}{c y:AV}{d:List Ex}{l:List Nd}(e:D r q)(k:H.get r q=some (.row 5 [[.int .i64 a,.int .i64 b,.int .i64 z,c,y]] g))(h:Vw H H2 σ D false c (encL 5 encX d))(n:Vw H H2 σ D false y (encL 5 encN l)):Vw H H2 σ D t (.ptr r q g 0 0) (encP 5 (encN (.mk ⟨a,b,z⟩ d l))):=by
 rw[zaF];refine .frzp t r q g 0 0 5 5 _ _ e k (by simp) (by simp) (λj m=>?_)
 match j,m with
 |0,_=>exact .int _ _ _
 |1,_=>exact .int _ _ _
 |2,_=>exact .int _ _ _
 |3,_=>exact h
 |4,_=>exact n
end
theorem zFs{n:Nd}(h:n.f.kind≠3):isWh n=false:=by unfold isWh;rw[decide_eq_false h];rfl
theorem za5:∀n:Nd,(encN n).getD 0 .undef=.int .i64 n.f.kind
 |.mk f c l=>by rw[zaF];rfl
theorem zaO{e:Nd}:[.int .i64 e.f.kind,(encN e).getD 1 .undef,(encN e).getD 2 .undef,(encN e).getD 3 .undef,(encN e).getD 4 .undef]=encN e:=by rw[<-za5 e,zG]
def zoY(one:Bool)(b:Nd)(k:Nat)(c:List Nd):Nd :=
 if one&&isWh b then .mk ⟨5,k,0⟩ b.cond [nSeq (hd0 b::c)]else .mk ⟨4,0,0⟩ [] [nSeq (zaq 2 k 0::b::c)]
theorem zc0(g:G)(c:Ctx)(lb n:Nd)(b:List Nd)(q:AV)(p:b.length<=1000)(d:zke g zY [q,ctxA c] (encL 5 encN b)) :
  wpX Z9 2 zbZ (retK zbs (ztU 2 λv H s=>v=.agg (encN (nSeq (lb::n::b)))/\H=bldH g []/\s=2))
   [(0,.ptr 0 0 0 0 0),(7,encP 5 (encN lb)),(9,encP 3 [.int .i64 c.f,.int .i64 c.h,.int .i64 c.x]),(10,.ptr 2 0 0 0 0),(11,q),(21,encP 5 (encN n))] (bldH g [(2,.row 5 [zN] 0)]) 3:=by
 unfold zbZ bldH;have t:=hBig;have k:∀H,zcq 5 (encL 5 encN b) H=some (b.map encN):=λH=>za7 (λ_ _=>zy)
 have e:∀H,zcq 5 (encL 5 encN [lb,n]) H=some [encN lb,encN n]:=λH=>za7 (λ_ _=>zy)
 have m:zz (encN lb)=true:=zp;have o:zz (encN n)=true:=zp;have j:zix (encN lb::encN n::b.map encN) (lb::n::b):=⟨.inl rfl,.inl rfl,zd4 _⟩;conv in zcQ _ _ _ _=>reduce
 refine Gw5 @ua @zG @zy m o ?_;intros
 (repeat' first
  |with_reducible apply Wa
  |(show 1<2;decide)
  |(show _<=_;omega)
  |(refine zH (d [(2,.row 5 [zN] 0),(3,.row 5 [encN lb,encN n] 0)] 4 (Xh (by omega) (by omega) (zF rfl) (Xh (by omega) (by omega) (zaf (zal zp (zas zp))) (Xk (by omega))))) ?_;rintro _ _ _ ⟨rfl,rfl,rfl⟩;unfold bldH;(refine Gw6 k e @rbN2 @m9M @ui @uh ?_;intros;try with_reducible exact trivial))
  |(refine zH (d [(2,.row 5 [zN] 0)] 3 (Xh (by omega) (by omega) (zF rfl) (Xk (by omega)))) ?_;rintro _ _ _ ⟨rfl,rfl,rfl⟩;unfold bldH;(refine Gw10 k e @rbN2 @zG @zy m o @m9M @ui @uh ?_;intros;try with_reducible exact trivial))
  |(refine zH (zse rfl rfl (zii (Xh (by omega) (by omega) (zF rfl) (Xh (by omega) (by omega) (zaf (zbh j)) (Xk (by omega))))) rfl rfl) ?_;rintro _ _ _ ⟨rfl,rfl,rfl⟩;(refine Gw1 @zbs.eq_1 ?_;intros;try with_reducible exact trivial)))
 all_goals refine zet ?_
 all_goals unfold nSeq
 all_goals rw[zaF,zcX]
 all_goals exact⟨.int _ _ _,.int _ _ _,.int _ _ _,zf1,zg2 j (by simp only[Wc];omega) (show 2<=3 by omega) rfl (by omega),trivial⟩
theorem QJ{c d p:Prop}(a0:c)(b:d)(h:c->d->p:=by intro a0 b;(try simp only[evWB,Nat.reduceBEq,Nat.reduceAdd,Nat.reduceSub,Nat.reduceLeDiff,Nat.reduceLT,implies_true,a0,b])<;>(repeat' with_reducible apply And.intro)<;>first|(first|exact RowV.of_flat zI|exact zl rfl;done)|exact fin6):p:=h a0 b
theorem zqt(g:G)(hg:OkB g)(k:Nat)(K:k<g.blocks.length)(c:Ctx)(lb N:Nd)(m q:List Nd)(t:AV)(Q:t.flat0=true)(hchl:m.length<=1000)(o:q.length<=1000)(h3:N.f.kind=3->∃a b,N.l=[a,b])(s:zke g zY [t,ctxA c] (encL 5 encN q)) :
  wpX Z9 2 zb1 (retK zbs (ztU 2 λv H n=>v=.agg (encN (nSeq (lb::zoY (oneG g k) N k m::q)))/\H=bldH g []/\n=2))
   [(0,.ptr 0 0 0 0 0),(1,.int .i64 (k:Int)),(7,encP 5 (encN lb)),(9,encP 3 [.int .i64 c.f,.int .i64 c.h,.int .i64 c.x]),(10,.ptr 2 0 0 0 0),(11,t),(19,encP 5 (encN N)),(20,encL 5 encN m)] (bldH g [(2,.row 5 [zN] 0)]) 3:=by
 unfold zb1 bldH;have hB:=hBig;have S:∀H,zcq 5 (encL 5 encN m) H=some (m.map encN):=λH=>za7 (λ_ _=>zy)
 have R:zz (encN N)=true:=zp;obtain⟨f,d,j⟩:=N;simp only[Nd.f,Nd.l]at h3;rw[zaF]at R⊢;refine Gw6 @ua R S @m9M @ui @uh ?_;intros;have p:zix ([Xe .i64 2,.int .i64 (k:Int),.int .i64 0,.nilsl,.nilsl]::[.int .i64 f.kind,.int .i64 f.block,.int .i64 f.label,encL 5 encX d,encL 5 encN j]::m.map encN) (zaq 2 k 0::.mk f d j::m):=⟨.inr ⟨_,_,_,rfl,rfl⟩,.inl (zaF _ _ _).symm,zd4 _⟩;refine zH (zse rfl rfl (zii (Xh (by omega) (by omega) (zF rfl) (Xh (by omega) (by omega) (zaf (zbh p)) (Xk (by omega))))) rfl rfl) ?_;rintro _ _ _ ⟨rfl,rfl,rfl⟩;have hst:=hg.stm _ (zes K);have hgb:(g.blocks.map Xj).getD k []=(blG g k).cells:=by rw[zg K,zoL K]
 have Y:(blG g k).cells=[.int .u32 (blG g k).addr,encL 8 St.cells (blG g k).stmts]:=rfl;refine Gw2 hgb Y ?_;intros;have A:zoY (oneG g k) (.mk f d j) k m=if oneG g k&&isWh (.mk f d j)then .mk ⟨5,k,0⟩ d [nSeq (hd0 (.mk f d j)::m)]else .mk ⟨4,0,0⟩ [] [nSeq (zaq 2 k 0::.mk f d j::m)]:=rfl
 have w:t.flat0=true:=Q
 have V:∀O σ x W,zix W (zaq 2 k 0::.mk f d j::m)->Vw (bldH g [(2,.row 5 x 0),(3,.row 5 W 1),(4,.row 5 [[.int .i64 1,.int .i64 0,.int .i64 0,.nilsl,.own 3 0 1 0 (2+m.length)]] 0),(5,.row 5 [[.int .i64 4,.int .i64 0,.int .i64 0,.nilsl,.own 4 0 0 0 1]] 0)]) O σ (inD [3,4,5]) true (.ptr 5 0 0 0 0) (encP 5 (encN (.mk ⟨4,0,0⟩ [] [nSeq (zaq 2 k 0::.mk f d j::m)]))):=by
  intro O σ x W p;refine zx5 rfl rfl zf1 ?_;refine zpL rfl rfl ?_;refine zg2 p ?_ rfl rfl ?_
  .simp only[Wc];omega
  .omega
 by_cases h1:(blG g k).stmts.length=1
 case neg=>
  have u:¬(((blG g k).stmts.length:Nat):Int)=1:=by omega
  have e:zoY (oneG g k) (.mk f d j) k m=.mk ⟨4,0,0⟩ [] [nSeq (zaq 2 k 0::.mk f d j::m)]:=by rw[A];unfold oneG;rw[decide_eq_false h1];rfl
  rw[e];refine Gw3 @dT @dF u ?_;intros;refine zaD [(0,.ptr 0 0 0 0 0),(7,encP 5 (encN lb)),(9,encP 3 [.int .i64 c.f,.int .i64 c.h,.int .i64 c.x]),(10,.ptr 2 0 0 0 0),(11,t),(21,encP 5 (encN (.mk ⟨4,0,0⟩ [] [nSeq (zaq 2 k 0::.mk f d j::m)])))] (bldH g [(2,.row 5 [zN] 0)]) 3 λ_=>⟨?_,zc0 g c lb _ q t o s⟩
  unfold bldH;exact(Xd [(0,0,0),(1,1,0),(2,2,0)] [3,4,5] rfl rfl rfl (QJ @ua @uk) (by((try simp only[evWB,Xa,Xb,Xf,Xc,Xg,implies_true,encP,zN])<;>(repeat' with_reducible apply Wa)<;>first|(first|exact zl rfl|exact zl w|exact V _ _ _ _ p;done)|exact fin6)))
 have u:(((blG g k).stmts.length:Nat):Int)=1:=by omega
 have U:oneG g k=true:=by unfold oneG;rw[decide_eq_true h1]
 by_cases I:f.kind=3
 case neg=>
  have e:zoY (oneG g k) (.mk f d j) k m=.mk ⟨4,0,0⟩ [] [nSeq (zaq 2 k 0::.mk f d j::m)]:=by rw[A,U];rw[zFs (n:=.mk f d j) I];rfl
  rw[e];refine Gw3 @dT @dF u ?_;intros;refine zaD [(0,.ptr 0 0 0 0 0),(7,encP 5 (encN lb)),(9,encP 3 [.int .i64 c.f,.int .i64 c.h,.int .i64 c.x]),(10,.ptr 2 0 0 0 0),(11,t),(21,encP 5 (encN (.mk ⟨4,0,0⟩ [] [nSeq (zaq 2 k 0::.mk f d j::m)])))] (bldH g [(2,.row 5 [zN] 0)]) 3 λ_=>⟨?_,zc0 g c lb _ q t o s⟩
  unfold bldH;exact(Xd [(0,0,0),(1,1,0),(2,2,0)] [3,4,5] rfl rfl rfl (QJ @ua @uk) (by((try simp only[evWB,Xa,Xb,Xf,Xc,Xg,implies_true,encP,zN])<;>(repeat' with_reducible apply Wa)<;>first|(first|exact zl rfl|exact zl w|exact V _ _ _ _ p;done)|exact fin6)))
 obtain⟨a,b,T⟩:=h3 I;rw[I]at p;have B:(j.map encN).getD 0 []=encN a:=by rw[T];rfl
 have J:(j.map encN).getD 1 []=encN b:=by rw[T];rfl
 have L:j.length=2:=by rw[T];rfl
 have D:Wq 0=0:=rfl;have F:Wq 1=1:=rfl;have M:isWh (.mk f d j)=(decide (b.f.kind=7)&&decide (a.f.kind≠7)):=by unfold isWh;simp[Nd.f,Nd.l,I,T]
 have Z:zz (encN a)=true:=zp;by_cases P:b.f.kind=7
 case neg=>
  have e:zoY (oneG g k) (.mk f d j) k m=.mk ⟨4,0,0⟩ [] [nSeq (zaq 2 k 0::.mk f d j::m)]:=by rw[A,U,M,decide_eq_false P];rfl
  rw[e]
  (repeat first|simp(disch:=try exact dis1) only[evD,Xa,Xb,Xc,dT,dF,u,I,L,B,J,D,F,za5,zG,zaO,zy,Wc,Wd]|with_reducible first|intro _|refine aJ ?_)
  refine Gw2 @dT @dF ?_;intros;refine zaD [(0,.ptr 0 0 0 0 0),(7,encP 5 (encN lb)),(9,encP 3 [.int .i64 c.f,.int .i64 c.h,.int .i64 c.x]),(10,.ptr 2 0 0 0 0),(11,t),(21,encP 5 (encN (.mk ⟨4,0,0⟩ [] [nSeq (zaq 2 k 0::.mk f d j::m)])))] (bldH g [(2,.row 5 [zN] 0)]) 3 λ_=>⟨?_,zc0 g c lb _ q t o s⟩
  unfold bldH;exact(Xd [(0,0,0),(1,1,0),(2,2,0)] [3,4,5] rfl rfl rfl (QJ @ua @uk) (by((try simp only[evWB,Xa,Xb,Xf,Xc,Xg,implies_true,encP,zN])<;>(repeat' with_reducible apply Wa)<;>first|(first|exact zl rfl|exact zl w|exact V _ _ _ _ p;done)|exact fin6)))
 by_cases X:a.f.kind=7
 case pos=>
  have e:zoY (oneG g k) (.mk f d j) k m=.mk ⟨4,0,0⟩ [] [nSeq (zaq 2 k 0::.mk f d j::m)]:=by rw[A,U,M,decide_eq_true P,decide_eq_false (λh=>h X)];rfl
  rw[e]
  (repeat first|simp(disch:=try exact dis1) only[evD,Xa,Xb,Xc,dT,dF,u,I,L,B,J,D,F,P,za5,zG,zaO,zy,Wc,Wd]|with_reducible first|intro _|refine aJ ?_)
  refine Gw3 @dT @dF X ?_;intros;refine zaD [(0,.ptr 0 0 0 0 0),(7,encP 5 (encN lb)),(9,encP 3 [.int .i64 c.f,.int .i64 c.h,.int .i64 c.x]),(10,.ptr 2 0 0 0 0),(11,t),(21,encP 5 (encN (.mk ⟨4,0,0⟩ [] [nSeq (zaq 2 k 0::.mk f d j::m)])))] (bldH g [(2,.row 5 [zN] 0)]) 3 λ_=>⟨?_,zc0 g c lb _ q t o s⟩
  unfold bldH;exact(Xd [(0,0,0),(1,1,0),(2,2,0)] [3,4,5] rfl rfl rfl (QJ @ua @uk) (by((try simp only[evWB,Xa,Xb,Xf,Xc,Xg,implies_true,encP,zN])<;>(repeat' with_reducible apply Wa)<;>first|(first|exact zl rfl|exact zl w|exact V _ _ _ _ p;done)|exact fin6)))
 have e:zoY (oneG g k) (.mk f d j) k m=.mk ⟨5,k,0⟩ d [nSeq (a::m)]:=by rw[A,U,M,decide_eq_true P,decide_eq_true X,T];rfl
 rw[e];have C:zix (encN a::m.map encN) (a::m):=⟨.inl rfl,zd4 _⟩
 have hv2:∀O σ x y z,Vw (bldH g [(2,.row 5 x 0),(3,.row 5 y 1),(4,.row 5 z 0),(5,.row 5 [[.int .i64 5,.int .i64 (k:Int),.int .i64 0,encL 5 encX d,.own 7 0 0 0 1]] 0),(6,.row 5 (encN a::m.map encN) 1),(7,.row 5 [[.int .i64 1,.int .i64 0,.int .i64 0,.nilsl,.own 6 0 1 0 (1+m.length)]] 0)]) O σ (inD [3,4,5,6,7]) true (.ptr 5 0 0 0 0) (encP 5 (encN (.mk ⟨5,k,0⟩ d [nSeq (a::m)]))):=by
  intro O σ x y z;refine zx5 rfl rfl (zV rfl) ?_;refine zpL rfl rfl ?_;refine zg2 C ?_ rfl rfl ?_
  .simp only[Wc];omega
  .omega
 (repeat first|simp(disch:=try exact dis1) only[evD,Xa,Xb,Xc,dT,dF,u,I,L,B,J,D,F,P,za5,zG,zaO,zy,Wc,Wd]|with_reducible first|intro _|refine aJ ?_)
 refine Gw2 @dT @dF ?_;intros
 (repeat' first
  |with_reducible apply Wa
  |(show _<=_;omega)
  |(show _<_;omega))
 all_goals(refine Gw9 S B @zG @zaO @zy Z @m9M @ui @uh ?_;intros;try with_reducible exact trivial)
 (repeat' first
  |with_reducible apply Wa
  |(show _<=_;omega)
  |(show _<_;omega))
 all_goals refine zH (zse rfl rfl (zii (Xh (by omega) (by omega) (zF rfl) (Xh (by omega) (by omega) (zaf (zbh p)) (Xh (by omega) (by omega) (zF rfl) (Xh (by omega) (by omega) (zF rfl) (Xh (by omega) (by omega) (zaf (zbh C)) (Xk (by omega)))))))) rfl rfl) ?_
 all_goals rintro _ _ _ ⟨rfl,rfl,rfl⟩
 all_goals(refine Gw0 ?_;intros;try with_reducible exact trivial)
 (repeat' with_reducible apply Wa)
 all_goals refine zaD [(0,.ptr 0 0 0 0 0),(7,encP 5 (encN lb)),(9,encP 3 [.int .i64 c.f,.int .i64 c.h,.int .i64 c.x]),(10,.ptr 2 0 0 0 0),(11,t),(21,encP 5 (encN (.mk ⟨5,k,0⟩ d [nSeq (a::m)])))] (bldH g [(2,.row 5 [zN] 0)]) 3 λ_=>⟨?_,zc0 g c lb _ q t o s⟩
 all_goals unfold bldH
 all_goals exact(Xd [(0,0,0),(1,1,0),(2,2,0)] [3,4,5,6,7] rfl rfl rfl (QJ @ua @uk) (by((try simp only[evWB,Xa,Xb,Xf,Xc,Xg,implies_true,encP,zN])<;>(repeat' with_reducible apply Wa)<;>first|(first|exact zl rfl|exact zl w|exact hv2 _ _ _ _ _;done)|exact fin6)))
end Go.Ab
namespace Go.Ab
open Go.RowKit Go.Proofs
theorem zjL(l:List Nat)(k:Nat)(c:Ctx)(j:l.length<=2000)(g:k<=2000):zn Z9 zbg [zb l,.int .i64 (k:Int),ctxA c] (·=ctxA (zap (l.drop k) c)):=by
 refine fn_x zw7 rfl ?_;unfold zrH ctxA;(conv in Z8 _ _=>reduce);have e:=hBig;refine Qh ?_;intros;by_cases h:k<l.length
 .rw[zxp h];have b:(l.map λ(n:Nat)=>[Xe .i64 (n:Int)]).getD k []=[.int .i64 (l[k]:Int)]:=zg (f:=cN) (d:=[]) h;generalize l[k]=x at b;refine Gw6 @dT b @zm8.eq_1 @ua @ub @ud ?_;intros;exact⟨_,zV rfl,rfl⟩
 .rw[zva (by omega)];refine Gw5 @dF @zm8.eq_1 @ua @ub @ud ?_;intros;exact⟨_,zV rfl,rfl⟩
theorem zis{H:AH}{nx:Nat}{v:AV}(j:v.solid=true)(g:v.cells=[v])(c:zen nx H)(k:v.lt0 nx=true)(e:H.look nx=none):
  zS Z9 zeR [v] H nx (λx d n=>x=.agg [.int .i64 1,.int .i64 0,.int .i64 0,.nilsl,v]/\d=H/\n=nx):=by
 refine zaA (fn_x zuY rfl ?_);refine dcU zqw.eq_1 ?_;have m:=hBig;have b:splice [AV.nilsl] 0 [v]=[v]:=rfl;refine Gw11 j g b e @zp4 @ui @uh @zqO.eq_1 @ua @ub @ud ?_;intros;refine⟨_,H,nx,Ent.low (Wo _) (λr o h=>?_) c ⟨⟨rfl,?_⟩,trivial⟩,rfl,rfl,rfl⟩
 .have p:=(zcn c h).1;rw[AH.look_put,if_neg (by omega),AH.look_put,if_neg (by omega)];exact h
 .show (true&&(true&&(true&&(true&&(v.lt0 nx&&true)))))=true;rw[k];rfl
def InsP(l:List Nd)(v:AV)(H:AH)(nx:Nat):Prop:=∃γ,v=.own 0 0 γ 0 l.length/\H=[(0,.row 5 (l.map encN) γ)]/\nx=1
attribute [local irreducible] zbg zds in
theorem QK{c d p:Prop}(a0:c)(b:d)(h:c->d->p:=by intro a0 b;(try simp only[evWB,Nat.reduceBEq,Nat.reduceAdd,Nat.reduceSub,Nat.reduceLeDiff,Nat.reduceLT,implies_true,a0,b])<;>(repeat' with_reducible apply And.intro)<;>first|(first|exact zl rfl;done)|exact fin6):p:=h a0 b
theorem QL{j k m n o q s t u p:Prop}(a0:j)(b:k)(c:m)(a3:n)(a4:o)(a5:q)(d:s)(e:t)(g:u)(h:j->k->m->n->o->q->s->t->u->p:=by intro a0 b c a3 a4 a5 d e g;(try simp only[evWB,Nat.reduceBEq,Nat.reduceAdd,Nat.reduceSub,Nat.reduceLeDiff,Nat.reduceLT,implies_true,a0,b,c,a3,a4,a5,d,e,g])<;>(repeat' with_reducible apply And.intro)<;>first|(first|exact zl rfl;done)|exact fin6):p:=h a0 b c a3 a4 a5 d e g
set_option maxHeartbeats 1000000 in
theorem zpC(g:G)(P:OkB g)(j:Nat->Ctx->Nd)(b:Nat)(O:b∈ordE (eG g))(l:List Nat)(T:l.length<=1999)(I:∀x∈zaQ (eG g) b,zuu g j x)(F:∀x∈l,zuu g j x)(c:Ctx):
  zS Z9 zg5 [.agg (shR g),.int .i64 (b:Int),zb l,ctxA c] [] 0 (InsP (trN (shpG g) j b (zap l c)::zah j c l)):=by
 refine zaA (fn_x zwN rfl ?_);unfold zpX;have S:=hBig;have k:=zjL l 0 c (by omega) (by omega);rw[List.drop_zero]at k;have o:=ztt g P j b O I (zap l c);have R:[.int .u32 g.addr,encL 2 Xj g.blocks,zb (ordE (eG g)),za (Dm.treeL (eG g))]=shR g:=rfl;generalize trN (shpG g) j b (zap l c)=L at o⊢;have A:∀(w:Nd) H,zcq 5 (encL 5 encN [w]) H=some [encN w]:=λw H=>za7 (λ_ _=>zy)
 unfold ctxA at k o⊢;unfold shR at o⊢;have z:((0:Nat):Int)=0:=rfl;have B:Wl 0=0:=rfl;have C:Wl 1=1:=rfl;rw[z]at k
 have key:∀(K:Kn)(H:AH)(nx:Nat),Ent 0 K H nx [(2,zb l),(4,encP 4 [.int .u32 g.addr,encL 2 Xj g.blocks,zb (ordE (eG g)),za (Dm.treeL (eG g))]),(7,encP 3 [.int .i64 c.f,.int .i64 c.h,.int .i64 c.x]),(9,.own 0 0 0 0 1),(10,.int .i64 0)] [(0,.row 5 [encN L] 0)] 1 ->
   zCP Z9 0 zhy (zg0 0 (seqQ Z9 0 zhB (retK zla (ztU 0 (InsP (L::zah j c l)))))) K H nx:=by
  intro K H nx v
  refine zd (λs:List Nd×Nat=>([(2,zb l),(4,encP 4 [.int .u32 g.addr,encL 2 Xj g.blocks,zb (ordE (eG g)),za (Dm.treeL (eG g))]),(7,encP 3 [.int .i64 c.f,.int .i64 c.h,.int .i64 c.x]),(9,.own 0 0 s.2 0 (s.1.length+1)),(10,.int .i64 s.1.length)],[(0,.row 5 (encN L::s.1.map encN) s.2)])) 1
   (λs=>s.1.length<=l.length/\s.1++zah j c (l.drop s.1.length)=zah j c l) (λs=>l.length-s.1.length) ([],0) ⟨We _,rfl⟩ v ?_
  rintro⟨M,γ⟩ ⟨Q,q⟩ wf;simp only at Q q;clear wf;unfold zhy;by_cases t:M.length<l.length
  case neg=>
   have D:l.length<=M.length:=by omega
   rw[Wt D,zah,Wr]at q;subst q;refine Qj ?_;intros;unfold zhB;refine Gw1 @zla.eq_1 ?_;intros;refine⟨_,_,_,?ent,γ,rfl,rfl,rfl⟩;exact(Xd [(0,0,0)] [] rfl rfl rfl (by((try simp only[evWB,Xa,Xb,Xf,Xc,Xg,implies_true,Wc,Wg])<;>(repeat' with_reducible apply Wa)<;>first|(first|exact Xi (zal zp (zE λ_=>zp));done)|exact fin6)) (QK @ui @m9C))
  have p:(l.map λ(n:Nat)=>[Xe .i64 (n:Int)]).getD M.length []=[.int .i64 (l[M.length]:Int)]:=zg (f:=cN) (d:=[]) t;have u:=F _ (Wm t);rw[zoK t]at q;have m:=zjL l (M.length+1) c (by omega) (by omega);generalize l[M.length]=x at p u q;generalize zap (l.drop (M.length+1)) c=N at q m;have e:=u N;unfold ctxA at m e;unfold shR at e;generalize j x N=w at q e;have J:((M.length+1:Nat):Int)=(M.length:Int)+1:=by omega
  rw[J]at m;have y:(M++[w])++zah j c (l.drop (M++[w]).length)=zah j c l:=by rw[Ws,Wf,Wk];exact q
  conv in zcQ _ _ _ _=>reduce
  simp only[B,C];refine Gw5 @dT @ub @ua @ud p ?_;intros
  (repeat' first
   |with_reducible apply Wa
   |omega
   |(refine zC (zc m rfl) ?_;(refine Gw6 @dT @ub @ua @ud p @rbN1 ?_;intros;try with_reducible exact trivial))
   |(refine zC (zc e rfl) ?_;(refine Gw9 @dT @ub @ua @ud p @rbN1 A @ui @uh ?_;intros;try with_reducible exact trivial)))
  all_goals exact⟨(M++[w],γ+1),⟨by simp only[Wf,Wk];omega,y⟩,by simp only[Wf,Wk];omega,(Xd [(0,0,0)] [] rfl rfl rfl (by((try simp only[evWB,Xa,Xb,Xf,Xc,Xg,implies_true,Wf,Wn,Wc,Wd,Wg,Wi])<;>(repeat' with_reducible apply Wa)<;>first|(first|exact Xi (zal zp (zi6 (zE λ_=>zp) (zas zp)));done)|exact fin6)) (QL @ub @ud @ua @m9A @m9P @ui @uh @m9C @uj))⟩
 refine Qh ?_;intros
 (repeat' first
  |with_reducible apply Wa
  |omega
  |(refine zC (zc k rfl) ?_;(refine Qh ?_;intros))
  |(refine zC (zc o rfl) ?_;(refine Gw5 @ub @ua @ud @zy @zG ?_;intros;try with_reducible exact trivial)))
 all_goals exact key _ _ _ (Xd [(0,1,0)] [] rfl rfl rfl (by((try simp only[evWB,Xa,Xb,Xf,Xc,Xg,implies_true])<;>(repeat' with_reducible apply Wa)<;>first|(exact zpx zp;done)|exact fin6)) (by((try simp only[evWB,Xa,Xb,Xf,Xc,Xg,implies_true,zb,za,encP])<;>(repeat' with_reducible apply Wa)<;>first|(exact zl rfl;done)|exact fin6)))
theorem zxj{ρ:Nat->Nat}{b g:Nat}{l:List Nd}:AObj.ren ρ (.row b (l.map encN) g)=.row b (l.map encN) g:=by simp only[AObj.ren];exact congrArg (λe=>AObj.row b e g) (zgL (zE λ_=>zp))
theorem zwA(g:G)(hg:OkB g)(F:Nat->Ctx->Nd)(b:Nat)(hb:b∈ordE (eG g))(l:List Nat)(hl:l.length<=1990)(hin:∀x∈zaQ (eG g) b,zuu g F x)(hil:∀x∈l,zuu g F x)(c:Ctx)(V:(trN (shpG g) F b (zap l c)).f.kind=3->∃x y,(trN (shpG g) F b (zap l c)).l=[x,y]) :
  zn Z9 zfj [.agg (shR g),.int .i64 (b:Int),zb l,ctxA c] (·=.agg (encN (zoY (oneG g b) (trN (shpG g) F b (zap l c)) b (zah F c l)))):=by
 refine fn_x zwO rfl ?_;refine dcU zqd.eq_1 ?_;have hB:=hBig;have hE:=zL hg;have X:=zeg (g:=g);have J:=zaT hE hb;rw[X]at J;have A:=zpC g hg F b hb l (by omega) hin hil c;have R:=zij (code:=F) (c:=c) (l:=l);have hst:=hg.stm _ (zes J);have hgb:(g.blocks.map Xj).getD b []=(blG g b).cells:=by rw[zg J,zoL J]
 have Y:(blG g b).cells=[.int .u32 (blG g b).addr,encL 8 St.cells (blG g b).stmts]:=rfl;generalize trN (shpG g) F b (zap l c)=U at A V⊢;generalize zah F c l=k at A R⊢;unfold shR ctxA at A⊢;generalize S:U::k=L at A;have o:L.length=k.length+1:=by rw[<-S];rfl
 have M:(L.map encN).getD 0 []=encN U:=by rw[<-S];rfl
 have p:zz (encN U)=true:=zp;obtain⟨f,j,d⟩:=U;simp only[Nd.f,Nd.l]at V;rw[zaF]at p M;have w:Wq 0=0:=rfl;have H:Wq 1=1:=rfl;refine Qh ?_;intros;refine zbL [] 0 _ (A) rfl rfl (Gin1_3 @ua @ub @ud) (Gin1_3 @ua @ub @ud) ?_;rintro _ _ _ ⟨γ,rfl,rfl,rfl⟩;refine Gw6 @zxj o M w hgb Y ?_;intros;have D:zoY (oneG g b) (.mk f j d) b k=if oneG g b&&isWh (.mk f j d)then .mk ⟨5,b,0⟩ j [nSeq (hd0 (.mk f j d)::k)]else .mk ⟨4,0,0⟩ [] [nSeq (zaq 2 b 0::.mk f j d::k)]:=rfl
 have B:zix ([Xe .i64 2,.int .i64 (b:Int),.int .i64 0,.nilsl,.nilsl]::L.map encN) (zaq 2 b 0::.mk f j d::k):=⟨.inr ⟨_,_,_,rfl,rfl⟩,by rw[<-S];exact zd4 _⟩;have v:(L.map encN).take (k.length+1)=L.map encN:=WB (by rw[Wh];omega)
 have m:∀x y z q,Frz [(0,.row 5 x y),(1,.row 5 (L.map encN) γ),(2,.row 5 [[.int .i64 f.kind,.int .i64 f.block,.int .i64 f.label,encL 5 encX j,encL 5 encN d]] z),(3,.row 5 ([Xe .i64 2,.int .i64 (b:Int),.int .i64 0,.nilsl,.nilsl]::L.map encN) 1),(4,.row 5 [[.int .i64 1,.int .i64 0,.int .i64 0,.nilsl,.own 3 0 1 0 (1+(k.length+1))]] q)] (.agg [.int .i64 4,.int .i64 0,.int .i64 0,.nilsl,.own 4 0 q 0 1]) (.agg (encN (.mk ⟨4,0,0⟩ [] [nSeq (zaq 2 b 0::.mk f j d::k)]))):=by
  intro x y z q;rw[zaF];refine Eq.mpr zcX ?_;refine⟨.int _ _ _,.int _ _ _,.int _ _ _,zf1,zpL trivial rfl (zg2 B ?_ trivial rfl ?_),trivial⟩
  .simp only[Wc];omega
  .omega
 by_cases h1:(blG g b).stmts.length=1
 case neg=>
  have u:¬(((blG g b).stmts.length:Nat):Int)=1:=by omega
  have e:zoY (oneG g b) (.mk f j d) b k=.mk ⟨4,0,0⟩ [] [nSeq (zaq 2 b 0::.mk f j d::k)]:=by rw[D];unfold oneG;rw[decide_eq_false h1];rfl
  rw[e];refine Gw8 @dT @dF u @m9M @ui @uh o v ?_;intros;refine zH (zis rfl rfl ⟨⟨by omega,zF rfl⟩,⟨by omega,zdS⟩,⟨by omega,zaf (zas p)⟩,⟨by omega,zaf (zbh B)⟩,trivial⟩ rfl rfl) ?_;rintro _ _ _ ⟨rfl,rfl,rfl⟩;refine Gw1 @zd8.eq_1 ?_;intros;exact⟨_,m _ _ _ _,rfl⟩
 have u:(((blG g b).stmts.length:Nat):Int)=1:=by omega
 have T:oneG g b=true:=by unfold oneG;rw[decide_eq_true h1]
 by_cases I:f.kind=3
 case neg=>
  have e:zoY (oneG g b) (.mk f j d) b k=.mk ⟨4,0,0⟩ [] [nSeq (zaq 2 b 0::.mk f j d::k)]:=by rw[D,T];rw[zFs (n:=.mk f j d) I];rfl
  rw[e];refine Gw8 @dT @dF u @m9M @ui @uh o v ?_;intros;refine zH (zis rfl rfl ⟨⟨by omega,zF rfl⟩,⟨by omega,zdS⟩,⟨by omega,zaf (zas p)⟩,⟨by omega,zaf (zbh B)⟩,trivial⟩ rfl rfl) ?_;rintro _ _ _ ⟨rfl,rfl,rfl⟩;refine Gw1 @zd8.eq_1 ?_;intros;exact⟨_,m _ _ _ _,rfl⟩
 obtain⟨x,y,C⟩:=V I;have s:(d.map encN).getD 0 []=encN x:=by rw[C];rfl
 have t:(d.map encN).getD 1 []=encN y:=by rw[C];rfl
 have O:d.length=2:=by rw[C];rfl
 have P:isWh (.mk f j d)=(decide (y.f.kind=7)&&decide (x.f.kind≠7)):=by unfold isWh;simp[Nd.f,Nd.l,I,C]
 have Z:zz (encN x)=true:=zp;by_cases Q:y.f.kind=7
 case neg=>
  have e:zoY (oneG g b) (.mk f j d) b k=.mk ⟨4,0,0⟩ [] [nSeq (zaq 2 b 0::.mk f j d::k)]:=by rw[D,T,P,decide_eq_false Q];rfl
  rw[e]
  (repeat first|simp(disch:=try exact dis1) only[evD,Xa,Xb,Xc,dT,dF,u,I,O,s,t,w,H,za5,zG,zaO,zy,Wh,Wc,Wd,o,v]|with_reducible first|intro _|refine aJ ?_)
  refine Gw7 @dT @dF @m9M @ui @uh o v ?_;intros;rw[I]at p m;refine zH (zis rfl rfl ⟨⟨by omega,zF rfl⟩,⟨by omega,zdS⟩,⟨by omega,zaf (zas p)⟩,⟨by omega,zaf (zbh B)⟩,trivial⟩ rfl rfl) ?_;rintro _ _ _ ⟨rfl,rfl,rfl⟩;refine Gw1 @zd8.eq_1 ?_;intros;exact⟨_,m _ _ _ _,rfl⟩
 by_cases W:x.f.kind=7
 case pos=>
  have e:zoY (oneG g b) (.mk f j d) b k=.mk ⟨4,0,0⟩ [] [nSeq (zaq 2 b 0::.mk f j d::k)]:=by rw[D,T,P,decide_eq_true Q,decide_eq_false (λh=>h W)];rfl
  rw[e]
  (repeat first|simp(disch:=try exact dis1) only[evD,Xa,Xb,Xc,dT,dF,u,I,O,s,t,w,H,Q,za5,zG,zaO,zy,Wh,Wc,Wd,o,v]|with_reducible first|intro _|refine aJ ?_)
  refine Gw8 @dT @dF W @m9M @ui @uh o v ?_;intros;rw[I]at p m;refine zH (zis rfl rfl ⟨⟨by omega,zF rfl⟩,⟨by omega,zdS⟩,⟨by omega,zaf (zas p)⟩,⟨by omega,zaf (zbh B)⟩,trivial⟩ rfl rfl) ?_;rintro _ _ _ ⟨rfl,rfl,rfl⟩;refine Gw1 @zd8.eq_1 ?_;intros;exact⟨_,m _ _ _ _,rfl⟩
 have e:zoY (oneG g b) (.mk f j d) b k=.mk ⟨5,b,0⟩ j [nSeq (x::k)]:=by rw[D,T,P,decide_eq_true Q,decide_eq_true W,C];rfl
 rw[e];have N:(L.map encN).set 0 (encN x)=(x::k).map encN:=by rw[<-S];rfl
 (repeat first|simp(disch:=try exact dis1) only[evD,Xa,Xb,Xc,dT,dF,u,I,O,s,t,w,H,Q,za5,zG,zaO,zy,Wh,Wc,Wd,o,N]|with_reducible first|intro _|refine aJ ?_)
 (repeat first|simp(disch:=try exact dis1) only[evD,Xa,Xb,Xc,dT,dF,s,t,w,H,zG,zaO,zy,Z,Wh,Wc,Wd,o,N]|with_reducible first|intro _|refine aJ ?_)
 rw[I]at p;have K:zix (encN x::k.map encN) (x::k):=⟨.inl rfl,zd4 _⟩
 (repeat' first
  |with_reducible apply Wa
  |(refine zH (zis rfl rfl ⟨⟨by omega,zF rfl⟩,⟨by omega,zaf (zbh K)⟩,⟨by omega,zaf (zas p)⟩,trivial⟩ rfl rfl) ?_;rintro _ _ _ ⟨rfl,rfl,rfl⟩;(refine Gw1 @zd8.eq_1 ?_;intros;try with_reducible exact trivial)))
 all_goals refine⟨_,?_,rfl⟩
 all_goals rw[zaF]
 all_goals refine Eq.mpr zcX ?_
 all_goals refine⟨.int _ _ _,.int _ _ _,.int _ _ _,zV rfl,zpL trivial rfl (zg2 K ?_ trivial rfl ?_),trivial⟩
 all_goals try simp only[Wc]
 all_goals omega
end Go.Ab
namespace Go.Ab
open Go.RowKit Go.Proofs Go.Ab.Dm
theorem zwF{S:Shp}{k x:Nat}{l:List Nat}(h:x∈resG S k l):x∈l:=(Wu.1 h).1
theorem zC5{b:Nat->Ctx->Nd}{inl:List Nat}{c:Ctx}{t:Int}(h:∀x∈inl,(b x c).f.kind=1):(wayZ b inl c t).f.kind≠3:=by
 unfold wayZ;split
 .rename_i d;rw[h _ d];decide
 .unfold zgH;split
  .show (1:Int)≠3;decide
  .split
   .show (8:Int)≠3;decide
   .split
    .show (7:Int)≠3;decide
    .show (9:Int)≠3;decide
theorem zxr{s:St}{cd:Nat->Ctx->Nd}{inl:List Nat}{c:Ctx}(h:∀x∈inl,(cd x c).f.kind=1)(d:(trZ s cd inl c).f.kind=3):∃a b,(trZ s cd inl c).l=[a,b]:=by
 unfold trZ at d⊢;split at d
 .exact absurd d (zC5 h)
 .rename_i e;rw[if_neg e];split at d
  .rename_i g;rw[if_pos g];exact⟨_,_,rfl⟩
  .split at d
   .exact absurd (show(6:Int)=3 from d) (by decide)
   .split at d
    .exact absurd (show(11:Int)=3 from d) (by decide)
    .exact absurd (show(12:Int)=3 from d) (by decide)
theorem zBW{H b:AH}{σ:Nat->Nat->Option (Nat×Nat×Nat)}{D:Nat->Nat->Prop}{t:Bool}{r q g:Nat}{n:Nd}(c:D r q)(d:H.get r q=some (.row 5 [encN n] g)):Vw H b σ D t (.ptr r q g 0 0) (encP 5 (encN n)) :=
 .frzp t r q g 0 0 5 5 _ _ c d (by simp) (by simp) (λj e=>by
  rw[Nat.zero_add]
  exact zwm n j e)
theorem zKr{g:G}(b:OkB g){k:Nat}:(zaQ (eG g) k).Nodup:=((Dm.rpo (zL b).ok (zL b).pos).nd).filter _
theorem zHJ{g:G}{k:Nat}:(zfo (eG g) k).length<=g.blocks.length:=by
 have:=zpg (E:=eG g) (b:=k)
 rwa [zeg]at this
theorem inB_eq{g:G}(c:OkB g){k:Nat}(d:k<g.blocks.length)(x:Nat):(shpG g).inB k x=decide (x∈zfo (eG g) k):=by have h:=ztP (zL c) (b:=k) (x:=x) (by rw[zeg];exact d);show @decide (zgi (eG g) k x) (Classical.propDecidable _)=_;rw[Wv,@decide_eq_true_iff _ (Classical.propDecidable _),decide_eq_true_iff];exact h.symm
theorem Qy{p:Prop}(h:p:=by(try simp only[evWB,Nat.reduceBEq,Nat.reduceAdd,Nat.reduceSub,Nat.reduceLeDiff,Nat.reduceLT,implies_true,zb,encP,zN,List.length_append,List.map_append,List.length_cons,List.length_nil,List.map_cons,List.map_nil])<;>(repeat' with_reducible apply And.intro)<;>first|(first|exact RowV.of_flat zI|exact zl rfl;done)|exact fin6):p:=h
theorem QM{c d p:Prop}(a0:c)(b:d)(h:c->d->p:=by intro a0 b;(try simp only[evWB,Nat.reduceBEq,Nat.reduceAdd,Nat.reduceSub,Nat.reduceLeDiff,Nat.reduceLT,implies_true,a0,b])<;>(repeat' with_reducible apply And.intro)<;>first|(first|exact RowV.of_flat zI|exact zl rfl|exact zbX rfl rfl (by omega);done)|exact fin6):p:=h a0 b
theorem ziy(g:G)(y:OkB g)(cd:Nat->Ctx->Nd)(k:Nat)(hk:k∈ordE (eG g))(hh:zhz (eG g) k=true)(z:∀x∈zaQ (eG g) k,zsX g cd x)(hk1:∀x∈zaQ (eG g) k,∀c,(cd x c).f.kind=1)(c:Ctx)(lb:Nd):
  zke g zbE [.int .i64 (k:Int),.agg (encN lb),zb (zfo (eG g) k),ctxA c] (.agg (encN (nSeq (lb::zsy (shpG g) cd k c::zah cd c (beyL (shpG g) k))))):=by
 have hlf:(Xm (encN lb)).flat=true:=flA;refine zhb ?_ (by show(true&&((Xm (encN lb)).flat&&(true&&(true&&true))))=true;rw[hlf];rfl) flA;refine zaA (fn_x zjZ rfl ?_);unfold zeU bldH ctxA;have hB:=hBig;have A:k<g.blocks.length:=by have:=zaT (zL y) hk;rwa [zeg]at this
 have hkd:=znq y (k:=k);have hn:=y.small.1;have hgl:g.toG.blocks.length=g.blocks.length:=by simp[G.toG]
 rw[hgl]at hn;have hbl:=zHJ (g:=g) (k:=k);have X:=inB_eq y A;have Y:beyL (shpG g) k=aftG (shpG g) k (zaQ (eG g) k):=zps hh;have hr:zk4 (shpG g) k=resG (shpG g) k (zaQ (eG g) k):=zB5 hh;have hnd:=zKr y (k:=k);have t:=λx (o:x∈zaQ (eG g) k)=>zDy y o
 have hkg:=zAU (g:=g) A;have hcnt:(shpG g).cnt=cntE (eG g):=rfl;have hef:zz (encN lb)=true:=zp;refine Gw2 hef @zy ?_;intros
 (repeat first|simp(disch:=try exact dis1) only[evD,Xa,Xb,Xc,encNN,hkg,Wh,Ww]|with_reducible first|intro _|refine aJ ?_)
 refine Gw2 @ub @ua ?_;intros;generalize hks:zaQ (eG g) k=b at hkd Y hr hnd t hkg z hk1;generalize hbo:zfo (eG g) k=bo at hbl X
 refine zd (λs:Nat×Nat×Nat=>([(0,.ptr 0 0 0 0 0),(1,.int .i64 (k:Int)),(3,zb bo),(7,encP 5 (encN lb)),(9,encP 3 [.int .i64 c.f,.int .i64 c.h,.int .i64 c.x]),(10,.ptr 2 0 0 0 0),(11,.own 3 0 s.2.1 0 (aftG (shpG g) k (b.take s.1)).length),(12,.own 4 0 s.2.2 0 (resG (shpG g) k (b.take s.1)).length),(28,zb b),(29,.int .i64 b.length),(30,.int .i64 s.1)],bldH g [(2,.row 5 [zN] 0),(3,.row 1 ((aftG (shpG g) k (b.take s.1)).map cN) s.2.1),(4,.row 1 ((resG (shpG g) k (b.take s.1)).map cN) s.2.2)])) 5
  (λs=>s.1<=b.length) (λs=>b.length-s.1) (0,0,0) (We _) ?start ?_
 case start=>have W:aftG (shpG g) k (b.take 0)=[]:=rfl;have h2:resG (shpG g) k (b.take 0)=[]:=rfl;unfold bldH;exact(Xd [(0,0,0),(1,1,0),(2,2,0),(3,3,0),(4,4,0)] [] rfl rfl rfl (by((try simp only[evWB,Xa,Xb,Xf,Xc,Xg,implies_true,zb,encP,zN,W,h2])<;>(repeat' with_reducible apply Wa)<;>first|(first|exact Xi zI|exact zl rfl;done)|exact fin6)) (by((try simp only[evWB,Xa,Xb,Xf,Xc,Xg,implies_true,zb,encP,zN,W,h2])<;>(repeat' with_reducible apply Wa)<;>first|(first|exact Xi zI|exact zl rfl;done)|exact fin6)))
 rintro⟨i,γ,B⟩ hi wf;simp only at hi;clear wf;refine dcU zdE.eq_1 ?_;by_cases M:i<b.length
 case neg=>
  obtain rfl:i=b.length:=by omega
  rw[WC];have u:=zhJ g y (resG (shpG g) k b) (by have:=zsc (S:=shpG g) (k:=k) (l:=b);omega) (λx o=>t x (zwF o));have O:zJ (shpG g) k=plG (shpG g) (resG (shpG g) k b):=by rw[zvd,hr]
  have hil:inlL (shpG g) k=inG (shpG g) (resG (shpG g) k b):=by rw[zDP,hr]
  have hps:∀x∈zJ (shpG g) k,x∈b:=λx o=>by rw[O]at o;exact zwF (Wu.1 o).1
  have N:∀x∈inlL (shpG g) k,x∈b:=λx o=>by rw[hil]at o;exact zwF (Wu.1 o).1
  rw[<-O,<-hil]at u;have D:(zJ (shpG g) k).length<=1000:=by rw[O];have:=zwb (S:=shpG g) (l:=resG (shpG g) k b);have:=zsc (S:=shpG g) (k:=k) (l:=b);omega
  have hlst:(shpG g).last k=zgs g k:=rfl;have hone:(shpG g).one k=oneG g k:=rfl;unfold zsy inC;rw[zAH,hlst,hone,Y];have J:=zsh (S:=shpG g) (k:=k) (l:=b);have P:=zsc (S:=shpG g) (k:=k) (l:=b);have has:=λx (o:x∈aftG (shpG g) k b)=>zB2 o
  generalize zJ (shpG g) k=V at u hps D⊢;generalize inlL (shpG g) k=il at u N⊢;generalize aftG (shpG g) k b=q at J has⊢;generalize resG (shpG g) k b=re at u P⊢;obtain⟨v,U⟩:∃v,v=(zap q c).f:=⟨_,rfl⟩;rw[<-U];have hfi:=zjk V ⟨k,k,v⟩;have htr:=zfq g y cd k A il (zap V ⟨k,k,v⟩) (λx o=>z x (N x o));have Z:=zev g cd V D ⟨k,k,v⟩ (λx o=>z x (hps x o));have C:=zev g cd q (by omega) c (λx o=>z x (has x o));have h3:=zxr (s:=zgs g k) (cd:=cd) (inl:=il) (c:=zap V ⟨k,k,v⟩) (λx o=>hk1 x (N x o) _);generalize trZ (zgs g k) cd il (zap V ⟨k,k,v⟩)=tr at htr h3⊢;have hchl:=zij (code:=cd) (c:=⟨k,k,v⟩) (l:=V);generalize zah cd ⟨k,k,v⟩ V=ch at Z hchl⊢;have K:=zij (code:=cd) (c:=c) (l:=q);generalize zah cd c q=ch2 at C K⊢;unfold bldH;refine Gw1 @dF ?_;intros;refine zaD [(0,.ptr 0 0 0 0 0),(1,.int .i64 (k:Int)),(7,encP 5 (encN lb)),(9,encP 3 [.int .i64 c.f,.int .i64 c.h,.int .i64 c.x]),(10,.ptr 2 0 0 0 0),(11,zb q),(12,zb re)] (bldH g [(2,.row 5 [zN] 0)]) 3 λ_=>⟨?_,?_⟩
  .unfold bldH;exact(Xd [(0,0,0),(1,1,0),(2,2,0)] [3,4] rfl rfl rfl (QM @ua @uk) (QM @ua @uk))
  unfold zdG bldH;refine Gw1 @ua ?_;intros;refine zH (u _ _ (Xh (by omega) (by omega) (zF rfl) (Xk (by omega)))) ?_;rintro _ _ _ ⟨rfl,rfl,rfl⟩;unfold bldH;rcases q with _|⟨a,q⟩
  case' cons=>have hga:((a::q).map λ(n:Nat)=>[Xe .i64 (n:Int)]).getD 0 []=[.int .i64 (a:Int)]:=rfl
  case' nil=>have L:zb ([]:List Nat)=encL 1 (λ(n:Nat)=>[Xe .i64 (n:Int)]) []:=rfl
  case' cons=>have L:zb (a::q)=encL 1 (λ(n:Nat)=>[Xe .i64 (n:Int)]) (a::q):=rfl
  case' nil=>refine Gw3 L @uh @dF ?_;intros
  case' cons=>(repeat first|simp(disch:=try exact dis1) only[evD,Xa,Xb,Xc,L,Wc,dT,hga,Int.toNat_zero]|with_reducible first|intro _|refine aJ ?_)
  case' nil=>obtain rfl:v=c.f:=U
  case' cons=>obtain rfl:v=(a:Int):=U
  all_goals refine ze (zc hfi rfl) ?_
  all_goals(refine Gw0 ?_;intros;try with_reducible exact trivial)
  all_goals refine zH (htr _ _ (Xh (by omega) (by omega) (zF rfl) (Xh (by omega) (by omega) (zF rfl) (Xk (by omega))))) ?_
  all_goals rintro _ _ _ ⟨rfl,rfl,rfl⟩
  all_goals unfold bldH
  all_goals(refine Gw1 @zy ?_;intros;try with_reducible exact trivial)
  all_goals refine zH (Z _ _ (Xh (by omega) (by omega) (zF rfl) (Xh (by omega) (by omega) (zF rfl) (Xh (by omega) (by omega) (zaf (zas zp)) (Xk (by omega)))))) ?_
  all_goals rintro _ _ _ ⟨rfl,rfl,rfl⟩
  all_goals unfold bldH
  all_goals(refine Gw0 ?_;intros;try with_reducible exact trivial)
  case' nil=>refine zaD [(0,.ptr 0 0 0 0 0),(1,.int .i64 (k:Int)),(7,encP 5 (encN lb)),(9,encP 3 [.int .i64 c.f,.int .i64 c.h,.int .i64 c.x]),(10,.ptr 2 0 0 0 0),(11,zb []),(19,encP 5 (encN tr)),(20,encL 5 encN ch)] (bldH g [(2,.row 5 [zN] 0)]) 3 λ_=>⟨?_,?_⟩
  case' cons=>refine zaD [(0,.ptr 0 0 0 0 0),(1,.int .i64 (k:Int)),(7,encP 5 (encN lb)),(9,encP 3 [.int .i64 c.f,.int .i64 c.h,.int .i64 c.x]),(10,.ptr 2 0 0 0 0),(11,zb (a::q)),(19,encP 5 (encN tr)),(20,encL 5 encN ch)] (bldH g [(2,.row 5 [zN] 0)]) 3 λ_=>⟨?_,?_⟩
  all_goals first
   |exact zqt g y k A c lb tr ch ch2 _ rfl (by omega) (by omega) h3 C
   |(
     unfold bldH
     exact(Xd [(0,0,0),(1,1,0),(2,2,0)] [3,4] rfl rfl rfl (QJ @ua @uk) (by((try simp only[evWB,Xa,Xb,Xf,Xc,Xg,implies_true,encP,zN])<;>(repeat' with_reducible apply Wa)<;>first|(first|exact zl rfl|exact zBW rfl rfl;done)|exact fin6))))
 have o:=t _ (Wm M);have T:b[i]∉b.take i:=λh=>by obtain⟨j,hj,e⟩:=List.getElem_of_mem h;rw[WD]at hj;rw[List.getElem_take]at e;have:=(List.getElem_inj hnd).1 e;omega
 have Q:b.take (i+1)=b.take i++[b[i]]:=WE M;have hgi:(b.map λ(n:Nat)=>[Xe .i64 (n:Int)]).getD i []=[.int .i64 (b[i]:Int)]:=zg (f:=cN) (d:=[]) M;have J:=zsh (S:=shpG g) (k:=k) (l:=b.take i);have P:=zsc (S:=shpG g) (k:=k) (l:=b.take i);rw[WD]at J P;generalize b[i]=x at o T Q hgi;have hge:(((Wj g.blocks.length).map (cntE (eG g))).map λ(n:Nat)=>[Xe .i64 (n:Int)]).getD x []=[.int .i64 (cntE (eG g) x:Int)]:=by rw[zg (by simp;exact o)];simp
 have hcon:=zcB bo x;have m:beyC (shpG g) k (aftG (shpG g) k (b.take i)) x=true->aftG (shpG g) k (b.take (i+1))=aftG (shpG g) k (b.take i)++[x]/\resG (shpG g) k (b.take (i+1))=resG (shpG g) k (b.take i):=λh=>by rw[Q];exact⟨zv6 h,zH0 h T⟩
 have p:beyC (shpG g) k (aftG (shpG g) k (b.take i)) x=false->aftG (shpG g) k (b.take (i+1))=aftG (shpG g) k (b.take i)/\resG (shpG g) k (b.take (i+1))=resG (shpG g) k (b.take i)++[x]:=λh=>by rw[Q];exact⟨zAg h,zK3 h T⟩
 unfold beyC at m p;rw[X,hcnt]at m p;unfold bldH;refine Gw3 @dT @ub hgi ?_;intros;refine ze (zc hcon rfl) ?_;by_cases R:x∈bo
 .obtain⟨F,H⟩:=p (by rw[decide_eq_true R];rfl);rw[decide_eq_true R];clear m p;refine Gw2 @dT @dF ?_;intros;exact⟨(i+1,γ,B+1),by simp only;omega,by simp only;omega,by rw[F,H];exact(Xd [(0,0,0),(1,1,0),(2,2,0),(3,3,0),(4,4,0)] [] rfl rfl rfl Qy Qy)⟩
 rw[decide_eq_false R]at m p⊢;by_cases h0:(aftG (shpG g) k (b.take i)).length=0
 .have hem:aftG (shpG g) k (b.take i)=[]:=List.length_eq_zero_iff.1 h0;obtain⟨F,H⟩:=m (by rw[hem];rfl);clear m p;have w:(((aftG (shpG g) k (b.take i)).length:Nat):Int)=0:=by omega
  refine Gw3 @dT @dF w ?_;intros;exact⟨(i+1,γ+1,B),by simp only;omega,by simp only;omega,by rw[F,H];exact(Xd [(0,0,0),(1,1,0),(2,2,0),(3,3,0),(4,4,0)] [] rfl rfl rfl Qy Qy)⟩
 have hne:(aftG (shpG g) k (b.take i)).isEmpty=false:=by cases hh2:aftG (shpG g) k (b.take i)with
  |nil=>rw[hh2]at h0;exact absurd rfl h0
  |cons a l=>rfl
 have w:¬(((aftG (shpG g) k (b.take i)).length:Nat):Int)=0:=by omega
 rw[hne]at m p;by_cases W:cntE (eG g) x=1
 .obtain⟨F,H⟩:=p (by simp[W]);clear m p;have I:((cntE (eG g) x:Nat):Int)=1:=by omega
  (repeat first|simp(disch:=try exact dis1) only[evD,Xa,Xb,Xc,dT,dF,w,hge,Wh,Ww]|with_reducible first|intro _|refine aJ ?_)
  refine Gw3 @dT @dF I ?_;intros;exact⟨(i+1,γ,B+1),by simp only;omega,by simp only;omega,by rw[F,H];exact(Xd [(0,0,0),(1,1,0),(2,2,0),(3,3,0),(4,4,0)] [] rfl rfl rfl Qy Qy)⟩
 .obtain⟨F,H⟩:=m (by simp[W]);clear m p;have I:¬((cntE (eG g) x:Nat):Int)=1:=by omega
  (repeat first|simp(disch:=try exact dis1) only[evD,Xa,Xb,Xc,dT,dF,w,hge,Wh,Ww]|with_reducible first|intro _|refine aJ ?_)
  refine Gw3 @dT @dF I ?_;intros;exact⟨(i+1,γ+1,B),by simp only;omega,by simp only;omega,by rw[F,H];exact(Xd [(0,0,0),(1,1,0),(2,2,0),(3,3,0),(4,4,0)] [] rfl rfl rfl Qy Qy)⟩
end Go.Ab
namespace Go.Ab
open Go.RowKit Go.Proofs
theorem rbC1{c:List AV}{z:List AV}{H:AH}{nx:Nat}(d:c.length=5)(b:zz c=true):zbu 5 1 z [(0,.agg c)] H nx=⟨True,True,encL 5 (λ(x:List AV)=>x) [c],H,nx⟩:=by have h:(znJ 1 5 [(0,Xm c)]/\(zc7 (List.replicate 1 z) [(0,.agg c)]).all zz=true)=True:=eq_true ⟨by simp[znJ,Xq,d,AV.solid],by simp[zc7,Xq,b]⟩;unfold zbu;rw[h];rfl
theorem elC1{c:List AV}{H:AH}(d:c.length=5):zcq 5 (encL 5 (λ(x:List AV)=>x) [c]) H=some [c]:=za7 (λa b=>by rw[WF.1 b];exact d)
attribute [local irreducible] zbg zds in
set_option maxHeartbeats 1000000 in
theorem zAq(g:G)(I:OkB g)(e:Nat->Ctx->Nd)(k:Nat)(hk:k∈ordE (eG g))(u:∀x∈zaQ (eG g) k,zuu g e x)(hk1:∀x∈zaQ (eG g) k,∀c,(e x c).f.kind=1)(c:Ctx)(R:Nd)(D:R=if (shpG g).head k then nSeq (zaq 10 0 k::zsy (shpG g) e k c::zah e c (beyL (shpG g) k))else nSeq (zaq 10 0 k::zaq 2 k 0::trN (shpG g) e k (zap (zJ (shpG g) k) c)::zah e c (zJ (shpG g) k))) :
  wpX Z9 0 zj5 (retK ziY λv H' _=>∃a,Frz H' v a/\a=.agg (encN R))
   [(1,.int .i64 (k:Int)),(3,encP 4 [.int .u32 g.addr,encL 2 Xj g.blocks,zb (ordE (eG g)),za (Dm.treeL (eG g))]),(5,encP 3 [.int .i64 c.f,.int .i64 c.h,.int .i64 c.x]),(6,.ptr 0 0 0 0 0),(7,zb (beyL (shpG g) k)),(9,zb (zJ (shpG g) k))] [(0,.row 5 [zN] 0)] 1:=by
 unfold zj5;have hB:=hBig;have hE:=zL I;have hEl:=zeg (g:=g);have X:=zaT hE hk;rw[hEl]at X;have hn:=I.small.1;have hgl:g.toG.blocks.length=g.blocks.length:=by simp[G.toG]
 rw[hgl]at hn;have hkd:=znq I (k:=k);have hi0:Wl 0=0:=rfl;have hi1:Wl 1=1:=rfl;have J:=znX g I k X;have hnh:=zxG hE (b:=k) (by omega);have hnn:=zGp hE (b:=k) (by omega);have Y:=zBG hE (b:=k) (by omega);have W:Wl 2=2:=rfl;have hi10:Wl 10=10:=rfl;have Z:∀x∈zJ (shpG g) k,x∈zaQ (eG g) k:=λx B=>(zqG.1 B).1
 have N:∀x∈beyL (shpG g) k,x∈zaQ (eG g) k:=λx B=>zsa B
 have hpl:(zJ (shpG g) k).length<=1000:=by have h1:=Wx (λx=>decide ((shpG g).cnt x≠1)) (zk4 (shpG g) k);have h2:=Wx (λx=>decide (x∉beyL (shpG g) k)) (zaQ (eG g) k);have h3:(zk4 (shpG g) k).length<=(zaQ (eG g) k).length:=h2;have h4:(zJ (shpG g) k).length<=(zk4 (shpG g) k).length:=h1;omega
 have hrb:∀H nx,zbu 5 1 [.int .i64 0,.int .i64 0,.int .i64 0,.nilsl,.nilsl] [(0,.agg [.int .i64 2,.int .i64 (k:Int),.int .i64 0,.nilsl,.nilsl])] H nx=⟨True,True,encL 5 (λ(x:List AV)=>x) [[Xe .i64 2,.int .i64 (k:Int),.int .i64 0,.nilsl,.nilsl]],H,nx⟩:=λH nx=>rbC1 rfl rfl
 have hec:∀H,zcq 5 (encL 5 (λ(x:List AV)=>x) [[Xe .i64 2,.int .i64 (k:Int),.int .i64 0,.nilsl,.nilsl]]) H=some [[Xe .i64 2,.int .i64 (k:Int),.int .i64 0,.nilsl,.nilsl]]:=λH=>elC1 rfl
 have Q:∀(w:Nd) H,zcq 5 (encL 5 encN [w]) H=some [encN w]:=λw H=>za7 (λ_ _=>zy)
 have U:natL (eG g) k=natL (eG g) k:=rfl;clear U
 cases V:zhz (eG g) k with
 |false=>
  have A:=hnn V;rw[if_neg (by show ¬zhz (eG g) k=true;rw[V];exact WG)]at D;have q:=zpC g I e k hk (zJ (shpG g) k) (by omega) u (λx B=>u x (Z x B)) c;have O:=zij (code:=e) (c:=c) (l:=zJ (shpG g) k);generalize trN (shpG g) e k (zap (zJ (shpG g) k) c)=tr at q D;generalize zah e c (zJ (shpG g) k)=ch at q D O;unfold shR ctxA at q;generalize hL:tr::ch=L at q;have hLl:L.length=ch.length+1:=by rw[<-hL];rfl
  have htk:(L.map encN).take L.length=L.map encN:=WB (by rw[Wh];omega);have t:zix ([Xe .i64 10,.int .i64 0,.int .i64 (k:Int),.nilsl,.nilsl]::[Xe .i64 2,.int .i64 (k:Int),.int .i64 0,.nilsl,.nilsl]::L.map encN) (zaq 10 0 k::zaq 2 k 0::tr::ch):=⟨.inr ⟨_,_,_,rfl,rfl⟩,.inr ⟨_,_,_,rfl,rfl⟩,by rw[<-hL];exact zd4 _⟩;subst D;refine Gw5 @ua @ub @ud @ui @uh ?_;intros;refine ze (zc J rfl) ?_;generalize natL (eG g) k=nl at A Y;refine Gw9 @dT @ua @ub @ud A hrb hec @ui @uh ?_;intros;refine zbL [] 0 _ (q) rfl rfl (Gin1_3 @ua @ub @ud) (Gin1_3 @ua @ub @ud) ?_;rintro _ _ _ ⟨γ,rfl,rfl,rfl⟩;refine Gw5 @zxj htk @m9M @ui @uh ?_;intros;refine zH (zis rfl rfl ⟨⟨by omega,zF rfl⟩,⟨by omega,zaf (zbh t)⟩,⟨by omega,zdS⟩,trivial⟩ rfl rfl) ?_;rintro _ _ _ ⟨rfl,rfl,rfl⟩;refine Gw1 @ziY.eq_1 ?_;intros;refine⟨_,?_,rfl⟩;unfold nSeq;rw[zaF];refine Eq.mpr zcX ?_;exact⟨.int _ _ _,.int _ _ _,.int _ _ _,zf1,zg2 t (by simp only[Wc];omega) trivial rfl (by omega),trivial⟩
 |true=>
  have A:=hnh V;rw[if_pos (show(shpG g).head k=true from V)]at D
  have m:=zwA g I e k hk (zJ (shpG g) k) (by omega) u (λx B=>u x (Z x B)) (inC (shpG g) k c) (by
   rw[zAH]
   exact zxr λx B=>hk1 x (zs7.1 B).1 _)
  have hlN:zoY (oneG g k) (trN (shpG g) e k (zap (zJ (shpG g) k) (inC (shpG g) k c))) k (zah e (inC (shpG g) k c) (zJ (shpG g) k))=zsy (shpG g) e k c:=rfl;rw[hlN]at m;generalize zsy (shpG g) e k c=lp at m D;have hbl:(beyL (shpG g) k).length<=1000:=by have h1:beyL (shpG g) k=aftG (shpG g) k (zaQ (eG g) k):=zps V;have h2:=zsh (S:=shpG g) (k:=k) (l:=zaQ (eG g) k);rw[h1];omega
  have p:=zjL (beyL (shpG g) k) 0 c (by omega) (by omega);rw[List.drop_zero]at p;have hcz:((0:Nat):Int)=0:=rfl;rw[hcz]at p;have hic:inC (shpG g) k c=⟨k,k,(zap (beyL (shpG g) k) c).f⟩:=rfl;rw[hic]at m;generalize zap (beyL (shpG g) k) c=c0 at p m;unfold shR ctxA at m;unfold ctxA at p;simp only at m;generalize beyL (shpG g) k=j at p hbl N D⊢;generalize zJ (shpG g) k=pl at m hpl⊢
  have key:∀(K:Kn)(H:AH)(nx:Nat),Ent 0 K H nx [(3,encP 4 [.int .u32 g.addr,encL 2 Xj g.blocks,zb (ordE (eG g)),za (Dm.treeL (eG g))]),(5,encP 3 [.int .i64 c.f,.int .i64 c.h,.int .i64 c.x]),(6,.ptr 0 0 0 0 0),(7,zb j),(11,.own 1 0 0 0 2),(12,.int .i64 0)] [(0,.row 5 [zN] 0),(1,.row 5 ([Xe .i64 10,.int .i64 0,.int .i64 (k:Int),.nilsl,.nilsl]::encN lp::[]) 0)] 2 ->
    zCP Z9 0 zjS (zg0 2 (seqQ Z9 0 zjX (retK ziY λv H' _=>∃a,Frz H' v a/\a=.agg (encN R)))) K H nx:=by
   intro K H nx T
   refine zd (λs:List Nd×Nat=>([(3,encP 4 [.int .u32 g.addr,encL 2 Xj g.blocks,zb (ordE (eG g)),za (Dm.treeL (eG g))]),(5,encP 3 [.int .i64 c.f,.int .i64 c.h,.int .i64 c.x]),(6,.ptr 0 0 0 0 0),(7,zb j),(11,.own 1 0 s.2 0 (s.1.length+2)),(12,.int .i64 s.1.length)],[(0,.row 5 [zN] 0),(1,.row 5 ([Xe .i64 10,.int .i64 0,.int .i64 (k:Int),.nilsl,.nilsl]::encN lp::s.1.map encN) s.2)])) 2
    (λs=>s.1.length<=j.length/\s.1++zah e c (j.drop s.1.length)=zah e c j) (λs=>j.length-s.1.length) ([],0) ⟨We _,rfl⟩ T ?_
   rintro⟨M,γ⟩ ⟨hi,C⟩ wf;simp only at hi C;clear wf;unfold zjS;by_cases F:M.length<j.length
   case neg=>
    have W:j.length<=M.length:=by omega
    rw[Wt W,zah,Wr]at C;subst C;subst D;have t:zix ([Xe .i64 10,.int .i64 0,.int .i64 (k:Int),.nilsl,.nilsl]::encN lp::(zah e c j).map encN) (zaq 10 0 k::lp::zah e c j):=⟨.inr ⟨_,_,_,rfl,rfl⟩,.inl rfl,zd4 _⟩;refine Gw2 @dF @ub ?_;intros;refine dcU zjX.eq_1 ?_;refine Gw0 ?_;intros;refine zH (zis rfl rfl ⟨⟨by omega,zF rfl⟩,⟨by omega,zaf (zbh t)⟩,trivial⟩ rfl rfl) ?_;rintro _ _ _ ⟨rfl,rfl,rfl⟩;refine Gw1 @ziY.eq_1 ?_;intros;refine⟨_,?_,rfl⟩;unfold nSeq;rw[zaF];refine Eq.mpr zcX ?_;exact⟨.int _ _ _,.int _ _ _,.int _ _ _,zf1,zg2 t (by simp only[Wc]) trivial rfl (by omega),trivial⟩
   have z:(j.map λ(n:Nat)=>[Xe .i64 (n:Int)]).getD M.length []=[.int .i64 (j[M.length]:Int)]:=zg (f:=cN) (d:=[]) F;have P:=u _ (N _ (Wm F));rw[zoK F]at C;have y:=zjL j (M.length+1) c (by omega) (by omega);generalize j[M.length]=x at z P C;generalize zap (j.drop (M.length+1)) c=c' at C y;have o:=P c';unfold ctxA at y o;unfold shR at o;generalize e x c'=w at C o;have hnx:((M.length+1:Nat):Int)=(M.length:Int)+1:=by omega
   rw[hnx]at y;have hM2:(M++[w])++zah e c (j.drop (M++[w]).length)=zah e c j:=by rw[Ws,Wf,Wk];exact C
   conv in zcQ _ _ _ _=>reduce
   simp only[hi0,hi1];refine Gw5 @dT @ub @ua @ud z ?_;intros
   (repeat' first
    |with_reducible apply Wa
    |omega
    |(refine zC (zc y rfl) ?_;(refine Gw6 @dT @ub @ua @ud z @rbN1 ?_;intros;try with_reducible exact trivial))
    |(refine zC (zc o rfl) ?_;(refine Gw9 @dT @ub @ua @ud z @rbN1 Q @ui @uh ?_;intros;try with_reducible exact trivial)))
   all_goals exact⟨(M++[w],γ+1),⟨by simp only[Wf,Wk];omega,hM2⟩,by simp only[Wf,Wk];omega,(Xr [(0,0,0),(1,1,0)] [] rfl (by((try simp only[evWB,Xa,Xb,Xf,Xc,Xg,implies_true,zN,Wf,Wn,Wc,Wd,Wg,Wi])<;>(repeat' with_reducible apply Wa)<;>first|(first|exact Xi (zal rfl (zal zp (zi6 (zE λ_=>zp) (zas zp))))|exact zl rfl;done)|exact fin6)) (QL @ub @ud @ua @m9A @m9P @ui @uh @m9C @uj))⟩
  refine Gw5 @ua @ub @ud @ui @uh ?_;intros;refine ze (zc J rfl) ?_;generalize natL (eG g) k=nl at A Y;refine Gw7 @dT @dF @ua @ub @ud @ui @uh ?_;intros
  (repeat' first
   |with_reducible apply Wa
   |omega
   |(refine zC (zc p rfl) ?_;(refine Gw5 @ua @ub @ud @ui @uh ?_;intros;try with_reducible exact trivial))
   |(refine zC (zc m rfl) ?_;(refine Gw7 @ua @ub @ud @rbN1 Q @ui @uh ?_;intros;try with_reducible exact trivial)))
  all_goals exact key _ _ _ (Xr [(0,0,0),(1,1,1)] [] rfl (by((try simp only[evWB,Xa,Xb,Xf,Xc,Xg,implies_true,zN])<;>(repeat' with_reducible apply Wa)<;>first|(first|exact Xi (zal rfl (zas zp))|exact zpx zp|exact zl rfl;done)|exact fin6)) (by((try simp only[evWB,Xa,Xb,Xf,Xc,Xg,implies_true,zb,za,encP])<;>(repeat' with_reducible apply Wa)<;>first|(first|exact zl rfl;done)|exact fin6)))
end Go.Ab
namespace Go.Ab
open Go.RowKit Go.Proofs Go.Ab.Dm
theorem zoA(g:G)(p:OkB g)(b:Nat->Ctx->Nd)(k:Nat)(s:k∈ordE (eG g))(q:zhz (eG g) k=true)(m:∀x∈zaQ (eG g) k,zsX g b x)(n:∀x∈zaQ (eG g) k,∀c,(b x c).f.kind=1)(c:Ctx):
  zke g zP [.int .i64 (k:Int),ctxA c] (.agg (encN (nSeq (zaq 10 0 k::zsy (shpG g) b k c::zah b c (beyL (shpG g) k))))):=by
 refine zhb ?_ rfl flA;have e:=ziy g p b k s q m n c (zaq 10 0 k);generalize nSeq (zaq 10 0 k::zsy (shpG g) b k c::zah b c (beyL (shpG g) k))=t at e⊢;refine zaA (fn_x zeY rfl ?_);unfold zcF bldH ctxA;have u:=hBig;refine Gw0 ?_;intros;refine zaD [(0,.ptr 0 0 0 0 0),(1,.int .i64 (k:Int)),(5,encP 3 [.int .i64 c.f,.int .i64 c.h,.int .i64 c.x]),(6,.ptr 2 0 0 0 0),(7,encP 5 (encN (zaq 10 0 k)))] (bldH g [(2,.row 5 [zN] 0)]) 3 λ_=>⟨?_,?_⟩
 .unfold bldH;exact(Xd [(0,0,0),(1,1,0),(2,2,0)] [3] rfl rfl rfl (QG @ua @uk) (QG @ua @uk))
 unfold zb3 bldH;(conv in Z8 _ _=>reduce);have d:boM (eG g) (hdL (eG g))=[.int .i64 ((hdL (eG g)).length:Int),.undef,.undef]::(hdL (eG g)).zipIdx.map (cBo (eG g)):=rfl;obtain⟨j,o⟩:=(zsi (E:=eG g) (k:=k) (l:=(hdL (eG g)).zipIdx) (i:=0)).2 (by rw[List.zipIdx_map_fst];exact(zBF p s).2 q);rw[d]
 (repeat first|simp(disch:=try exact dis1) only[evD,Xa,Xb,Xc,o,Option.isSome_some]|with_reducible first|intro _|refine aJ ?_)
 rw[<-d];refine Gw2 @ua @zG ?_;intros;refine zH (e _ _ (Xh (by omega) (by omega) (zF rfl) (Xk (by omega)))) ?_;rintro _ _ _ ⟨rfl,rfl,rfl⟩;unfold bldH;refine Gw2 @zy @zcG.eq_1 ?_;intros;exact zet (zV flA)
theorem ziL(g:G)(b:OkB g):∀(f k:Nat),k∈ordE (eG g)->(ordE (eG g)).length<=f+(ordE (eG g)).idxOf k->zsX g (zex (shpG g) f) k
 |
  0,k,hk,h=>by
  have:=List.idxOf_lt_length_iff.2 hk;omega
 |
  f+1,k,hk,h=>by
  obtain⟨T,D⟩:=Dm.dtree_ex (zL b).ok (zL b).pos;have R:=zBz (zL b) (one:=oneG g) D;have d:∀x∈zaQ (eG g) k,zsX g (zex (shpG g) f) x:=λx o=>by obtain⟨m,n⟩:=(R.kid k x).1 o;have:=R.down k x hk m n;exact ziL g b f x m (by omega)
  intro c;rw[zex]
  cases j:zhz (eG g) k with
  |true=>have e:(shpG g).head k=true:=j;rw[if_pos e];exact zoA g b _ k hk j d (λx _ c=>by rw[zkE]) c
  |false=>
   have e:¬(shpG g).head k=true:=by show ¬zhz (eG g) k=true;rw[j];exact WG
   rw[if_neg e];exact zoE g b _ k hk j d c
def usK(b:List (Int×Int))(x:Int):Bool:=decide (x∈b.map (·.1))
abbrev mpR(c:Int)(ps:List (Int×Int)):AObj:=.row 3 ([.int .i64 c,.undef,.undef]::(enL ps).map cm) 0
theorem zdz{c:Int}{b:List (Int×Int)}:zw ([Xe .i64 c,.undef,.undef]::(enL b).map cm):=zal rfl (zE zmv)
theorem pr_ret{M:List (List AV)}(c:zw M){H:AH}{nx:Nat}{v a:AV}(d:H.look 0=some (.row 3 M 0))(e:Vw H [(0,.row 3 M 0)] (zrV 1) (λr _=>1<=r) true v a):ztU 1 (λv H n=>v=a/\H=[(0,.row 3 M 0)]/\n=1) v H nx:=by
 refine⟨a,[(0,.row 3 M 0)],1,Ent.lowF (Wo _) (λr o h=>?_) ⟨⟨by omega,zaf c⟩,trivial⟩ ⟨e,trivial⟩,rfl,rfl,rfl⟩;simp only[AH.look]at h
 cases b:Xs 0 r with
 |true=>rw[b]at h;have:=Nat.eq_of_beq_eq_true b;subst this;rw[d];exact h
 |false=>rw[b]at h;cases h
theorem zuR{M:List (List AV)}(d:zw M){H:AH}{r nx:Nat}{a b:AV}(m:r<nx)(k:H.look r=some (.row 3 M 0))(g:a.flat=true)(j:b.flat=true)(h:zS Z9 zaG [a,.mp 0 0] [(0,.row 3 M 0)] 1 (λv H n=>v=b/\H=[(0,.row 3 M 0)]/\n=1)) :
  zS Z9 zaG [a,.mp r 0] H nx (λv c n=>v=b/\c=H.cutL [r]++[(r,.row 3 M 0)]/\n=nx+1):=by
 refine zbL [(0,r,0)] 1 _ h rfl ?_ ?_ ?_ ?_
 .show (Xt r nx&&Xs 0 0 && !(memN [] 0)&&true)=true;have e:Xt r nx=true:=by rw[Nat.blt_eq];exact m
  rw[e];rfl
 .refine⟨rfl,⟨M,?_,Xi d⟩,trivial⟩;unfold AH.get;rw[k];rfl
 .exact⟨zV g,.mp _ _ _ _ rfl,trivial⟩
 .rintro v c p ⟨rfl,rfl,rfl⟩;refine⟨ztS j,?_,rfl⟩;have o:Tab.to [(0,r,0)] nx 0=r:=rfl;unfold AH.over;simp only[AH.renL,o,AObj.ren,zgL d,Wg,Wi]
theorem zrv{K:Int->Bool}{l:List Nd}{i:Nat}(h:i<l.length):zeB K (l.drop i)=if l[i].f.kind=10/\K l[i].f.label=false then zeB K (l.drop (i+1))else zgg K l[i]::zeB K (l.drop (i+1)):=by rw[List.drop_eq_getElem_cons h,zeB]
theorem zqH{x:Nd}:∀{l:List Nd},x∈l->zc6 x<=za0 l
 |
  y::l,h=>by
  rw[za0];rcases Wy.1 h with rfl|h
  .omega
  .have:=zqH h;omega
theorem zih:∀n:Nd,(encN n).getD 2 .undef=.int .i64 n.f.label
 |.mk f c l=>by rw[zaF];rfl
theorem QN{e g j k m n o p:Prop}(a0:e)(b:g)(c:j)(a3:k)(a4:m)(a5:n)(d:o)(h:e->g->j->k->m->n->o->p:=by intro a0 b c a3 a4 a5 d;(try simp only[evWB,Nat.reduceBEq,Nat.reduceAdd,Nat.reduceSub,Nat.reduceLeDiff,Nat.reduceLT,implies_true,a0,b,c,a3,a4,a5,d])<;>(repeat' with_reducible apply And.intro)<;>first|(first|exact RowV.of_flat zdz|exact zl rfl|exact RowV.of_flat (zE λ_=>zp);done)|exact fin6):p:=h a0 b c a3 a4 a5 d
theorem QO{e g j k m n o p:Prop}(a0:e)(b:g)(c:j)(a3:k)(a4:m)(a5:n)(d:o)(h:e->g->j->k->m->n->o->p:=by intro a0 b c a3 a4 a5 d;(try simp only[evWB,Nat.reduceBEq,Nat.reduceAdd,Nat.reduceSub,Nat.reduceLeDiff,Nat.reduceLT,implies_true,a0,b,c,a3,a4,a5,d])<;>(repeat' with_reducible apply And.intro)<;>first|(first|exact RowV.of_flat zdz|exact zl rfl|exact Vw.mp _ _ _ _ rfl;done)|exact fin6):p:=h a0 b c a3 a4 a5 d
theorem zjs(c:Int)(b:List (Int×Int)):∀(f:Nat)(n:Nd),zc6 n<=f->f<=100000->zS Z9 zaG [.agg (encN n),.mp 0 0] [(0,mpR c b)] 1 (λv H nx=>v=.agg (encN (zgg (usK b) n))/\H=[(0,mpR c b)]/\nx=1)
 |0,n,h,_=>by have:=zpb n;omega
 |
  f+1,.mk fd cs l,h,hf=>by
  have J:∀x∈l,zS Z9 zaG [.agg (encN x),.mp 0 0] [(0,mpR c b)] 1 (λv H nx=>v=.agg (encN (zgg (usK b) x))/\H=[(0,mpR c b)]/\nx=1):=λx B=>by have:=zqH B;rw[zc6]at h;exact zjs c b f x (by omega) (by omega)
  have P:l.length<=100000:=by have:=zil l;rw[zc6]at h;omega
  refine zaA (fn_x zqg rfl ?_);refine dcU zjl.eq_1 ?_;have Q:=hBig;have u:zz (encN (.mk fd cs l))=true:=zp;rw[zgg];generalize C:usK b=K;rw[zaF fd cs l]at u⊢;refine Gw1 u ?_;intros
  refine zd (λs:List Nd×Nat×Nat=>([(1,.mp 0 0),(2,.ptr 1 0 0 0 0),(4,.ptr 2 0 0 0 0),(5,.own 3 0 s.2.2 0 s.1.length),(9,encL 5 encN l),(10,.int .i64 l.length),(11,.int .i64 s.2.1)],[(0,mpR c b),(1,.row 5 [[.int .i64 fd.kind,.int .i64 fd.block,.int .i64 fd.label,encL 5 encX cs,encL 5 encN l]] 0),(2,.row 5 [zN] 0),(3,.row 5 (s.1.map encN) s.2.2)])) 4
   (λs=>s.2.1<=l.length/\s.1.length<=s.2.1/\s.1++zeB K (l.drop s.2.1)=zeB K l) (λs=>l.length-s.2.1) ([],0,0) ⟨We _,We _,rfl⟩ ?start ?_
  case start=>exact(Xd [(0,0,0),(1,1,0),(2,2,0),(3,3,0)] [] rfl rfl rfl (by((try simp only[evWB,Xa,Xb,Xf,Xc,Xg,implies_true,zN,Wi,Wd])<;>(repeat' with_reducible apply Wa)<;>first|(first|exact Xi zdz|exact zl rfl|exact Xi (zE λ_=>zp);done)|exact fin6)) (by((try simp only[evWB,Xa,Xb,Xf,Xc,Xg,implies_true,zN,Wi,Wd])<;>(repeat' with_reducible apply Wa)<;>first|(first|exact Xi zdz|exact zl rfl|exact Vw.mp _ _ _ _ rfl;done)|exact fin6)))
  rintro⟨M,i,γ⟩ ⟨N,I,e⟩ wf;simp only at N I e;clear wf;refine dcU zgU.eq_1 ?_;by_cases p:i<l.length;case neg=>rw[Wt (by omega),zeB,Wr]at e;subst e;refine Gw1 @dF ?_;intros;refine dcU zhe.eq_1 ?_;refine Gw1 @zjP.eq_1 ?_;intros;refine pr_ret zdz rfl ?_;rw[zaF,zcX];exact⟨.int _ _ _,.int _ _ _,.int _ _ _,zV rfl,zp7 rfl (show 1<=3 by omega) rfl (by omega),trivial⟩
  have k:=zg (f:=encN) (d:=[]) p;have B:=J _ (Wm p);rw[zrv p]at e;generalize l[i]=x at k B e;have o:zz (encN x)=true:=zp;have y:∀(w:Nd) H,zcq 5 (encL 5 encN [w]) H=some [encN w]:=λw H=>za7 (λ_ _=>zy)
  have g:∀G,zS Z9 zaG [.agg (encN x),.mp 0 0] [(0,mpR c b),(1,.row 5 [[.int .i64 fd.kind,.int .i64 fd.block,.int .i64 fd.label,encL 5 encX cs,encL 5 encN l]] 0),(2,.row 5 [zN] 0),(3,.row 5 (M.map encN) G),(4,.row 5 [encN x] 0)] 5 (λv H n=>v=.agg (encN (zgg K x))/\H=[(1,.row 5 [[.int .i64 fd.kind,.int .i64 fd.block,.int .i64 fd.label,encL 5 encX cs,encL 5 encN l]] 0),(2,.row 5 [zN] 0),(3,.row 5 (M.map encN) G),(4,.row 5 [encN x] 0),(0,mpR c b)]/\n=6):=λG=>by rw[<-C];exact zuR zdz (by omega) rfl flA flA B
  have q:∀w:Nd,(M++[w]).length=M.length+1:=λw=>by simp
  by_cases z:x.f.kind=10;case neg=>rw[if_neg (λh=>z h.1)]at e;refine Gw8 @dT @dF k @za5 @zG @zaO @zy o ?_;intros;refine zH (g _) ?_;rintro _ _ _ ⟨rfl,rfl,rfl⟩;refine Gw4 @rbN1 y @ui @uh ?_;intros;exact⟨(M++[zgg K x],i+1,γ+1),⟨by simp only;omega,by simp only[q];omega,by simp only[Ws,WH];exact e⟩,by simp only;omega,(Xd [(0,0,0),(1,1,0),(2,2,0),(3,3,0)] [] rfl rfl rfl (QN @uk @m9A @m9P @ui @uh @m9C @uj) (QO @uk @m9A @m9P @ui @uh @m9C @uj))⟩
  have t:[Xe .i64 10,(encN x).getD 1 .undef,.int .i64 x.f.label,(encN x).getD 3 .undef,(encN x).getD 4 .undef]=encN x:=by
   have L:Xe .i64 10=(encN x).getD 0 .undef:=by rw[za5,z]
   rw[L,<-zih,zG]
  by_cases A:x.f.label∈b.map (·.1)
  .have F:K x.f.label=true:=by rw[<-C];exact decide_eq_true A
   rw[if_neg (λh=>by rw[F]at h;exact absurd h.2 (by decide))]at e;obtain⟨j,R,O,m⟩:=ztZ A;refine Gw12 @dT @dF k z m @za5 @zG @zaO @zih t @zy o ?_;intros;refine zH (g _) ?_;rintro _ _ _ ⟨rfl,rfl,rfl⟩;refine Gw4 @rbN1 y @ui @uh ?_;intros;exact⟨(M++[zgg K x],i+1,γ+1),⟨by simp only;omega,by simp only[q];omega,by simp only[Ws,WH];exact e⟩,by simp only;omega,(Xd [(0,0,0),(1,1,0),(2,2,0),(3,3,0)] [] rfl rfl rfl (QN @uk @m9A @m9P @ui @uh @m9C @uj) (QO @uk @m9A @m9P @ui @uh @m9C @uj))⟩
  .have D:K x.f.label=false:=by rw[<-C];exact decide_eq_false A
   rw[if_pos ⟨z,D⟩]at e;have m:=zqV A;refine Gw12 @dT @dF k z m @za5 @zG @zaO @zih t @zy o ?_;intros;exact⟨(M,i+1,γ),⟨by simp only;omega,by simp only;omega,e⟩,by simp only;omega,(Xd [(0,0,0),(1,1,0),(2,2,0),(3,3,0)] [] rfl rfl rfl (by((try simp only[evWB,Xa,Xb,Xf,Xc,Xg,implies_true,zN])<;>(repeat' with_reducible apply Wa)<;>first|(first|exact Xi zdz|exact zl rfl|exact Xi (zE λ_=>zp);done)|exact fin6)) (by((try simp only[evWB,Xa,Xb,Xf,Xc,Xg,implies_true,zN])<;>(repeat' with_reducible apply Wa)<;>first|(first|exact Xi zdz|exact zl rfl|exact Vw.mp _ _ _ _ rfl;done)|exact fin6)))⟩
end Go.Ab
namespace Go.Ab
open Go.RowKit Go.Proofs
section
variable {S:Shp}{R:List Nat}{T:Nat->Option Nat}
def wAll(_:NdF)(_:List Ex):Nat:=1
mutual
theorem zJf:∀n:Nd,wN wAll n=zc6 n
 |.mk f c l=>by rw[wN,zc6,zFV l];rfl
theorem zFV:∀l:List Nd,wNs wAll l=za0 l
 |[]=>by rw[wNs,za0]
 |x::l=>by rw[wNs,za0,zJf x,zFV l]
end
theorem zB8(c:Ctx)(t:Int):wN wAll (zgH c t)=1:=by
 unfold zgH;split
 .rfl
 split
 .rfl
 split<;>rfl
theorem zGF{α:Type}{g:α->Nat}:∀{l:List α},(∀x∈l,g x=1)->(l.map g).sum=l.length
 |[],_=>rfl
 |
  a::l,h=>by
  rw[Wg,List.sum_cons,h a Wz,zGF λx b=>h x (WI _ b),Wc];omega
theorem zHd{x v:Nat}(h:OwnP wAll S x v):v<=6+(tgS (S.last x)).length:=by
 have d:∀c,trW wAll S x c<=1+(tgS (S.last x)).length:=λc=>by
  unfold trW;rw[zGF λt _=>zB8 c t];have:=Wx (λ(t:Int)=> !decide (t.toNat∈inlL S x)) (tgS (S.last x))
  have g:(if (S.last x).op=6 then 0 else if (S.last x).op=7 then wAll ⟨3,0,0⟩ (S.last x).e else if (S.last x).op=8 then wAll ⟨6,0,0⟩ (S.last x).e else if (S.last x).op=9 then wAll ⟨11,0,0⟩ []else wAll ⟨12,0,0⟩ [])<=1:=by
   unfold wAll
   repeat' split
   all_goals omega
  omega
 unfold OwnP at h;obtain⟨c0,⟨_,b⟩|⟨_,b⟩|⟨_,_,_,b⟩⟩:=h
 .have:=d (zap (zJ S x) c0);simp only[wAll]at b;omega
 .have:=d (zap (zJ S x) (inC S x c0));simp only[wAll]at b;omega
 .have:=d (zap (zJ S x) (inC S x c0));simp only[wAll]at b;omega
theorem zu9{g:Nat->Nat}{m:Nat}:∀{l:List Nat},(∀x∈l,g x<=m)->(l.map g).sum<=l.length*m
 |[],_=>We _
 |
  a::l,h=>by
  rw[Wg,List.sum_cons,Wc,Nat.succ_mul];have:=h a Wz;have:=zu9 λx b=>h x (WI _ b)
  omega
theorem zEW(D:Tr S R T)(P:Top R T){n m:Nat}(c:R.length<=n)(b:∀x∈R,(tgS (S.last x)).length<=m):zc6 (bldN S n)<=R.length*(6+m):=by rw[<-zJf];refine Nat.le_trans (zJ8 D P wAll (λx=>6+(tgS (S.last x)).length) (λx _ v h=>zHd h) c c0) (zu9 λx d=>?_);have:=b x d;omega
end
theorem ztk:∀{l:List St},zhm l=0->∀s∈l,s.check=0
 |
  a::l,h,s,c=>by
  rw[zhm]at h;split at h
  .rename_i b;exact absurd h b
  .rename_i b;rcases Wy.1 c with rfl|c
   .exact Classical.not_not.1 b
   .exact ztk h s c
theorem zsQ:∀{l:List Bl},zkg l=0->∀b∈l,zhm b.stmts=0
 |
  a::l,h,s,d=>by
  rw[zkg]at h;split at h
  .rename_i c;exact absurd h c
  .rename_i c;rcases Wy.1 d with rfl|d
   .exact Classical.not_not.1 c
   .exact zsQ h s d
theorem zwd{g:G}(h:ziM g=0):0<g.blocks.length/\(∀b∈g.blocks,zew b.stmts g.blocks.length=true)/\∀b∈g.blocks,∀s∈b.stmts,s.check=0:=by
 unfold ziM at h;split at h
 .rename_i c;rw[Wp,WJ]at c;refine⟨?_,c.2,λb d=>ztk (zsQ h b d)⟩
  cases d:g.blocks with
  |nil=>rw[d]at c;simp at c
  |cons a l=>simp
 .omega
theorem zzO{s:St}(h:s.check=0):zab s.op=s.e.length:=by
 unfold St.check zvk at h;split at h
 .omega
 .rename_i b;exact Classical.not_not.1 λc=>b (.inr c)
theorem zzX{g:G}(k:fewG g=true)(o:ziM g=0):OkB g:=by
 obtain⟨p,j,q⟩:=zwd o;obtain⟨z,d⟩:=zgv k;refine⟨zqQ k,p,λb c e=>?_,λb c t w=>?_,λb c s h B=>?_,λb c s h=>?_,λb c=>?_⟩
 .have:=j b c;unfold zew at this;rw[e]at this;simp at this
 .have:=j b c;unfold zew at this;rw[Wp,Wp,WJ]at this;have:=this.2.2 t w;unfold inN at this;exact of_decide_eq_true this
 .have m:=List.mem_of_getLast? h;have A:=zzO (q b c s m);have y:zab s.op=1:=by unfold zab;rw[if_neg (by omega),if_pos (by omega)]
  obtain⟨x,n⟩:∃x,s.e=[x]:=List.length_eq_one_iff.1 (by omega);refine⟨x,n,?_⟩;have v:=((d b c).2 s m).2.2;have u:=ztd (x:=x) v (by rw[n];exact Wz);have:=zst x 70 200 u;omega
 .have:=((d b c).2 s h).1;omega
 .have:=(d b c).1;omega
theorem zzV{g:G}(b:fewG g=true)(k:Nat)(c:k<g.blocks.length):(tgS (zgs g k)).length<=8:=by have h:=ziz (l:=(blG g k).stmts) (n:=8) (by omega) (λs d=>(((zgv b).2 _ (zes c)).2 s d).1);rw[zvY]at h;exact h
theorem zwt{g:G}(c:fewG g=true)(d:ziM g=0){n:Nat}(e:(ordE (eG g)).length<=n):zc6 (bldN (shpG g) n)<=168:=by
 have b:=zzX c d;obtain⟨T,D⟩:=Dm.dtree_ex (zL b).ok (zL b).pos
 have h:zc6 (bldN (shpG g) n)<=(ordE (eG g)).length*(6+8):=zEW (zBz (zL b) (one:=oneG g) D) (zDA (zL b) D) e (m:=8) (λx j=>by
  have:=zaT (zL b) j;rw[zeg]at this
  exact zzV c x this)
 have k:=zvI b;have o:=(zgv c).1;have p:(ordE (eG g)).length*(6+8)<=12*(6+8):=Nat.mul_le_mul_right _ (by omega);omega
end Go.Ab
namespace Go.Ab
open Go.RowKit Go.Proofs Go.Ab.Dm
theorem zF4{g:G}{k:Nat}{c:Ctx}{n:Nd}(h:zke g zP [.int .i64 (k:Int),ctxA c] (.agg (encN n))){z:List (List AV)}:
  zS Z9 zP [.ptr 1 0 0 0 0,.int .i64 (k:Int),ctxA c] [(0,.row 5 z 0),(1,.row 5 [[.int .u32 g.addr,encL 2 Xj g.blocks,encNN ((Wj g.blocks.length).map (zaQ (eG g))),zb ((Wj g.blocks.length).map (cntE (eG g))),.mp 2 0]] 0),(2,.row 3 (boM (eG g) (hdL (eG g))) 0)] 3
   (λv H nx=>v=.agg (encN n)/\H=[(0,.row 5 z 0),(1,.row 5 [[.int .u32 g.addr,encL 2 Xj g.blocks,encNN ((Wj g.blocks.length).map (zaQ (eG g))),zb ((Wj g.blocks.length).map (cntE (eG g))),.mp 2 0]] 0),(2,.row 3 (boM (eG g) (hdL (eG g))) 0)]/\nx=5):=by
 refine zbL [(0,1,0),(1,2,0)] 2 _ (h [] 2 TOk.nil) rfl rfl ?_ ?_ ?_
 .unfold bldH;refine⟨rfl,⟨_,rfl,?_⟩,rfl,⟨_,rfl,Xi zI⟩,trivial⟩;rw[zwu];exact⟨.int _ _ _,zV rfl,zV rfl,zV rfl,.mp _ _ _ _ rfl,trivial⟩
 .exact⟨.ptr _ _ _ 0 _ _ _ _ _ rfl rfl,zV rfl,zV rfl,trivial⟩
 .rintro v o p ⟨rfl,rfl,rfl⟩;refine⟨ztS flA,?_,rfl⟩;have b:Tab.to [(0,1,0),(1,2,0)] 3 0=1:=rfl;have d:Tab.to [(0,1,0),(1,2,0)] 3 1=2:=rfl;have e:∀ρ,Xl ρ (encL 2 Xj g.blocks)=encL 2 Xj g.blocks:=λρ=>zcS rfl
  have j:∀ρ l,Xl ρ (Dm.encNN l)=Dm.encNN l:=λρ l=>zcS rfl
  have m:∀ρ l,Xl ρ (zb l)=zb l:=λρ l=>zcS rfl
  unfold AH.over bldH;simp only[AH.renL,b,d,AObj.ren,zgL zI,Wg,Wi,Xl,e,j,m];rfl
theorem zJ4{g:G}(d:OkB g){z:List (List AV)}:
  zS Z9 zbd [.agg g.cells] [(0,.row 5 z 0)] 1
   (λv H nx=>v=.ptr 1 0 0 0 0/\H=[(0,.row 5 z 0),(1,.row 5 [[.int .u32 g.addr,encL 2 Xj g.blocks,encNN ((Wj g.blocks.length).map (zaQ (eG g))),zb ((Wj g.blocks.length).map (cntE (eG g))),.mp 2 0]] 0),(2,.row 3 (boM (eG g) (hdL (eG g))) 0)]/\nx=3):=by
 refine zbL [] 0 _ (zlj g d) rfl rfl trivial ⟨zV rfl,trivial⟩ ?_;rintro v k m ⟨rfl,rfl,rfl⟩;have b:Tab.to [] 1 0=1:=rfl;refine⟨by simp only[Xl,b],?_,rfl⟩;have c:Tab.to [] 1 1=2:=rfl;have e:∀ρ,Xl ρ (encL 2 Xj g.blocks)=encL 2 Xj g.blocks:=λρ=>zcS rfl
 have h:∀ρ l,Xl ρ (Dm.encNN l)=Dm.encNN l:=λρ l=>zcS rfl
 have j:∀ρ l,Xl ρ (zb l)=zb l:=λρ l=>zcS rfl
 unfold AH.over bldH;simp only[AH.renL,b,c,AObj.ren,zgL zI,Wg,Wi,Xl,e,h,j];rfl
theorem en_set{b:List (Int×Int)}{j:Nat}{k:Int}(g:j<b.length)(h:b[j].1=k):((enL b).map cm).set j [.int .i64 k,.bool true,(((enL b).map cm).getD j []).getD 2 .undef]=(enL b).map cm:=by
 have m:j<((enL b).map cm).length:=by simpa [enL]using g
 have e:((enL b).map cm)[j]=[.int .i64 b[j].1,.bool true,.int .i64 b[j].2]:=by simp[enL,cm]
 have c:[Xe .i64 k,.bool true,(((enL b).map cm).getD j []).getD 2 .undef]=((enL b).map cm)[j]:=by
  have d:((enL b).map cm).getD j []=((enL b).map cm)[j]:=by rw[List.getD_eq_getElem?_getD,List.getElem?_eq_getElem m];rfl
  rw[d,e,h];rfl
 rw[c,List.set_getElem_self]
theorem zKA{ps:List (Int×Int)}{a b:Int}:(enL (ps++[(a,b)])).map cm=(enL ps).map cm++[[.int .i64 a,.bool true,.int .i64 b]]:=by unfold enL;rw[Wn,Wn];rfl
theorem c0_eq:ctxA c0=.agg [.int .i64 (-1),.int .i64 (-1),.int .i64 (-1)]:=rfl
theorem QP{c d p:Prop}(a0:c)(b:d)(h:c->d->p:=by intro a0 b;(try simp only[evWB,Nat.reduceBEq,Nat.reduceAdd,Nat.reduceSub,Nat.reduceLeDiff,Nat.reduceLT,implies_true,a0,b])<;>(repeat' with_reducible apply And.intro)<;>first|(first|exact RowV.of_flat (zas rfl)|exact RowV.of_flat zdz|exact zl rfl;done)|exact fin6):p:=h a0 b
theorem QR{c d p:Prop}(a0:c)(b:d)(h:c->d->p:=by intro a0 b;(try simp only[evWB,Nat.reduceBEq,Nat.reduceAdd,Nat.reduceSub,Nat.reduceLeDiff,Nat.reduceLT,implies_true,a0,b])<;>(repeat' with_reducible apply And.intro)<;>first|(first|exact zl rfl|exact Vw.mp _ _ _ _ rfl;done)|exact fin6):p:=h a0 b
theorem zqa(g:G)(D:fewG g=true):zn Z9 zbf [.agg g.cells] (·=if ziM g=0 then .tup [.agg (encN (bld (shpG g) (ordE (eG g)).length)),.int .i64 0]else .tup [.agg (encN (zaq 0 0 0)),.int .i64 (ziM g)]):=by
 refine fn_x zp9 rfl ?_;refine dcU zjt.eq_1 ?_;have Z:=hBig;have T:=zrZ g (zxe D) (zC8 D);have v:g.cells.length=2:=rfl;have w:[g.cells.getD 0 .undef,g.cells.getD 1 .undef]=g.cells:=rfl;have u:zz g.cells=true:=rfl;refine Gw4 @ua v w u ?_;intros;refine ze (zc T rfl) ?_;by_cases o:ziM g=0;case neg=>rw[if_neg o];refine Gw2 @dT @zfQ.eq_1 ?_;intros;refine⟨_,?_,rfl⟩;show Vw _ _ _ _ _ (Xo _) (Xo _);rw[zik];exact⟨zdw,.int _ _ _,trivial⟩
 rw[if_pos o,o];have F:=zzX D o;have Y:0∈ordE (eG g):=Dm.z_mem (zL F).ok (zL F).pos;have p:=ziL g F (ordE (eG g)).length 0 Y (by omega) c0;have Q:=zwt D o (Wo (ordE (eG g)).length);unfold bld bldN at *;generalize zex (shpG g) (ordE (eG g)).length 0 c0=N at p Q⊢;refine Gw5 @dF @ua v w u ?_;intros;refine zH (zJ4 F) ?_;rintro _ _ _ ⟨rfl,rfl,rfl⟩;refine Gw0 ?_;intros;refine zH (zF4 p) ?_;rintro _ _ _ ⟨rfl,rfl,rfl⟩;refine Gw2 @zy @zG ?_;intros;have S:=zr2 N (by omega);refine ze (zc S (flN rfl)) ?_;have B:(allN N).length<=1000:=by rw[zvW];omega
 have n:∀x,zK9 N x=decide (x∈fm zpB (allN N)):=λx=>by rw[fm_all];rfl
 have M:=λc ps=>zjs c ps (zc6 N) N (Wo _) (by omega)
 generalize zK9 N=K at n⊢;generalize allN N=l at B n⊢;have X:mpR 0 []=.row 3 [[.int .i64 0,.undef,.undef]] 0:=rfl;refine Gw0 ?_;intros
 refine zd (λs:List (Int×Int)×Nat=>([(2,.ptr 0 0 0 0 0),(5,encP 5 (encN N)),(6,.mp 1 0),(21,encL 5 encN l),(22,.int .i64 l.length),(23,.int .i64 s.2)],[(0,.row 5 [zN] 0),(1,.row 3 ([.int .i64 s.1.length,.undef,.undef]::(enL s.1).map cm) 0)])) 2
  (λs=>(s.2<=l.length/\s.1.length<=s.2)/\∀x,x∈s.1.map (·.1)↔x∈fm zpB (l.take s.2)) (λs=>l.length-s.2) ([],0) ⟨⟨We _,We _⟩,λx=>Iff.rfl⟩ ?start ?_
 case start=>have R:(enL []).map cm=[]:=rfl;exact(Xd [(0,0,0),(1,6,0)] [5] rfl rfl rfl (by((try simp only[evWB,Xa,Xb,Xf,Xc,Xg,implies_true,zN,encP,R,Wd])<;>(repeat' with_reducible apply Wa)<;>first|(first|exact Xi (zas rfl)|exact zl rfl;done)|exact fin6)) (by((try simp only[evWB,Xa,Xb,Xf,Xc,Xg,implies_true,zN,encP,R,Wd])<;>(repeat' with_reducible apply Wa)<;>first|(first|exact zl rfl|exact zBW rfl rfl|exact Vw.mp _ _ _ _ rfl;done)|exact fin6)))
 rintro⟨ps,i⟩ ⟨⟨V,L⟩,hx⟩ wf;simp only at V L hx;clear wf;refine dcU zg9.eq_1 ?_;by_cases z:i<l.length
 case neg=>
  obtain rfl:i=l.length:=by omega
  rw[WC]at hx;have U:usK ps=K:=funext λx=>by rw[n];unfold usK;rw[Wv,decide_eq_true_iff,decide_eq_true_iff];exact hx x
  have C:=zuR (H:=[(0,.row 5 [zN] 0),(1,mpR ps.length ps)]) (r:=1) (nx:=2) zdz (by omega) rfl flA flA (M ps.length ps);rw[U]at C;refine Gw1 @dF ?_;intros;refine dcU zgY.eq_1 ?_;refine Gw3 @ua @zG @zy ?_;intros;refine zH C ?_;rintro _ _ _ ⟨rfl,rfl,rfl⟩;have q:AH.cutL [1] [(0,AObj.row 5 [zN] 0),(1,mpR ps.length ps)]=[(0,.row 5 [zN] 0)]:=rfl;rw[q]
  (repeat first|simp(disch:=try exact dis1) only[evD,Xa,Xb,Xc,List.cons_append,List.nil_append,zy,zG,zfQ]|with_reducible first|intro _|refine aJ ?_)
  refine⟨_,?_,rfl⟩;show Vw _ _ _ _ _ (Xo _) (Xo _);rw[zik];exact⟨zV flA,.int _ _ _,trivial⟩
 have k:=zg (f:=encN) (d:=[]) z;have e:fm zpB (l.take (i+1))=fm zpB (l.take i)++zpB l[i].f:=by unfold fm;rw[WE z,List.flatMap_append,List.flatMap_singleton]
 generalize l[i]=x at k e;have t:zpB x.f=if x.f.kind=9 then[x.f.label]else[]:=rfl
 by_cases A:x.f.kind=9;case neg=>rw[t,if_neg A,Wr]at e;refine Gw8 @dT @dF k @za5 @zG @zaO @zy A ?_;intros;exact⟨(ps,i+1),⟨⟨by simp only;omega,by simp only;omega⟩,λy=>by simp only;rw[e];exact hx y⟩,by simp only;omega,(Xd [(0,0,0),(1,1,0)] [] rfl rfl rfl (QP @uk @ua) (QR @uk @ua))⟩
 rw[t,if_pos A]at e;by_cases J:x.f.label∈ps.map (·.1)
 .obtain⟨j,W,I,m⟩:=ztZ J;have P:=en_set W I;refine Gw11 @dT @dF k A m P @za5 @zG @zaO @zih @zy ?_;intros
  exact⟨(ps,i+1),⟨⟨by simp only;omega,by simp only;omega⟩,λy=>by
   simp only;rw[e,WA,WF,<-hx y]
   exact⟨.inl,λh=>h.elim id λh=>by rw[h];exact J⟩⟩,by simp only;omega,(Xd [(0,0,0),(1,1,0)] [] rfl rfl rfl (QP @uk @ua) (QR @uk @ua))⟩
 .have m:=zqV J;have O:=zKA (ps:=ps) (a:=x.f.label) (b:=(ps.length:Int));refine Gw10 @dT @dF k A m @za5 @zG @zaO @zih @zy ?_;intros
  exact⟨(ps++[(x.f.label,(ps.length:Int))],i+1),⟨⟨by simp only;omega,by simp only[Wf,Wk];omega⟩,λy=>by
   simp only;rw[e,Wn,WA,WA,hx y]
   exact Iff.rfl⟩,by simp only;omega,(Xd [(0,0,0),(1,1,0)] [] rfl rfl rfl (by((try simp only[evWB,Xa,Xb,Xf,Xc,Xg,implies_true,zN,encP,O,Wf,Wc,Wd])<;>(repeat' with_reducible apply Wa)<;>first|(first|exact Xi (zas rfl)|exact Xi zdz|exact zl rfl;done)|exact fin6)) (QR @uk @ua))⟩
end Go.Ab
namespace Go.Ab
open Go.RowKit Go.Proofs
def cnt(n:Nat)(l:List Int):List Int:=(Wj n).map λ(k:Nat)=>((l.count (k:Int):Nat):Int)
theorem zHQ{l:List Int}{t:Int}:hasI l t=decide (t∈l):=by
 unfold hasI;rw[Wv,List.any_eq_true,decide_eq_true_eq];constructor
 .rintro⟨x,b,h⟩;rw[decide_eq_true_eq]at h;rw[<-h];exact b
 .exact λh=>⟨t,h,by simp⟩
theorem flXX{r:List AV}(h:r.all Xp=true){e b:Ex}:(Xm (encX e)::Xm (encX b)::r).all Xp=true:=by have c:=flX (e:=e) h;have d:=flX (e:=b) h;simp only[List.all_cons,Wp]at c d⊢;exact⟨c.1,d⟩
theorem flNN{r:List AV}(h:r.all Xp=true){e b:Nd}:(Xm (encN e)::Xm (encN b)::r).all Xp=true:=by have c:=flN (e:=e) h;have d:=flN (e:=b) h;simp only[List.all_cons,Wp]at c d⊢;exact⟨c.1,d⟩
theorem zzz:∀(k:Nat)(e:Ex),zdM e<=k->zn Z9 zku [.agg (encX e),.agg (encX e)] (·=.bool true):=by
 intro k
 induction k with
 |zero=>intro e h;obtain⟨_,_,_,_,l⟩:=e;rw[zdM]at h;omega
 |succ k g=>
 intro e d;obtain⟨op,c,v,w,l⟩:=e;refine fn_x zzZ rfl ?_;refine dcU zt7.eq_1 ?_;have j:=hBig;rw[zdM]at d;rw[zgB];refine Qf ?_;intros;refine zd (λi:Nat=>([(2,encP 5 [.int .i64 op,.int .u32 c,.int .i64 v,.int .i64 w,encL 5 encX l]),(3,encP 5 [.int .i64 op,.int .u32 c,.int .i64 v,.int .i64 w,encL 5 encX l]),(5,.int .i64 i)],[])) 0 (λi=>i<=l.length) (λi=>l.length-i) 0 (We _) (Xn rfl fin5) ?_;intro i m wf;refine dcU znZ.eq_1 ?_;by_cases b:i<l.length
 .have n:=zhk (Wm b);refine Gw5 @uf @dT (gmp b) @zbI @zaY ?_;intros;refine zC (zc (g l[i] (by omega)) (flXX rfl)) ?_;refine Gw0 ?_;intros;exact⟨i+1,by omega,by omega,Xn rfl fin5⟩
 ·(refine Qf ?_;intros);unfold zn5;refine Gw1 @zsT.eq_1 ?_;intros;exact bzO
theorem ztv:∀(k:Nat)(e:Nd),zc6 e<=k->zn Z9 zkk [.agg (encN e),.agg (encN e)] (·=.bool true):=by
 intro k
 induction k with
 |zero=>intro e h;obtain⟨_,_,l⟩:=e;rw[zc6]at h;omega
 |succ k o=>
 intro e n;obtain⟨⟨d,b,lb⟩,c,l⟩:=e;refine fn_x zz5 rfl ?_;refine dcU zsV.eq_1 ?_;have p:=hBig;rw[zc6]at n;have j:=zaF ⟨d,b,lb⟩ c l;simp only at j;rw[j];refine Qf ?_;intros;refine zd (λi:Nat=>([(2,encP 5 [.int .i64 d,.int .i64 b,.int .i64 lb,encL 5 encX c,encL 5 encN l]),(3,encP 5 [.int .i64 d,.int .i64 b,.int .i64 lb,encL 5 encX c,encL 5 encN l]),(5,.int .i64 i)],[])) 0 (λi=>i<=c.length) (λi=>c.length-i) 0 (We _) (Xn rfl fin5) ?_;intro i m wf;refine dcU zof.eq_1 ?_;by_cases g:i<c.length
 ·(refine Gw5 @uf @dT (gmp g) @zbI @zaY ?_;intros);refine zC (zc (zzz (zdM c[i]) c[i] (Wo _)) (flXX rfl)) ?_;refine Gw0 ?_;intros;exact⟨i+1,by omega,by omega,Xn rfl fin5⟩
 ·(refine Qf ?_;intros);unfold zod;refine Gw0 ?_;intros;refine zd (λi:Nat=>([(2,encP 5 [.int .i64 d,.int .i64 b,.int .i64 lb,encL 5 encX c,encL 5 encN l]),(3,encP 5 [.int .i64 d,.int .i64 b,.int .i64 lb,encL 5 encX c,encL 5 encN l]),(6,.int .i64 i)],[])) 0 (λi=>i<=l.length) (λi=>l.length-i) 0 (We _) (Xn rfl fin5) ?_;intro i m wf;refine dcU zn9.eq_1 ?_;by_cases g:i<l.length
  .have q:=zsE (Wm g);refine Gw5 @uf @dT (gmp g) @zy @zG ?_;intros;refine zC (zc (o l[i] (by omega)) (flNN rfl)) ?_;refine Gw0 ?_;intros;exact⟨i+1,by omega,by omega,Xn rfl fin5⟩
  ·(refine Qf ?_;intros);unfold zoo;refine Gw1 @zta.eq_1 ?_;intros;exact bzO
end Go.Ab
