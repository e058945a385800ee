/-
  Part 15 of the proof: how the calls of this program run, over values instead of memory, and what each function computes.
-/
import Derived.Test.YtihlaappclhhaaaGreatKn
set_option maxRecDepth 100000
set_option linter.unusedVariables false
set_option linter.unusedSimpArgs false
set_option linter.unnecessarySimpa false
set_option linter.unusedSectionVars false
open Go.Ab.Ent renaming tabB->Xa,keep->Xl,tab->Xs
open Go.Ab.Bl renaming cells->Xb
open Nat renaming reduceBEq->Xc,reduceAdd->Xd,reduceLeDiff->Xg,reduceSub->Xp,reduceLT->Xq,mul_one->Xz
open Go.Ab.St renaming cells->Xe,eight->Xt
open Go.Ab.AV renaming int->Xf,agg->Xh,ren->Xk,flat->Xr,undef->Xw
open Go.Ab.Kw renaming no->Xi,z->Xj,cells->Xm
open List renaming foldl_cons->Xn,foldl_nil->Xo,map_map->Xu,range_succ->Xv,getD->Xx,map_set->Xy
open Go.Proofs.Tryz renaming prog->Z9
open And renaming intro→Wa
open Nat renaming zero_le→Wc,zero_add→Wl,add_zero→Ws,le_refl→Wz,le_trans→WJ
open List renaming cons_append→Wd,nil_append→We,getElem_mem→Wf,getD_cons_zero→Wi,getD_cons_succ→Wk,length_map→Wn,length_cons→Wq,length_nil→Wr,map_append→Wt,take_length→Wu,length_set→Ww,map_cons→Wx,range→Wy,length_append→WA,length_singleton→WB,drop_of_length_le→WC,drop_eq_getElem_cons→WD,mem_append→WE,mem_singleton→WF,all_cons→WG,any_eq_true→WH,map_nil→WI,mem_map→WL,take_zero→WM,replicate→WN,take_succ_eq_append_getElem→WO,map_congr_left→WP,filter_append→WQ,length_filter_le→WR,findIdx?_eq_some_iff_getElem→WS,set_getElem_self→WU,filter_congr→WV,not_mem_nil→WW
open Bool renaming and_true→Wg,and_eq_true→Wj,true_and→Wm,and_false→Wo,false_and→Wp,not_false→WK
open Int renaming toNat_natCast→Wh,toNat→Wv
namespace Go.Ab
open Go.RowKit Go.Proofs
structure LiveR(U:List Int)(g:G)(l:List Sgn)(at':List Int)(ex:Bool)(S:Nat->MS):Prop where
 inU:∀b,b<g.blocks.length->InU U (S b)
 bit:∀y,0<=y->∀b,b<g.blocks.length->decide (y∈(S b).keys)=(zii g.blocks.length (zk6 g l at' ex y)).getD b false
def zKr(n:Nat)(S:Nat->MS)(c:Int)(b:List TE):AH:=[(0,.row 3 (tabM c b) 0),(1,.row 1 (mps 2 n) 0),(2,famS n S)]
theorem lv_l6(l)(at')(ex)(d)(b)(U)(m)(c)(es)(B:TabS l at' es)(q:SizC U ⟨d,b⟩ l at' (zey ex) m){Q}(k:∀(S:Nat->MS),LiveR U ⟨d,b⟩ l at' ex S->Q .normal [(3,encP 2 [.int .u32 d,encL 2 Xb b]),(4,.ptr 1 0 0 0 0),(5,.iptr 1 λj=>[za (zey ex)].getD j .undef),(7,.own 2 0 0 0 b.length),(28,.bool false)] (lvH b.length S c es) 4){K}{H}{nx}(g:Ent 1 K H nx (lvK d b (zey ex) b.length true) (lvH b.length (λ_=>(0,[])) c es) 4) :
  zoT Z9 1 zgq (zdH 2 Q) K H nx:=by
 have C:=hBig;have A:=q.blk;simp only at A
 refine zd (λs:(Nat->MS)×Bool=>(lvK d b (zey ex) b.length s.2,lvH b.length s.1 c es)) 4
  (λs=>LivS U ⟨d,b⟩ l at' ex s.1/\(s.2=false->∀j,j<b.length->∀y,0<=y->zk6 ⟨d,b⟩ l at' ex y (zh1 b.length s.1 y) j=(zh1 b.length s.1 y).getD j false)) (λs=>2*muS b.length U.length s.1+(if s.2 then 1 else 0)) (λ_=>(0,[]),true)
  ⟨zHF U ⟨d,b⟩ l at' ex,λh=>by cases h⟩ g ?_
 rintro⟨S,u⟩ ⟨n,p⟩ wf;simp only at n p;clear wf;refine dcU zgq.eq_1 ?_;simp only[lvK,lvH,Wd,We]
 cases u with
 |false=>refine Gw0 ?_;intros;exact k S ⟨n.inU,zJM n (p rfl)⟩
 |true=>
  refine Qi ?_;intros;refine lv_l5 l at' ex d b U m c es B q S n (λt e w x o=>?_) ?_
  .simp only[lvK,lvH,Wd,We];refine Gw0 ?_;intros;refine⟨(t,e),⟨w,λh=>(o h).2⟩,?_,?_⟩
   .cases e with
    |true=>have:=x rfl;simp only[if_true];omega
    |false=>obtain⟨v,_⟩:=o rfl;subst v;simp
   .exact(Xa [(0,0,0),(1,1,0),(2,2,0),(3,3,0)] [] rfl rfl rfl Qz Qz)
  .simp only[lvK,lvH,Wd,We];exact(Xa [(0,0,0),(1,1,0),(2,2,0),(3,3,0)] [] rfl rfl rfl Qz Qz)
theorem zuY(g)(l)(at')(ex)(U)(m)(c)(es)(q:TabS l at' es)(h:SizC U g l at' (zey ex) m):
  zad Z9 zff [.agg g.cells,.mp 0 0,za (zey ex)] [(0,.row 3 (tabM c es) 0)] 1
  (λv H s=>∃S,v=.own 1 0 0 0 g.blocks.length/\H=zKr g.blocks.length S c es/\s=3/\LiveR U g l at' ex S):=by
 refine zab (fn_x zu4 rfl ?_);refine dcU zot.eq_1 ?_;have t:=hBig;obtain⟨e,b⟩:=g;have p:=h.blk;simp only at p⊢;refine Gw3 @ub @zu @G.cells.eq_1 ?_;intros;refine⟨⟨rfl,rfl⟩,λ_ _=>⟨⟨by omega,by omega,by omega⟩,λ_=>?_⟩⟩
 refine zd (λi:Nat=>([(3,encP 2 [.int .u32 e,encL 2 Xb b]),(4,.ptr 1 0 0 0 0),(5,.iptr 1 λj=>[za (zey ex)].getD j .undef),(7,.own 2 0 0 0 b.length),(19,.int .i64 b.length),(20,.int .i64 i)],lvI b.length i c es)) 4
  (λi=>i<=b.length) (λi=>b.length-i) 0 (Wc _) ?_ ?_
 .simp only[Int.natCast_zero];exact zFn rfl rfl rfl ⟨zZ rfl,.ptr _ _ _ _ _ _ _ _ _ rfl rfl,.iptr _ _ _,.own _ _ _ 0 _ _ _ _ _ rfl rfl,.int _ _ _,.int _ _ _,trivial⟩
 rintro i u wf;clear wf;refine dcU zjN.eq_1 ?_;simp only[lvI];by_cases o:i<b.length
 ·(refine Gw2 @dT @zJe ?_;intros);exact⟨i+1,by omega,by omega,zHh rfl rfl rfl rfl rfl ⟨zZ rfl,.ptr _ _ _ _ _ _ _ _ _ rfl rfl,.iptr _ _ _,.own _ _ _ 0 _ _ _ _ _ rfl rfl,.int _ _ _,.int _ _ _,trivial⟩⟩
 .obtain rfl:i=b.length:=by omega
  refine Qa ?_;intros;refine dcU zkn.eq_1 ?_;refine Gw0 ?_;intros;refine lv_l6 l at' ex e b U m c es q h (λS k=>?_) ?_
  .simp only[lvH];refine Gw0 ?_;intros;unfold zkj;refine Gw1 @zn6.eq_1 ?_;intros;exact⟨.own 1 0 0 0 b.length,zKr b.length S c es,3,(by unfold zKr;exact(Xa [(0,0,0),(1,2,0),(2,3,0)] [] rfl rfl rfl Qz Qz)),S,rfl,rfl,rfl,k⟩
  .have d:=zI5 (n:=b.length) (c:=c) (es:=es);unfold lvI at d;rw[d];simp only[lvK,lvH];exact(Xa [(0,0,0),(1,1,0),(2,2,0),(3,3,0)] [] rfl rfl rfl Qz Qz)
theorem if_and{α:Type}{p q:Prop}[Decidable p][Decidable q]{x y:α}(h:p):(if p/\q then x else y)=if q then x else y:=by by_cases b:q<;>simp[h,b]
theorem uo:type_of% @zF.eq_1:=@zF.eq_1
theorem zuV(rs)(hR:CanR rs):∀(k:Nat)(e:Ex),zbF e<=k->zgJ e=true->zq Z9 zb5 [.agg (encR rs),.agg (encX e)] (·=.agg (zkr rs e).cells):=by
 have hr:=hR.1;intro k
 induction k with
 |zero=>intro e h;obtain⟨_,_,_,_,l⟩:=e;rw[zbF]at h;omega
 |succ k ih=>
 intro e hk hfm;obtain⟨op,n,v,w,l⟩:=e;refine fn_x zk4 rfl ?_;unfold zfF;have hB:=hBig;rw[zbF]at hk;rw[zgJ,Wj]at hfm;obtain⟨hfl,Z⟩:=hfm;unfold zz at Z;replace Z:=of_decide_eq_true Z;rw[zkr];generalize hE:encX (.mk op n v w l)=E;rw[zdw]at hE;subst hE;have u:(encR rs).length=24:=by rw[zao];omega
 have t:∀l:List AV,(Xh l).cells=l:=λ_=>rfl
 have D:∀l:List AV,(Xh l).solid=true:=λ_=>rfl
 have retK:∀(H:AH)(c:Kw),∃a,Frz H (.agg c.cells) a/\a=.agg c.cells:=λH c=>⟨_,zZ rfl,rfl⟩
 have b:∀c:Kw,c.cells.length=3:=λ_=>rfl
 by_cases h2:op=2
 .subst h2;have hv0:0<=v:=by omega
  by_cases hv8:v<8
  .rw[if_pos ⟨rfl,hv0,hv8⟩];have sr:=zgR (rs:=rs) (k:=v.toNat) (by omega);refine Gw10 @dT @dF t D u @ub @ue @zc9 sr @uo ?_;intros;exact⟨rfl,retK _ _⟩
  .rw[if_neg (by omega),if_neg (by omega)];refine Gw7 @dT @dF t D u @ub @uo ?_;intros;exact retK _ Xi
 rw[if_neg (λh=>h2 h.1)];by_cases K:op=3\/op=4
 case neg=>
  rw[if_neg (λh=>K h.1)];have h3:¬op=3:=λh=>K (.inl h)
  have h4:¬op=4:=λh=>K (.inr h)
  refine Gw7 @dT @dF t D u @ub @uo ?_;intros;exact retK _ Xi
 have hl2:l.length=2:=by omega
 obtain⟨a,R,I,W,X,V,U⟩:∃a R I W X V,l=[a,.mk R I W X V]:=by
  match l,hl2 with
  |[a,.mk R I W X V],_=>exact⟨a,R,I,W,X,V,rfl⟩
 have ga:(l.map encX).getD (Wv 0) []=encX a:=by rw[U];rfl
 have J:(l.map encX).getD (Wv 1) []=[.int .i64 R,.int .u32 I,.int .i64 W,.int .i64 X,encL 5 encX V]:=by rw[U];show encX (.mk R I W X V)=_;rw[zdw]
 rw[show zJ2 l=R by rw[U];rfl,show nAt1 l=I by rw[U];rfl,show zkT rs l=zkr rs a by rw[U,zkT]]
 have hsz:zbF a<=k:=by
  have:zW l=zbF a+(zbF (Ex.mk R I W X V)+0):=by rw[U,zW,zW,zW]
  omega
 have hfa:zgJ a=true:=by rw[U,zd0,Wj]at hfl;exact hfl.1
 have Y:=ih a hsz hfa;have N:=zys hR a;clear U;have T:[Xh (encR rs),Xh (encX a)].all Xr=true:=by rw[WG,flX rfl,Wg];exact zgi rs
 rw[if_and K];generalize zkr rs a=c at Y N⊢;have g:c.cells.getD 0 .undef=.int .i64 c.st:=rfl;have o:c.cells.getD 2 .undef=.int .u32 c.n:=rfl;have p:∀m:Int,splice c.cells 2 [.int .u32 m]=(⟨c.st,c.base,m⟩:Kw).cells:=λm=>rfl
 rcases K with rfl|rfl
 .have L:addK 3 I c=if c.st=1 then { c with n:=IntKind.u32.wrap (c.n+I) }else c:=by unfold addK;simp
  refine Gw7 @dT @dF t D u @ub J ?_;intros;refine zjG zaX zd4 zdD zaJ [(20,(.agg (encR rs))),(21,(.iptr 1 λj=>[Xf .i64 3,.int .u32 n,.int .i64 v,.int .i64 w,encL 5 encX l].getD (4+j) .undef)),(22,encL 5 encX l),(23,(.iptr 5 λj=>(encX a).getD j .undef)),(24,.agg (encX a)),(25,.agg c.cells),(5,.ptr 2 0 0 0 0)] (hsOf [([(0,.row 24 [encR rs] 0),(1,.row 3 [[.int .i64 0,.int .i64 0,.int .u32 0]] 0)],2),([(0,.row 24 [encR rs] 0),(1,.row 3 [[.int .i64 0,.int .i64 0,.int .u32 0]] 0),(2,.row 3 [[.int .i64 0,.int .i64 0,.int .u32 0]] 0)],3),([(0,.row 24 [encR rs] 0),(1,.row 3 [[.int .i64 0,.int .i64 0,.int .u32 0]] 0),(2,.row 3 [c.cells] 0)],3)]) (by kernel_rfl) (by rfl) (by rfl) (by repeat' first|exact QExt.retK|apply QExt.seq|apply QExt.block|apply QExt.loop|apply QExt.join|assumption) ?plan [(5,.ptr 2 0 0 0 0)] (by rfl) ?fin
  case' plan=>
   intro q hs s hH;have x:q.get 20=(.agg (encR rs)):=by rw[s,zg];rfl
   have y:q.get 21=(.iptr 1 λj=>[Xf .i64 3,.int .u32 n,.int .i64 v,.int .i64 w,encL 5 encX l].getD (4+j) .undef):=by rw[s,zg];rfl
   have A:q.get 22=encL 5 encX l:=by rw[s,zg];rfl
   have B:q.get 23=(.iptr 5 λj=>(encX a).getD j .undef):=by rw[s,zg];rfl
   have C:q.get 24=.agg (encX a):=by rw[s,zg];rfl
   have d:q.get 25=.agg c.cells:=by rw[s,zg];rfl
   have Q:q.get 5=.ptr 2 0 0 0 0:=by rw[s,zg];rfl
   have O:q.get 2=.ptr 0 0 0 0 0:=by rw[s,zg];rfl
   have P:q.get 3=encP 5 [.int .i64 3,.int .u32 n,.int .i64 v,.int .i64 w,encL 5 encX l]:=by rw[s,zg];rfl
   simp only[zaJ,zfq,zhc,and_true]
   (repeat' with_reducible apply Wa)
   all_goals(rw[hH];simp only[znC,zbE,Wk,Wi,hsOf,hsAt,beqL,zdE,Xc,Wg,Wm,Wo,Wp,cond_true,cond_false,Wq,Wr,Xd])
   all_goals try(simp(disch:=try exact dis1) only[evD,Xc,Xd,Xg,zar,zac,x,y,A,B,C,d,Q,O,P,fldP,zu,ga,zaG,zan,b];done)
  case' fin=>simp only[zaX,hsOf,hsAt,beqL,zdE,Xc,Wg,Wm,Wo,Wp,cond_true,cond_false,Wq,Wr,Xd,Wk,Wi,zeL]
  .by_cases M:R=1
   .rw[if_pos M,L];rcases N with S|F|S
    .have F:c.st=0:=by rw[S];rfl
     rw[if_neg (by omega)];refine Gw13 @dT @dF g o p @ub @zu J b t D u @uo ?_;intros;exact retK _ c
    .rw[if_pos F];refine Gw13 @dT @dF g o p @ub @zu J b t D u @uo ?_;intros;exact retK _ ⟨c.st,c.base,_⟩
    .have F:c.st=2:=by rw[S];rfl
     rw[if_neg (by omega)];refine Gw13 @dT @dF g o p @ub @zu J b t D u @uo ?_;intros;rw[S];exact retK _ Xi
   .rw[if_neg M];by_cases hs0:c.st=0
    ·(refine Gw13 @dT @dF g o p @ub @zu J b t D u @uo ?_;intros);exact retK _ Xi
    ·(refine Gw13 @dT @dF g o p @ub @zu J b t D u @uo ?_;intros);exact retK _ Xi
  all_goals(repeat first|simp(disch:=try exact dis1) only[evD,Xc,Xd,Xg,x,y,A,B,C,d,Q,O,P,fldP,zu,ga,zaG,zan,b,zar,zac,t,D,u]|with_reducible first|intro _|refine aJ ?_)
  all_goals first
   |omega
   |(refine zp (zb Y T) ?_;(refine Gw3 @zar @zac d ?_;intros;try with_reducible exact trivial))
 .have L:addK 4 I c=if c.st=1 then { c with n:=IntKind.u32.wrap (c.n-I) }else c:=by unfold addK;simp
  refine Gw7 @dT @dF t D u @ub J ?_;intros;refine zjG zaX zd4 zdD zaJ [(20,(.agg (encR rs))),(21,(.iptr 1 λj=>[Xf .i64 4,.int .u32 n,.int .i64 v,.int .i64 w,encL 5 encX l].getD (4+j) .undef)),(22,encL 5 encX l),(23,(.iptr 5 λj=>(encX a).getD j .undef)),(24,.agg (encX a)),(25,.agg c.cells),(5,.ptr 2 0 0 0 0)] (hsOf [([(0,.row 24 [encR rs] 0),(1,.row 3 [[.int .i64 0,.int .i64 0,.int .u32 0]] 0)],2),([(0,.row 24 [encR rs] 0),(1,.row 3 [[.int .i64 0,.int .i64 0,.int .u32 0]] 0),(2,.row 3 [[.int .i64 0,.int .i64 0,.int .u32 0]] 0)],3),([(0,.row 24 [encR rs] 0),(1,.row 3 [[.int .i64 0,.int .i64 0,.int .u32 0]] 0),(2,.row 3 [c.cells] 0)],3)]) (by kernel_rfl) (by rfl) (by rfl) (by repeat' first|exact QExt.retK|apply QExt.seq|apply QExt.block|apply QExt.loop|apply QExt.join|assumption) ?plan2 [(5,.ptr 2 0 0 0 0)] (by rfl) ?fin2
  case' plan2=>
   intro q hs s hH;have x:q.get 20=(.agg (encR rs)):=by rw[s,zg];rfl
   have y:q.get 21=(.iptr 1 λj=>[Xf .i64 4,.int .u32 n,.int .i64 v,.int .i64 w,encL 5 encX l].getD (4+j) .undef):=by rw[s,zg];rfl
   have A:q.get 22=encL 5 encX l:=by rw[s,zg];rfl
   have B:q.get 23=(.iptr 5 λj=>(encX a).getD j .undef):=by rw[s,zg];rfl
   have C:q.get 24=.agg (encX a):=by rw[s,zg];rfl
   have d:q.get 25=.agg c.cells:=by rw[s,zg];rfl
   have Q:q.get 5=.ptr 2 0 0 0 0:=by rw[s,zg];rfl
   have O:q.get 2=.ptr 0 0 0 0 0:=by rw[s,zg];rfl
   have P:q.get 3=encP 5 [.int .i64 4,.int .u32 n,.int .i64 v,.int .i64 w,encL 5 encX l]:=by rw[s,zg];rfl
   simp only[zaJ,zfq,zhc,and_true]
   (repeat' with_reducible apply Wa)
   all_goals(rw[hH];simp only[znC,zbE,Wk,Wi,hsOf,hsAt,beqL,zdE,Xc,Wg,Wm,Wo,Wp,cond_true,cond_false,Wq,Wr,Xd])
   all_goals try(simp(disch:=try exact dis1) only[evD,Xc,Xd,Xg,zar,zac,x,y,A,B,C,d,Q,O,P,fldP,zu,ga,zaG,zan,b];done)
  case' fin2=>simp only[zaX,hsOf,hsAt,beqL,zdE,Xc,Wg,Wm,Wo,Wp,cond_true,cond_false,Wq,Wr,Xd,Wk,Wi,zeL]
  .by_cases M:R=1
   .rw[if_pos M,L];rcases N with S|F|S
    .have F:c.st=0:=by rw[S];rfl
     rw[if_neg (by omega)];refine Gw13 @dT @dF g o p @ub @zu J b t D u @uo ?_;intros;exact retK _ c
    .rw[if_pos F];refine Gw13 @dT @dF g o p @ub @zu J b t D u @uo ?_;intros;exact retK _ ⟨c.st,c.base,_⟩
    .have F:c.st=2:=by rw[S];rfl
     rw[if_neg (by omega)];refine Gw13 @dT @dF g o p @ub @zu J b t D u @uo ?_;intros;rw[S];exact retK _ Xi
   .rw[if_neg M];by_cases hs0:c.st=0
    ·(refine Gw13 @dT @dF g o p @ub @zu J b t D u @uo ?_;intros);exact retK _ Xi
    ·(refine Gw13 @dT @dF g o p @ub @zu J b t D u @uo ?_;intros);exact retK _ Xi
  all_goals(repeat first|simp(disch:=try exact dis1) only[evD,Xc,Xd,Xg,x,y,A,B,C,d,Q,O,P,fldP,zu,ga,zaG,zan,b,zar,zac,t,D,u]|with_reducible first|intro _|refine aJ ?_)
  all_goals first
   |omega
   |(refine zp (zb Y T) ?_;(refine Gw3 @zar @zac d ?_;intros;try with_reducible exact trivial))
theorem zmn:zq Z9 zge [] (·=.agg (encR ownR)):=by
 refine fn_x ztq rfl ?_;refine dcU zmO.eq_1 ?_;have o:=hBig;have n:[Xf .i64 0,.int .i64 0,.int .u32 0,.int .i64 0,.int .i64 0,.int .u32 0,.int .i64 0,.int .i64 0,.int .u32 0,.int .i64 0,.int .i64 0,.int .u32 0,.int .i64 0,.int .i64 0,.int .u32 0,.int .i64 0,.int .i64 0,.int .u32 0,.int .i64 0,.int .i64 0,.int .u32 0,.int .i64 0,.int .i64 0,.int .u32 0]=encR z8:=rfl;rw[<-zHJ];generalize g:zgK (λk _=>⟨1,(k:Int),0⟩) R8 z8=R;have j:R.length=8:=by rw[<-g,ziy];rfl
 refine Gw1 n ?_;intros;refine zd (λs:Nat×List Kw=>([(0,.ptr 0 0 0 0 0),(1,.ptr 1 0 0 0 0),(3,.int .i64 s.1)],[(0,.row 24 [encR z8] 0),(1,.row 24 [encR s.2] 0)])) 2 (λs=>s.1<=8/\s.2.length=8/\zgK (λk _=>⟨1,(k:Int),0⟩) (R8.drop s.1) s.2=R) (λs=>8-s.1) (0,z8) ⟨Wc _,rfl,g⟩ (Xl rfl fin5) ?_;rintro⟨k,rs⟩ ⟨m,h,b⟩ wf;simp only at m h b;clear wf;refine dcU zjo.eq_1 ?_;by_cases c:k<8
 .rw[zjM c]at b;have d:=zcZ (rs:=rs) (k:=k) (by omega) ⟨1,(k:Int),0⟩;simp only[Xm]at d;have e:(rs.set k ⟨1,(k:Int),0⟩).length=8:=by rw[Ww,h]
  refine Gw5 @dT @uc @ue @zc9 d ?_;intros;exact⟨(k+1,rs.set k ⟨1,(k:Int),0⟩),⟨c,e,b⟩,by simp only;omega,Xl rfl fin5⟩
 .obtain rfl:k=8:=by omega
  rw[show R8.drop 8=[]from rfl,show zgK (λk _=>⟨1,(k:Int),0⟩) [] rs=rs from rfl]at b;subst b;refine Qa ?_;intros;refine dcU zi1.eq_1 ?_;refine Gw1 @zmr.eq_1 ?_;intros;exact⟨by rw[zao];omega,_,vw_R,rfl⟩
theorem zk3(r o)(H:r.length=8)(S:o.length=8):zq Z9 zdv [.agg (encR r),.agg (encR o)] (·=.agg (encR (zte r o))):=by
 refine fn_x zk1 rfl ?_;unfold zfA zte;conv in Z8 _ _=>reduce
 have Q:=hBig;have O:[Xf .i64 0,.int .i64 0,.int .u32 0,.int .i64 0,.int .i64 0,.int .u32 0,.int .i64 0,.int .i64 0,.int .u32 0,.int .i64 0,.int .i64 0,.int .u32 0,.int .i64 0,.int .i64 0,.int .u32 0,.int .i64 0,.int .i64 0,.int .u32 0,.int .i64 0,.int .i64 0,.int .u32 0,.int .i64 0,.int .i64 0,.int .u32 0]=encR z8:=rfl;generalize F:zgK (λk a=>zs7 a (o.getD k Xj)) R8 r=R;have M:R.length=8:=by rw[<-F,ziy];exact H
 have L:(encR r).length=24:=by rw[zao];omega
 have K:(encR o).length=24:=by rw[zao];omega
 have J:∀l:List AV,(Xh l).cells=l:=λ_=>rfl
 have P:∀l:List AV,(Xh l).solid=true:=λ_=>rfl
 refine Gw5 O J P L K ?_;intros;refine zd (λs:Nat×List Kw=>([(2,.ptr 0 0 0 0 0),(3,.ptr 1 0 0 0 0),(4,.ptr 2 0 0 0 0),(6,.int .i64 s.1)],[(0,.row 24 [encR s.2] 0),(1,.row 24 [encR o] 0),(2,.row 24 [encR z8] 0)])) 3 (λs=>s.1<=8/\s.2.length=8/\zgK (λk a=>zs7 a (o.getD k Xj)) (R8.drop s.1) s.2=R) (λs=>8-s.1) (0,r) ⟨Wc _,H,F⟩ (Xl rfl fin5) ?_;rintro⟨k,n⟩ ⟨N,A,d⟩ wf;simp only at N A d;clear wf;refine dcU zep.eq_1 ?_;by_cases g:k<8
 .rw[zjM g]at d;have m:k<n.length:=by omega
  have v:k<o.length:=by omega
  have x:=zgR m;have u:=zgR v;have t:=ziz (j:=0) m (by decide);have go:=ziz (j:=0) v (by decide);have I:=zcZ m;have q:=I (o.getD k Xj);have w:=I Xi;simp only[Xm,Xi,Wi,Ws]at q w t go;have p:∀c:Kw,(n.set k c).length=8:=λc=>by rw[Ww,A]
  have e:=zsI m;unfold zs7 at d;generalize n.getD k Xj=a at t x d e;generalize o.getD k Xj=b at go u d q;by_cases C:a.st=0
  .rw[if_pos C]at d;simp only[Xm]at u;refine Gw11 @dT @dF @uc @ue @uk @zc9 t go x u q ?_;intros;exact⟨(k+1,n.set k b),⟨g,p _,d⟩,by simp only;omega,Xl rfl fin5⟩
  .rw[if_neg C]at d;by_cases D:b.st=0
   .rw[if_neg (λh=>h.1 D),e]at d;refine Gw10 @dT @dF @uc @ue @uk @zc9 t go x u ?_;intros;exact⟨(k+1,n),⟨g,A,d⟩,by simp only;omega,Xl rfl fin5⟩
   .by_cases y:a=b
    .rw[if_neg (λh=>h.2 y),e]at d;have B:(!decide (a=b))=false:=by simp[y]
     (repeat first|simp(disch:=try exact dis1) only[evD,Xc,Xd,Xg,dT,dF,Wh,Wl,Ws,zc9,t,go,x,u,eqsK,eqTo,cond_true,B]|with_reducible first|intro _|refine aJ ?_)
     exact⟨(k+1,n),⟨g,A,d⟩,by simp only;omega,Xl rfl fin5⟩
    .rw[if_pos ⟨D,y⟩]at d;have B:(!decide (a=b))=true:=by simp[y]
     (repeat first|simp(disch:=try exact dis1) only[evD,Xc,Xd,Xg,dT,dF,Wh,Wl,Ws,zc9,t,go,x,u,eqsK,eqTo,cond_true,B,w]|with_reducible first|intro _|refine aJ ?_)
     exact⟨(k+1,n.set k Xi),⟨g,p _,d⟩,by simp only;omega,Xl rfl fin5⟩
 .obtain rfl:k=8:=by omega
  rw[show R8.drop 8=[]from rfl,show zgK (λk a=>zs7 a (o.getD k Xj)) [] n=n from rfl]at d;subst d;refine Qa ?_;intros;refine dcU zeq.eq_1 ?_;refine Gw1 @zfB.eq_1 ?_;intros;exact⟨by rw[zao];omega,_,vw_R,rfl⟩
theorem zaN{H HH}{σ}{D}:RowV H HH σ D [[.nilsl,.nilsl,.nilsl]] [zaS.cells]:=by
 refine⟨rfl,λi e d=>?_⟩
 cases i with
 |succ i=>cases d
 |zero=>
  cases d;refine⟨_,rfl,rfl,λj x y b c=>?_⟩
  match j with
  |0=>cases b;cases c;exact zl
  |1=>cases b;cases c;exact zl
  |2=>cases b;cases c;exact zl
  |j+3=>cases b
theorem zaE{s:Sgn}:zE [s.cells]:=zY rfl
theorem zjA{l}{x}(h:x∈l):hasI l x=true:=by unfold hasI;exact WH.2 ⟨x,h,decide_eq_true rfl⟩
theorem znl{l}{x}(h:x∉l):hasI l x=false:=by
 unfold hasI;refine Bool.eq_false_iff.2 λe=>?_
 obtain⟨y,b,c⟩:=WH.1 e;exact h ((of_decide_eq_true c)▸b)
theorem QK{b p:Prop}(a0:b)(h:b->p:=by intro a0;(try simp only[evWB,Nat.reduceBEq,Nat.reduceAdd,Nat.reduceSub,Nat.reduceLeDiff,Nat.reduceLT,implies_true,a0])<;>(repeat' with_reducible apply And.intro)<;>first|(first|exact zf|exact zl|exact zaN|exact RowV.of_flat (zY (ze _))|exact RowV.of_flat zaE|exact zh (ze _);done)|exact fin6):p:=h a0
theorem zyl(e)(V:e.length=8)(s)(c)(es){Q}(p:∀(b:Bool),Q .normal [(3,.ptr 1 0 0 0 0),(6,.ptr 2 0 0 0 0),(7,.ptr 3 0 0 0 0),(40,.int .i64 (8:Nat)),(41,.bool false)] [(0,.row 3 (tabM c es) 0),(1,.row 24 [encR (retR s e)] 0),(2,.row 24 [encR z8] 0),(3,.row 3 [s.cells] 0)] 4){K}{H}{nx}(v:Ent 1 K H nx [(3,.ptr 1 0 0 0 0),(6,.ptr 2 0 0 0 0),(7,.ptr 3 0 0 0 0),(40,.int .i64 (0:Nat))] [(0,.row 3 (tabM c es) 0),(1,.row 24 [encR e] 0),(2,.row 24 [encR z8] 0),(3,.row 3 [s.cells] 0)] 4) :
  zoT Z9 1 zce (zdH 1 Q) K H nx:=by
 have Y:=hBig;have J:=λx=>zaI s.sav x
 have I:=λx=>zaI s.res x
 unfold retR at p;generalize T:zgK (ret1 s) R8 e=R at p;have W:R.length=8:=by rw[<-T,ziy];exact V
 refine zd (λt:Nat×List Kw=>([(3,.ptr 1 0 0 0 0),(6,.ptr 2 0 0 0 0),(7,.ptr 3 0 0 0 0),(40,.int .i64 t.1)],[(0,.row 3 (tabM c es) 0),(1,.row 24 [encR t.2] 0),(2,.row 24 [encR z8] 0),(3,.row 3 [s.cells] 0)])) 4 (λt=>t.1<=8/\t.2.length=8/\zgK (ret1 s) (R8.drop t.1) t.2=R) (λt=>8-t.1) (0,e) ⟨Wc _,V,T⟩ v ?_;rintro⟨k,e⟩ ⟨X,F,d⟩ wf;simp only at X F d;clear wf v;refine dcU zce.eq_1 ?_;by_cases m:k<8
 .rw[zjM m]at d;have o:k<e.length:=by omega
  have sr:=zgR o;have B:=ziz (j:=0) o (by decide);have M:=ziz (j:=2) o (by decide);have L:=zcZ o Xi;have D:=λn=>zue o n
  simp only[Xm,Xi,Wi,Wk,Ws]at L B M;have w:∀c:Kw,(e.set k c).length=8:=λc=>by rw[Ww,F]
  have g:=zsI o;unfold ret1 at d;have C:=J k;have N:=I k;have Z:s.cells=[za s.args,za s.res,za s.sav]:=rfl;have y:s.cells.getD 1 .undef=za s.res:=rfl;have A:s.cells.getD 2 .undef=za s.sav:=rfl;have P:decide ((k:Int)=7)=decide (k=7):=decide_eq_decide.2 (by omega);by_cases O:(k:Int)∈s.sav
  .rw[if_pos O]at d;rw[zjA O]at C;by_cases S:k=7
   .by_cases u:(e.getD k Xj).st=1
    .rw[if_pos ⟨S,u⟩]at d;have U:=d;generalize e.getD k Xj=a at B M D d u;refine Gw9 @dT @dF @uc @ue @uk @zc9 B y A ?_;intros;refine zc (zb C rfl) ?_;refine Gw10 @dT @dF P @uc @ue @uk @zc9 B M D ?_;intros;exact⟨(k+1,_),⟨m,w _,d⟩,by simp only;omega,(Xa [(0,0,0),(1,1,0),(2,2,0),(3,3,0)] [] rfl rfl rfl (QK @ua) (QK @ua))⟩
    .rw[if_neg (λh=>u h.2),g]at d;generalize e.getD k Xj=a at B M D u;refine Gw9 @dT @dF @uc @ue @uk @zc9 B y A ?_;intros;refine zc (zb C rfl) ?_;refine Gw8 @dT @dF P @uc @ue @uk @zc9 B ?_;intros;exact⟨(k+1,e),⟨m,F,d⟩,by simp only;omega,(Xa [(0,0,0),(1,1,0),(2,2,0),(3,3,0)] [] rfl rfl rfl (QK @ua) (QK @ua))⟩
   .rw[if_neg (λh=>S h.1),g]at d;refine Gw7 @dT @dF @uc @ue @uk y A ?_;intros;refine zc (zb C rfl) ?_;refine Gw2 @dF P ?_;intros;exact⟨(k+1,e),⟨m,F,d⟩,by simp only;omega,(Xa [(0,0,0),(1,1,0),(2,2,0),(3,3,0)] [] rfl rfl rfl (QK @ua) (QK @ua))⟩
  .rw[if_neg O]at d;rw[znl O]at C;by_cases q:(k:Int)∈s.res
   .rw[if_pos q]at d;rw[zjA q]at N;refine Gw4 @dT @dF y A ?_;intros;refine zc (zb C rfl) ?_;refine Gw2 y A ?_;intros;refine zc (zb N rfl) ?_;refine Gw7 @dT @dF @uc @ue @uk @zc9 L ?_;intros;exact⟨(k+1,e.set k Xi),⟨m,w _,d⟩,by simp only;omega,(Xa [(0,0,0),(1,1,0),(2,2,0),(3,3,0)] [] rfl rfl rfl (QK @ua) (QK @ua))⟩
   .rw[if_neg q,g]at d;rw[znl q]at N;refine Gw4 @dT @dF y A ?_;intros;refine zc (zb C rfl) ?_;refine Gw2 y A ?_;intros;refine zc (zb N rfl) ?_;refine Qd ?_;intros;exact⟨(k+1,e),⟨m,F,d⟩,by simp only;omega,(Xa [(0,0,0),(1,1,0),(2,2,0),(3,3,0)] [] rfl rfl rfl (QK @ua) (QK @ua))⟩
 .obtain rfl:k=8:=by omega
  rw[show R8.drop 8=[]from rfl,show zgK (ret1 s) [] e=e from rfl]at d;subst d;refine Qa ?_;intros;exact p false
theorem zeD{H HH}{σ}{D}:VwL H HH σ D true [.nilsl,.nilsl,.nilsl] zaS.cells:=⟨zl,zl,zl,trivial⟩
theorem QL{b p:Prop}(a0:b)(h:b->p:=by intro a0;(try simp only[evWB,Nat.reduceBEq,Nat.reduceAdd,Nat.reduceSub,Nat.reduceLeDiff,Nat.reduceLT,implies_true,a0])<;>(repeat' with_reducible apply And.intro)<;>first|(first|exact zf|exact zl|exact zaN|exact RowV.of_flat (zY (ze _))|exact RowV.of_flat zaE|exact zh (ze _)|exact vw_R|exact zeD;done)|exact fin6):p:=h a0
theorem zm8(s)(rs)(Z:CanR rs)(l)(q)(S:OkS s)(c)(es)(ht:TabS l q es):
  zad Z9 zbG [.agg (encR rs),.agg s.cells,.mp 0 0] [(0,.row 3 (tabM c es) 0)] 1
  (λv H nx=>v=.agg (encR (thr1 l q rs s))/\H=[(0,.row 3 (tabM c es) 0)]/\nx=1):=by
 have hr:=Z.1;refine zab (fn_x zkD rfl ?_);refine dcU ze6.eq_1 ?_;have hB:=hBig;have F:[Xf .i64 0,.int .i64 0,.int .u32 0,.int .i64 0,.int .i64 0,.int .u32 0,.int .i64 0,.int .i64 0,.int .u32 0,.int .i64 0,.int .i64 0,.int .u32 0,.int .i64 0,.int .i64 0,.int .u32 0,.int .i64 0,.int .i64 0,.int .u32 0,.int .i64 0,.int .i64 0,.int .u32 0,.int .i64 0,.int .i64 0,.int .u32 0]=encR z8:=rfl;have m:(encR rs).length=24:=by rw[zao];omega
 have p:(encR z8).length=24:=rfl;have A:∀l:List AV,(Xh l).cells=l:=λ_=>rfl
 have D:∀l:List AV,(Xh l).solid=true:=λ_=>rfl
 have o:=zto ht s.tgt;have n:=ztV (a:=s.tgt) (es:=es) (i:=0);have d:∀u:List Kw,u=thr1 l q rs s->Xh (encR u)=.agg (encR (thr1 l q rs s)):=λu h=>by rw[h]
 unfold thr1 at d⊢;obtain⟨op,var,V,next,els,I,e,cs⟩:=s;obtain⟨B,y,t,T⟩:=S;simp only at B y t d T o n⊢;by_cases K:op=1
 .have U:=y (.inl K);subst K;by_cases N:var<8
  .have Q:=B rfl
   cases e with
   |nil=>exact absurd rfl Q
   |cons x e=>
   have w:=zcZ (rs:=rs) (k:=var.toNat) (by omega) (zkr rs x);have O:=zuV rs Z (zbF x) x (Wz _) (t x (by simp));have X:((x::e).map encX).getD (Wv 0) []=encX x:=rfl;have R:0<(x::e).length:=by simp
   have M:[Xh (encR rs),Xh (encX x)].all Xr=true:=by rw[WG,flX rfl,Wg];exact zgi rs
   rw[zkT]at d⊢;generalize zkr rs x=W at d w O⊢;generalize hE:x::e=E at X R;have g:(encR (rs.set var.toNat W)).length=24:=by rw[zao,Ww];omega
   refine Gw14 @dT @dF F A D m p @ub @zu X @zaG @zan @ud @ua ?_;intros;refine zp (zb O M) ?_;refine Gw11 @dT @dF A D m p @ub @zu @ue @zc9 w ?_;intros;refine⟨⟨by omega,rfl⟩,?_⟩;refine dcU zR.eq_1 ?_;refine Gw4 m p g @z6.eq_1 ?_;intros;exact⟨_,_,_,(Xa [(0,0,0)] [] rfl rfl rfl (QL @ua) (QL @ua)),d (rs.set var.toNat W) (by rw[if_pos rfl,if_pos N]),rfl,rfl⟩
  .have g:=m;refine Gw11 @dT @dF F A D m p @ub @zu @ud @ua ?_;intros;refine dcU zR.eq_1 ?_;refine Gw4 m p g @z6.eq_1 ?_;intros;exact⟨_,_,_,(Xa [(0,0,0)] [] rfl rfl rfl (QL @ua) (QL @ua)),d rs (by rw[if_pos rfl,if_neg N]),rfl,rfl⟩
 by_cases P:op=3
 .have U:=y (.inr P);subst P;by_cases N:var<8
  .have w:=zcZ (rs:=rs) (k:=var.toNat) (by omega) Xi;simp only[Xm,Xi]at w;have g:(encR (rs.set var.toNat ⟨2,0,0⟩)).length=24:=by rw[zao,Ww];omega
   refine Gw14 @dT @dF F A D m p @ub @zu @ue @zc9 w @ud @ua ?_;intros;refine dcU zR.eq_1 ?_;refine Gw4 m p g @z6.eq_1 ?_;intros;exact⟨_,_,_,(Xa [(0,0,0)] [] rfl rfl rfl (QL @ua) (QL @ua)),d (rs.set var.toNat ⟨2,0,0⟩) (by rw[if_neg K,if_pos rfl,if_pos N];rfl),rfl,rfl⟩
  .have g:=m;refine Gw11 @dT @dF F A D m p @ub @zu @ud @ua ?_;intros;refine dcU zR.eq_1 ?_;refine Gw4 m p g @z6.eq_1 ?_;intros;exact⟨_,_,_,(Xa [(0,0,0)] [] rfl rfl rfl (QL @ua) (QL @ua)),d rs (by rw[if_neg K,if_pos rfl,if_neg N]),rfl,rfl⟩
 by_cases Y:op=5
 .subst Y;have g:(encR (retR (zaz l q I) rs)).length=24:=by rw[zao,zzF];omega
  generalize zaz l q I=J at d o g⊢;have C:tabM c es=[Xf .i64 c,.undef,.undef]::es.map cT:=rfl
  cases L:atT es I with
  |none=>rw[L]at o n;simp only at o n;subst o;refine Gw13 @dT @dF F A D m p @ub @zu @uu n @ud @ua ?_;intros;rw[<-C];refine zyl rs hr zaS c es (λb=>?_) (Xa [(0,0,0),(1,1,0),(2,2,0),(3,3,0)] [] rfl rfl rfl (QL @ua) (QL @ua));refine Gw0 ?_;intros;refine dcU zR.eq_1 ?_;refine Gw4 m p g @z6.eq_1 ?_;intros;exact⟨_,_,_,(Xa [(0,0,0)] [] rfl rfl rfl (QL @ua) (QL @ua)),d (retR zaS rs) (by rw[if_neg (by decide),if_neg (by decide),if_pos rfl]),rfl,rfl⟩
  |some j=>rw[L]at o n;simp only at o n;rw[o]at n;refine Gw13 @dT @dF F A D m p @ub @zu @uu n @ud @ua ?_;intros;rw[<-C];refine⟨rfl,?_⟩;refine zyl rs hr J c es (λb=>?_) (Xa [(0,0,0),(1,1,0),(2,2,0),(3,3,0)] [] rfl rfl rfl (QL @ua) (QL @ua));refine Gw0 ?_;intros;refine dcU zR.eq_1 ?_;refine Gw4 m p g @z6.eq_1 ?_;intros;exact⟨_,_,_,(Xa [(0,0,0)] [] rfl rfl rfl (QL @ua) (QL @ua)),d (retR J rs) (by rw[if_neg (by decide),if_neg (by decide),if_pos rfl]),rfl,rfl⟩
 .have g:=m;refine Gw11 @dT @dF F A D m p @ub @zu @ud @ua ?_;intros;refine dcU zR.eq_1 ?_;refine Gw4 m p g @z6.eq_1 ?_;intros;exact⟨_,_,_,(Xa [(0,0,0)] [] rfl rfl rfl (QL @ua) (QL @ua)),d rs (by rw[if_neg K,if_neg P,if_neg Y]),rfl,rfl⟩
theorem QM{c d p:Prop}(a0:c)(b:d)(h:c->d->p:=by intro a0 b;(try simp only[evWB,Nat.reduceBEq,Nat.reduceAdd,Nat.reduceSub,Nat.reduceLeDiff,Nat.reduceLT,implies_true,a0,b])<;>(repeat' with_reducible apply And.intro)<;>first|(first|exact zl;done)|exact fin6):p:=h a0 b
theorem zcW(γ:Nat)(l:List Int)(d:l.length<=1000000):zad Z9 zdq [.own 0 0 γ 0 l.length] [(0,.row 1 (l.map λn=>[.int .i64 n]) γ)] 1
  (λv H b=>v=.own 0 0 γ 0 l.length/\H=[(0,.row 1 (l.map λn=>[.int .i64 n]) γ)]/\b=1):=by
 refine zab (fn_x zrD rfl ?_);refine dcU zkm.eq_1 ?_;have c:=hBig;refine Gw1 @zjV.eq_1 ?_;intros;exact⟨_,_,_,(Xa [(0,0,0)] [] rfl rfl rfl (QM @zk @ua) (QM @zk @ua)),rfl,rfl,rfl⟩
theorem zwq{ρ:Nat->Nat}{l:List Int}{g:Nat}:AObj.ren ρ (.row 1 (l.map λn=>[Xf .i64 n]) g)=.row 1 (l.map λn=>[Xf .i64 n]) g:=by simp only[AObj.ren,Xu];congr 1;exact WP λi _=>by simp only[Function.comp,Wx,WI,Xk]
def srtP(a:MS)(b:List Int)(v:Nat):Bool:=decide ((v:Int)∈a.keys) && !hasI b v
def srtL(a:MS)(b:List Int):List Int:=((Wy 12).filter (srtP a b)).map λ(v:Nat)=>(v:Int)
def outN(a:MS)(b:List Int)(j:Nat):List Int:=((Wy j).filter (srtP a b)).map λ(v:Nat)=>(v:Int)
theorem zwT{a}{sk}{j}:outN a sk (j+1)=if srtP a sk j then outN a sk j++[(j:Int)]else outN a sk j:=by
 unfold outN;rw[Xv,WQ,Wt];by_cases h:srtP a sk j=true
 .rw[if_pos h];simp[h]
 .rw[if_neg h];simp[h]
theorem zqi{a}{sk}{j}:(outN a sk j).length<=j:=by unfold outN;rw[Wn];exact WJ (WR _ _) (by simp)
theorem QN{d e g j p:Prop}(a0:d)(b:e)(c:g)(a3:j)(h:d->e->g->j->p:=by intro a0 b c a3;(try simp only[evWB,Nat.reduceBEq,Nat.reduceAdd,Nat.reduceSub,Nat.reduceLeDiff,Nat.reduceLT,implies_true,a0,b,c,a3])<;>(repeat' with_reducible apply And.intro)<;>first|(first|exact zl;done)|exact fin6):p:=h a0 b c a3
theorem zr1(a)(sk):zad Z9 zai [.mp 0 0,za sk] [(0,.row 3 ((setM a.1 a.2).map cm) 0)] 1
  (λv H t=>v=za (srtL a sk)/\H=[(0,.row 3 ((setM a.1 a.2).map cm) 0)]/\t=1):=by
 refine zab (fn_x zhb rfl ?_);refine dcU zeJ.eq_1 ?_;have u:=hBig;have d:=λx=>zaI sk x
 refine Gw0 ?_;intros;refine zd (λs:Nat×Nat=>([(0,.mp 0 0),(1,za sk),(5,.own 1 0 s.2 0 (outN a sk s.1).length),(7,.int .i64 s.1)],[(0,.row 3 ((setM a.1 a.2).map cm) 0),(1,.row 1 ((outN a sk s.1).map λn=>[.int .i64 n]) s.2)])) 2 (λs=>s.1<=12) (λs=>12-s.1) (0,0) (Wc _) (by rw[show outN a sk (0,0).1=[]from rfl];exact(Xa [(0,0,0),(1,2,0)] [] rfl rfl rfl (QM @zk @ua) (QM @zk @ua))) ?_;rintro⟨j,γ⟩ hj wf;simp only at hj;clear wf;refine dcU zdp.eq_1 ?_;by_cases o:j<12
 case neg=>
  obtain rfl:j=12:=by omega
  have e:=zqi (a:=a) (sk:=sk) (j:=12);refine Qa ?_;intros;refine dcU zdr.eq_1 ?_;generalize p:outN a sk 12=O at e⊢;refine Gw0 ?_;intros;refine zH [(0,1,0)] 1 _ (zcW γ O (by omega)) rfl rfl fin9 fin9 ?_;rintro _ _ _ ⟨rfl,rfl,rfl⟩
  (repeat first|simp(disch:=try exact dis1) only[evD,Xc,Xd,Xg,zwq,Xk,show Tab.to [(0,1,0)] 2 0=1 from rfl,zeZ]|with_reducible intro _|((with_reducible apply Wa);omega))
  exact⟨za (srtL a sk),[(0,.row 3 ((setM a.1 a.2).map cm) 0)],1,by rw[show srtL a sk=O from p];exact(Xa [(0,0,0)] [1] rfl rfl rfl (QM @zk @ua) (QM @zk @ua)),rfl,rfl,rfl⟩
 have b:=zwT (a:=a) (sk:=sk) (j:=j);have e:=zqi (a:=a) (sk:=sk) (j:=j);have c:=d j;by_cases m:(j:Int)∈a.2.map (·.1)
 .obtain⟨i,w,q,k⟩:=zhy m
  cases g:hasI sk j with
  |true=>rw[if_neg (by unfold srtP;rw[g];simp)]at b;rw[g]at c;refine Gw3 @dT @zk k ?_;intros;refine zc (zb c rfl) ?_;refine Gw0 ?_;intros;refine⟨(j+1,γ),by omega,by simp only;omega,by rw[b];exact(Xa [(0,0,0),(1,1,0)] [] rfl rfl rfl (QM @zk @ua) (QM @zk @ua))⟩
  |false=>rw[if_pos (by unfold srtP;rw[g];simp only[WK,Wg];exact decide_eq_true m)]at b;rw[g]at c;refine Gw3 @dT @zk k ?_;intros;refine zc (zb c rfl) ?_;refine Gw0 ?_;intros;refine⟨(j+1,γ+1),by omega,by simp only;omega,by rw[b,WA,WB,Wt];exact(Xa [(0,0,0),(1,1,0)] [] rfl rfl rfl (QN @zk @ua @m9C @m9N) (QN @zk @ua @m9C @m9N))⟩
 .have k:=zfy m;rw[if_neg (by unfold srtP MS.keys;simp only[Wj,decide_eq_true_eq];exact λh=>m h.1)]at b;refine Gw3 @dT @zk k ?_;intros;refine⟨(j+1,γ),by omega,by simp only;omega,by rw[b];exact(Xa [(0,0,0),(1,1,0)] [] rfl rfl rfl (QM @zk @ua) (QM @zk @ua))⟩
def cmN(p:Int×Int):List AV:=[.int .i64 p.1,.bool true,.undef]
def setN(a:MS):List (List AV):=[.undef,.undef,.undef]::a.2.map cmN
theorem zaH{a}:zE (setN a):=by
 intro c b;rcases List.mem_cons.1 b with rfl|b
 .rfl
 .obtain⟨p,_,rfl⟩:=WL.1 b;rfl
theorem zwZ{k:Int}:∀ {b:List (Int×Int)}{i:Nat},zc6 (.int .i64 k) (b.map cmN) i=some (match b.findIdx? (λp=>decide (p.1=k))with
  |some j=>some (i+j,.bool true)
  |none=>none)
 |[],i=>rfl
 |
  p::b,i=>by
  rw[List.findIdx?_cons];by_cases h:k=p.1
  .rw[if_pos (decide_eq_true h.symm)];simp only[Wx,cmN,zc6,zty,if_true,decide_eq_true h,Ws]
  .rw[if_neg (by simp;exact λe=>h e.symm)];have e:zc6 (.int .i64 k) ((p::b).map cmN) i=zc6 (.int .i64 k) (b.map cmN) (i+1):=by simp only[Wx,cmN,zc6,zty,if_true,decide_eq_false h]
   rw[e,zwZ]
   cases b.findIdx? (λp=>decide (p.1=k))with
   |none=>rfl
   |some j=>simp only[Option.map_some,Option.some.injEq,Prod.mk.injEq,and_true];omega
theorem zmQ{k:Int}{b:List (Int×Int)}(h:k∈b.map (·.1)):∃j,∃m:j<b.length,b[j].1=k/\zc6 (.int .i64 k) (b.map cmN) 0=some (some (j,.bool true)):=by
 rw[zwZ]
 cases c:b.findIdx? (λp=>decide (p.1=k))with
 |none=>obtain⟨p,g,rfl⟩:=WL.1 h;have:=List.findIdx?_eq_none_iff.1 c p g;simp at this
 |some j=>obtain⟨d,e,_⟩:=WS.1 c;exact⟨j,d,of_decide_eq_true e,by simp⟩
theorem zkp{k:Int}{b:List (Int×Int)}(h:k∉b.map (·.1)):zc6 (.int .i64 k) (b.map cmN) 0=some none:=by
 rw[zwZ]
 cases e:b.findIdx? (λp=>decide (p.1=k))with
 |none=>rfl
 |some j=>obtain⟨c,d,_⟩:=WS.1 e;exact absurd (WL.2 ⟨_,Wf c,of_decide_eq_true d⟩) h
theorem zJl{b:List (Int×Int)}{j:Nat}{v:Int}(c:j<b.length)(h:b[j].1=v):(b.map cmN).set j [.int .i64 v,.bool true,((b.map cmN).getD j []).getD 2 .undef]=b.map cmN:=by
 have d:(b.map cmN).getD j []=[.int .i64 b[j].1,.bool true,.undef]:=zj (f:=cmN) c;rw[d];simp only[Wk,Wi,<-h];have:[Xf .i64 b[j].1,.bool true,.undef]=(b.map cmN)[j]'(by simpa using c):=by simp[cmN]
 rw[this];exact WU _
theorem zzN{c v}{ps}:(ps++[(v,c)]).map cmN=ps.map cmN++[[.int .i64 v,.bool true,.undef]]:=by simp[cmN]
theorem zaD{b:List (Int×Int)}:zE ([Xw,.undef,.undef]::b.map cmN):=zaH (a:=(0,b))
theorem zeo{b:List (Int×Int)}{v:Int}:zE ([Xw,.undef,.undef]::(b.map cmN++[[.int .i64 v,.bool true,.undef]])):=by rw[<-zzN (c:=0)];exact zaH (a:=(0,b++[(v,0)]))
theorem evSN:(∀ {str:Option IntKind}{k v:AV}{r q d g:Nat}{u e:AV}{b:List (List AV)}{H:AH}{c:Nat},zIE str r q k v (some (.row d ([.undef,u,e]::b) g)) H c=zJw str r q k v d g u e b (zc6 k b 0) H c) /\
 (∀ {str:Option IntKind}{k v:AV}{r q d g i:Nat}{u e x:AV}{b:List (List AV)}{H:AH}{c:Nat},zJw str r q k v d g u e b (some (some (i,x))) H c =
  ⟨d=3/\g=0/\zhF str k,True,.undef,H.set r q (.row 3 ([.undef,u,e]::b.set i [k,v,(b.getD i []).getD 2 .undef]) 0),c⟩) /\
 (∀ {str:Option IntKind}{k v:AV}{r q d g:Nat}{u e:AV}{b:List (List AV)}{H:AH}{c:Nat},zJw str r q k v d g u e b (some none) H c =
  ⟨d=3/\g=0/\zhF str k,True,.undef,H.set r q (.row 3 ([.undef,u,e]::(b++[[k,v,.undef]])) 0),c⟩):=⟨rfl,rfl,rfl⟩
theorem zV{H HH}{σ}{D}:RowV H HH σ D [[.int .i64 0,.undef,.undef]] (setN (0,[])) :=
 ⟨rfl,λi d h=>match i with
  |
   0=>by
   cases h
   exact⟨_,rfl,rfl,λj a b e c=>match j with
    |0=>by cases c;exact .undef _ _
    |1=>by cases c;exact .undef _ _
    |2=>by cases c;exact .undef _ _
    |j+3=>by cases c⟩
  |i+1=>by cases h⟩
theorem QO{c d p:Prop}(a0:c)(b:d)(h:c->d->p:=by intro a0 b;(try simp only[evWB,Nat.reduceBEq,Nat.reduceAdd,Nat.reduceSub,Nat.reduceLeDiff,Nat.reduceLT,implies_true,a0,b])<;>(repeat' with_reducible apply And.intro)<;>first|(first|exact zl|exact RowV.of_flat zaH;done)|exact fin6):p:=h a0 b
theorem QP{d e g j p:Prop}(a0:d)(b:e)(c:g)(a3:j)(h:d->e->g->j->p:=by intro a0 b c a3;(try simp only[evWB,Nat.reduceBEq,Nat.reduceAdd,Nat.reduceSub,Nat.reduceLeDiff,Nat.reduceLT,implies_true,a0,b,c,a3])<;>(repeat' with_reducible apply And.intro)<;>first|(first|exact zl|exact RowV.of_flat zaH;done)|exact fin6):p:=h a0 b c a3
theorem ug:type_of% @setN.eq_1:=@setN.eq_1
theorem zj6(a)(sk):zad Z9 zai [.mp 0 0,za sk] [(0,.row 3 (setN a) 0)] 1
  (λv H t=>v=za (srtL a sk)/\H=[(0,.row 3 (setN a) 0)]/\t=1):=by
 refine zab (fn_x zhb rfl ?_);refine dcU zeJ.eq_1 ?_;have u:=hBig;have d:=λx=>zaI sk x
 refine Gw0 ?_;intros;refine zd (λs:Nat×Nat=>([(0,.mp 0 0),(1,za sk),(5,.own 1 0 s.2 0 (outN a sk s.1).length),(7,.int .i64 s.1)],[(0,.row 3 (setN a) 0),(1,.row 1 ((outN a sk s.1).map λn=>[.int .i64 n]) s.2)])) 2 (λs=>s.1<=12) (λs=>12-s.1) (0,0) (Wc _) (by rw[show outN a sk (0,0).1=[]from rfl];exact(Xa [(0,0,0),(1,2,0)] [] rfl rfl rfl (QO @ug @ua) (QO @ug @ua))) ?_;rintro⟨j,γ⟩ hj wf;simp only at hj;clear wf;refine dcU zdp.eq_1 ?_;by_cases o:j<12
 case neg=>
  obtain rfl:j=12:=by omega
  have e:=zqi (a:=a) (sk:=sk) (j:=12);refine Qa ?_;intros;refine dcU zdr.eq_1 ?_;generalize p:outN a sk 12=O at e⊢;refine Gw0 ?_;intros;refine zH [(0,1,0)] 1 _ (zcW γ O (by omega)) rfl rfl fin9 fin9 ?_;rintro _ _ _ ⟨rfl,rfl,rfl⟩
  (repeat first|simp(disch:=try exact dis1) only[evD,Xc,Xd,Xg,zwq,Xk,show Tab.to [(0,1,0)] 2 0=1 from rfl,zeZ]|with_reducible intro _|((with_reducible apply Wa);omega))
  exact⟨za (srtL a sk),[(0,.row 3 (setN a) 0)],1,by rw[show srtL a sk=O from p];exact(Xa [(0,0,0)] [1] rfl rfl rfl (QO @ug @ua) (QO @ug @ua)),rfl,rfl,rfl⟩
 have b:=zwT (a:=a) (sk:=sk) (j:=j);have e:=zqi (a:=a) (sk:=sk) (j:=j);have c:=d j;by_cases m:(j:Int)∈a.2.map (·.1)
 .obtain⟨i,w,q,k⟩:=zmQ m
  cases g:hasI sk j with
  |true=>rw[if_neg (by unfold srtP;rw[g];simp)]at b;rw[g]at c;refine Gw3 @dT @ug k ?_;intros;refine zc (zb c rfl) ?_;refine Gw0 ?_;intros;refine⟨(j+1,γ),by omega,by simp only;omega,by rw[b];exact(Xa [(0,0,0),(1,1,0)] [] rfl rfl rfl (QO @ug @ua) (QO @ug @ua))⟩
  |false=>rw[if_pos (by unfold srtP;rw[g];simp only[WK,Wg];exact decide_eq_true m)]at b;rw[g]at c;refine Gw3 @dT @ug k ?_;intros;refine zc (zb c rfl) ?_;refine Gw0 ?_;intros;refine⟨(j+1,γ+1),by omega,by simp only;omega,by rw[b,WA,WB,Wt];exact(Xa [(0,0,0),(1,1,0)] [] rfl rfl rfl (QP @ug @ua @m9C @m9N) (QP @ug @ua @m9C @m9N))⟩
 .have k:=zkp m;rw[if_neg (by unfold srtP MS.keys;simp only[Wj,decide_eq_true_eq];exact λh=>m h.1)]at b;refine Gw3 @dT @ug k ?_;intros;refine⟨(j+1,γ),by omega,by simp only;omega,by rw[b];exact(Xa [(0,0,0),(1,1,0)] [] rfl rfl rfl (QO @ug @ua) (QO @ug @ua))⟩
theorem zIp{s}{a}(h:∀v,v∈a.keys↔v∈s.res):srtL a s.sav=zv6 s:=by
 unfold srtL zv6;congr 1;refine WV λv _=>?_
 unfold srtP zDa;have c:decide ((v:Int)∈a.keys)=decide ((v:Int)∈s.res):=decide_eq_decide.2 (h v)
 have d:hasI s.sav v=decide ((v:Int)∈s.sav):=by
  by_cases b:(v:Int)∈s.sav
  .rw[zjA b,decide_eq_true b]
  .rw[znl b,decide_eq_false b]
 rw[c,d]
theorem QR{b p:Prop}(a0:b)(h:b->p:=by intro a0;(try simp only[evWB,Nat.reduceBEq,Nat.reduceAdd,Nat.reduceSub,Nat.reduceLeDiff,Nat.reduceLT,implies_true,a0])<;>(repeat' with_reducible apply And.intro)<;>first|(first|exact zl|exact zV|exact RowV.of_flat zaH|exact RowV.of_flat zaD|exact RowV.of_flat zeo;done)|exact fin6):p:=h a0
theorem QS{d e g p:Prop}(a0:d)(b:e)(c:g)(h:d->e->g->p:=by intro a0 b c;(try simp only[evWB,Nat.reduceBEq,Nat.reduceAdd,Nat.reduceSub,Nat.reduceLeDiff,Nat.reduceLT,implies_true,a0,b,c])<;>(repeat' with_reducible apply And.intro)<;>first|(first|exact zl|exact zV|exact RowV.of_flat zaH|exact RowV.of_flat zaD|exact RowV.of_flat zeo;done)|exact fin6):p:=h a0 b c
theorem QU{d e g j p:Prop}(a0:d)(b:e)(c:g)(a3:j)(h:d->e->g->j->p:=by intro a0 b c a3;(try simp only[evWB,Nat.reduceBEq,Nat.reduceAdd,Nat.reduceSub,Nat.reduceLeDiff,Nat.reduceLT,implies_true,a0,b,c,a3])<;>(repeat' with_reducible apply And.intro)<;>first|(first|exact zl|exact zV|exact RowV.of_flat zaH|exact RowV.of_flat zaD|exact RowV.of_flat zeo;done)|exact fin6):p:=h a0 b c a3
theorem zjh(s):zq Z9 zd9 [.agg s.cells] (·=za (zv6 s)):=by
 refine fn_x zqy rfl ?_;refine dcU zjf.eq_1 ?_;have D:=hBig;have k:∀a:MS,(∀v,v∈a.keys↔v∈s.res)->srtL a s.sav=zv6 s:=λa h=>zIp h
 generalize zv6 s=R at k⊢;obtain⟨B,b,A⟩:=s;simp only[Sgn.cells]at k⊢;refine Gw3 @ub @zu @ua ?_;intros
 refine zd (λi:Nat=>([(1,encP 3 [za B,za b,za A]),(3,.mp 0 0),(8,za b),(9,.int .i64 b.length),(10,.int .i64 i)],[(0,.row 3 (setN (addL (0,[]) (b.take i))) 0)])) 1
  (λi=>i<=b.length) (λi=>b.length-i) 0 (Wc _) (by rw[WM,show addL (0,[]) []=(0,[])from rfl];exact(Xs [(0,1,0)] [] rfl (QR @ua) (QR @ua))) ?_
 rintro i F wf;clear wf;refine dcU zhq.eq_1 ?_;by_cases e:i<b.length
 .have o:(b.map λn=>[Xf .i64 n]).getD i []=[.int .i64 b[i]]:=zj (f:=λn=>[Xf .i64 n]) e;have c:=zjZ (s:=(0,[])) e;generalize addL (0,[]) (b.take i)=d at c⊢;obtain⟨m,p⟩:=d;by_cases q:b[i]∈p.map (·.1)
  .obtain⟨j,C,w,u⟩:=zmQ q;have t:add1 (m,p) b[i]=(m,p):=if_pos q;rw[t]at c;have x:=zJl C w;refine Gw7 @dT o @ua @ug @evSN u x ?_;intros;exact⟨i+1,e,by omega,(Xs [(0,0,0)] [] rfl (QS @ug @ua c) (QS @ug @ua c))⟩
  .have u:=zkp q;have t:add1 (m,p) b[i]=(m+1,p++[(b[i],m)]):=if_neg q;rw[t]at c;refine Gw6 @dT o @ua @ug @evSN u ?_;intros;exact⟨i+1,e,by omega,(Xs [(0,0,0)] [] rfl (QU @ug @ua c @zzN) (QU @ug @ua c @zzN))⟩
 .obtain rfl:i=b.length:=by omega
  rw[Wu];have g:∀v,v∈(addL (0,[]) b).keys↔v∈b:=λv=>by rw[zlv];simp[MS.keys]
  have y:=k _ g;generalize addL (0,[]) b=d at g y⊢;refine Qa ?_;intros;refine dcU zhu.eq_1 ?_;refine Gw3 @ub @zu @ua ?_;intros;refine zH [(0,0,0)] 1 _ (zj6 d A) rfl rfl (Gin6_1 @ua) (Gin6_1 @ua) ?_;rintro _ _ _ ⟨rfl,rfl,rfl⟩;rw[y];refine Gw3 @renM @renE @zi4.eq_1 ?_;intros;exact⟨_,zZ rfl,rfl⟩
theorem Qy{p:Prop}(h:p:=by(try simp only[evWB,Nat.reduceBEq,Nat.reduceAdd,Nat.reduceSub,Nat.reduceLeDiff,Nat.reduceLT,implies_true,za,zi])<;>(repeat' with_reducible apply And.intro)<;>first|(first|exact zf|exact RowV.of_flat (zy ze)|exact zh (ze _)|exact vw_R;done)|exact fin6):p:=h
theorem QV{b p:Prop}(a0:b)(h:b->p:=by intro a0;(try simp only[evWB,Nat.reduceBEq,Nat.reduceAdd,Nat.reduceSub,Nat.reduceLeDiff,Nat.reduceLT,implies_true,a0])<;>(repeat' with_reducible apply And.intro)<;>first|(first|exact zf|exact RowV.of_flat (zy ze)|exact zh (ze _)|exact vw_R;done)|exact fin6):p:=h a0
theorem fl_l0(B:Int)(v:List Bl)(g:List Nat)(i b:Nat)(C:Bool)(o:List (List Kw))(l:List Sgn)(at':List Int)(c:Int)(w:List TE)(X:TabS l at' w)(e:List St)(W:∀s∈e,OkS s)(Z:e.length<=1000000)(x:List Kw)(P:CanR x){Q}(m:Q .normal [(1,.mp 0 0),(2,encP 2 [.int .u32 B,encL 2 Xb v]),(5,.own 1 0 0 0 v.length),(6,zi g),(7,.bool C),(26,zi g),(27,.int .i64 g.length),(28,.int .i64 i),(9,.int .i64 b),(10,.ptr 2 0 0 0 0),(41,encL 8 Xe e),(42,.int .i64 e.length),(43,.int .i64 e.length),(44,.bool false)] [(0,.row 3 (tabM c w) 0),(1,.row 24 (o.map encR) 0),(2,.row 24 [encR (thrR l at' e x)] 0)] 3){K}{H}{S:Nat}(p:Ent 1 K H S [(1,.mp 0 0),(2,encP 2 [.int .u32 B,encL 2 Xb v]),(5,.own 1 0 0 0 v.length),(6,zi g),(7,.bool C),(26,zi g),(27,.int .i64 g.length),(28,.int .i64 i),(9,.int .i64 b),(10,.ptr 2 0 0 0 0),(41,encL 8 Xe e),(42,.int .i64 e.length),(43,.int .i64 (0:Nat))] [(0,.row 3 (tabM c w) 0),(1,.row 24 (o.map encR) 0),(2,.row 24 [encR x] 0)] 3) :
  zoT Z9 1 zgo (zdH 4 Q) K H S:=by
 have Y:=hBig;unfold thrR at m;generalize O:e.foldl (thr1 l at') x=R at m;refine zd (λt:Nat×List Kw=>([(1,.mp 0 0),(2,encP 2 [.int .u32 B,encL 2 Xb v]),(5,.own 1 0 0 0 v.length),(6,zi g),(7,.bool C),(26,zi g),(27,.int .i64 g.length),(28,.int .i64 i),(9,.int .i64 b),(10,.ptr 2 0 0 0 0),(41,encL 8 Xe e),(42,.int .i64 e.length),(43,.int .i64 t.1)],[(0,.row 3 (tabM c w) 0),(1,.row 24 (o.map encR) 0),(2,.row 24 [encR t.2] 0)])) 3 (λt=>t.1<=e.length/\CanR t.2/\(e.drop t.1).foldl (thr1 l at') t.2=R) (λt=>e.length-t.1) (0,x) ⟨Wc _,P,O⟩ p ?_;clear p O P;rintro⟨k,J⟩ ⟨V,A,h⟩ wf;simp only at V A h;clear wf;refine dcU zgo.eq_1 ?_;by_cases n:k<e.length
 case neg=>
  obtain rfl:k=e.length:=by omega
  rw[WC (Wz _),Xo]at h;subst h;refine Qa ?_;intros;exact m
 rw[WD n,Xn]at h;have U:(e.map Xe).getD k []=e[k].cells:=zj (f:=Xe) (d:=[]) n;have F:=W _ (Wf n);have j:=zy8 (l:=l) (at':=at') A e[k];have y:=zm8 e[k] J A l at' F c w X;generalize thr1 l at' J e[k]=u at h j y;have M:(encR J).length=24:=by rw[zao,A.1]
 have N:(encR u).length=24:=by rw[zao,j.1]
 have q:[e[k].cells.getD 0 .undef,e[k].cells.getD 1 .undef,e[k].cells.getD 2 .undef,e[k].cells.getD 3 .undef,e[k].cells.getD 4 .undef,e[k].cells.getD 5 .undef,e[k].cells.getD 6 .undef,e[k].cells.getD 7 .undef]=e[k].cells:=Xt _;have D:e[k].cells.length=8:=rfl;have L:∀l:List AV,(Xh l).cells=l:=λ_=>rfl
 have T:∀l:List AV,(Xh l).solid=true:=λ_=>rfl
 refine Gw10 @dT U @ub @zu q D L T M N ?_;intros;refine zH [(0,0,0)] 1 _ y rfl rfl (QV @ua) (QV @ua) ?_;rintro _ _ _ ⟨rfl,rfl,rfl⟩;have I:∀ρ:Nat->Nat,Xk ρ (.agg (encR u))=.agg (encR u):=λρ=>by simp only[Xk];congr 1;exact znD (ze u)
 refine Gw7 @zmN I L T M N @zu ?_;intros;exact⟨(k+1,u),⟨n,j,h⟩,by simp only;omega,(Xa [(0,0,0),(1,1,0),(2,2,0)] [] rfl rfl rfl Qy Qy)⟩
theorem zHK{o:List (List Kw)}{e:Nat}(h:e<o.length):o.set e (o.getD e z8)=o:=by
 have:o.getD e z8=o[e]:=by simp[Xx,h]
 rw[this];exact WU h
theorem fl_l2(ad:Int)(m:List Bl)(hbl:m.length<=1000)(h:List Nat)(i:Nat)(c:Int)(es:List TE)(x:List Kw)(L:CanR x)(g:List Nat)(helt:∀e∈g,e<m.length)(hebl:g.length<=1000)(o1:List (List Kw))(N:CanO m.length o1)(D:Bool){Q}(hQE:QExt Q)(P:∀k o,CanO m.length k->g.foldl (zrI x) (o1,D)=(k,o)->Q .normal ([(1,.mp 0 0),(2,encP 2 [.int .u32 ad,encL 2 Xb m]),(5,.own 1 0 0 0 m.length),(6,zi h),(7,.bool o),(26,zi h),(27,.int .i64 h.length),(28,.int .i64 i),(10,.ptr 2 0 0 0 0),(57,za (g.map λ(n:Nat)=>(n:Int))),(58,.int .i64 g.length),(59,.int .i64 g.length)]++[(60,.bool false)]) [(0,.row 3 (tabM c es) 0),(1,.row 24 (k.map encR) 0),(2,.row 24 [encR x] 0)] 3){K}{H}{nx:Nat}(O:Ent 1 K H nx [(1,.mp 0 0),(2,encP 2 [.int .u32 ad,encL 2 Xb m]),(5,.own 1 0 0 0 m.length),(6,zi h),(7,.bool D),(26,zi h),(27,.int .i64 h.length),(28,.int .i64 i),(10,.ptr 2 0 0 0 0),(57,za (g.map λ(n:Nat)=>(n:Int))),(58,.int .i64 g.length),(59,.int .i64 (0:Nat))] [(0,.row 3 (tabM c es) 0),(1,.row 24 (o1.map encR) 0),(2,.row 24 [encR x] 0)] 3) :
  zoT Z9 1 zgx (zdH 6 Q) K H nx:=by
 have hB:=hBig;have hz:[Xf .i64 0,.int .i64 0,.int .u32 0,.int .i64 0,.int .i64 0,.int .u32 0,.int .i64 0,.int .i64 0,.int .u32 0,.int .i64 0,.int .i64 0,.int .u32 0,.int .i64 0,.int .i64 0,.int .u32 0,.int .i64 0,.int .i64 0,.int .u32 0,.int .i64 0,.int .i64 0,.int .u32 0,.int .i64 0,.int .i64 0,.int .u32 0]=encR z8:=rfl;have c0:∀l:List AV,(Xh l).cells=l:=λ_=>rfl
 have s0:∀l:List AV,(Xh l).solid=true:=λ_=>rfl
 have erx:(encR x).length=24:=by rw[zao,L.1]
 generalize hPB:g.foldl (zrI x) (o1,D)=PB at P;refine zd (λs:Nat×(List (List Kw)×Bool)=>([(1,.mp 0 0),(2,encP 2 [.int .u32 ad,encL 2 Xb m]),(5,.own 1 0 0 0 m.length),(6,zi h),(7,.bool s.2.2),(26,zi h),(27,.int .i64 h.length),(28,.int .i64 i),(10,.ptr 2 0 0 0 0),(57,za (g.map λ(n:Nat)=>(n:Int))),(58,.int .i64 g.length),(59,.int .i64 s.1)],[(0,.row 3 (tabM c es) 0),(1,.row 24 (s.2.1.map encR) 0),(2,.row 24 [encR x] 0)])) 3 (λs=>s.1<=g.length/\CanO m.length s.2.1/\(g.drop s.1).foldl (zrI x) s.2=PB) (λs=>g.length-s.1) (0,(o1,D)) ⟨Wc _,N,hPB⟩ O ?_;clear O hPB N;rintro⟨j,⟨k,o⟩⟩ ⟨hj,d,b⟩ wf;simp only at hj d b;clear wf;unfold zgx;by_cases w:j<g.length
 case neg=>
  obtain rfl:j=g.length:=by omega
  rw[WC (Wz _),Xo]at b;have hf:=P k o d b.symm;simp only[Wd,We]at hf;refine Qa ?_;intros;exact hf
 rw[WD w,Xn]at b;have gj:((g.map λ(n:Nat)=>(n:Int)).map λn=>[Xf .i64 n]).getD j []=[.int .i64 (g[j]:Int)]:=by rw[Xu,zj (f:=_) w];rfl
 have hen:=helt _ (Wf w);generalize g[j]=e at gj hen b;have heo:e<k.length:=by rw[d.1];exact hen
 have u:=getR heo;have v:=zlh d e;obtain⟨q,-⟩:=zzk (p:=(k,o)) L d hen;unfold zrI at q b;simp only at q b;have Z:=zk3 (k.getD e z8) x v.1 L.1;have J:=zv8 v L;have y:=zHK heo;generalize k.getD e z8=M at u v Z J q b y;generalize zte M x=t at Z J q b;have F:(encR M).length=24:=by rw[zao,v.1]
 have I:(encR t).length=24:=by rw[zao,J.1]
 have heq:=eqs24 J.1 v.1;have hst:(k.map encR).set e (encR t)=(k.set e t).map encR:=by rw[Xy]
 have hol:=d.1;refine Gw4 @dT @ua gj @m9M ?_;intros;refine zjG zij zqF zpu zgU [(63,.own 1 0 0 0 m.length),(64,.int .i64 e),(65,.ptr 1 0 0 e 0),(66,.agg (encR M)),(67,.agg (encR x)),(68,.agg (encR t)),(15,.ptr 3 0 0 0 0)] (hsOf [([(0,.row 3 (tabM c es) 0),(1,.row 24 (k.map encR) 0),(2,.row 24 [encR x] 0)],3),([(0,.row 3 (tabM c es) 0),(1,.row 24 (k.map encR) 0),(2,.row 24 [encR x] 0),(3,.row 24 [encR z8] 0)],4),([(0,.row 3 (tabM c es) 0),(1,.row 24 (k.map encR) 0),(2,.row 24 [encR x] 0),(3,.row 24 [encR t] 0)],4)]) (by kernel_rfl) (by rfl) (by rfl) (by repeat' first|exact QExt.retK|apply QExt.seq|apply QExt.block|apply QExt.loop|apply QExt.join|assumption) ?plan [(15,.ptr 3 0 0 0 0)] (by rfl) ?fin
 case' plan=>
  intro B hs C hH;have U:B.get 63=.own 1 0 0 0 m.length:=by rw[C,zg];rfl
  have V:B.get 64=.int .i64 e:=by rw[C,zg];rfl
  have W:B.get 65=.ptr 1 0 0 e 0:=by rw[C,zg];rfl
  have X:B.get 66=.agg (encR M):=by rw[C,zg];rfl
  have Y:B.get 67=.agg (encR x):=by rw[C,zg];rfl
  have A:B.get 68=.agg (encR t):=by rw[C,zg];rfl
  have T:B.get 15=.ptr 3 0 0 0 0:=by rw[C,zg];rfl
  have kf5:B.get 5=.own 1 0 0 0 m.length:=by rw[C,zg];rfl
  have R:B.get 10=.ptr 2 0 0 0 0:=by rw[C,zg];rfl
  have S:B.get 14=.int .i64 e:=by rw[C,zg];rfl
  simp only[zgU,zfq,zhc,and_true]
  (repeat' with_reducible apply Wa)
  all_goals(rw[hH];simp only[znC,zhK,Wk,Wi,hsOf,hsAt,beqL,zdE,Xc,Wg,Wm,Wo,Wp,cond_true,cond_false,Wq,Wr,Xd])
  all_goals try(simp(disch:=try exact dis1) only[evD,Xc,Xd,Xg,zar,zac,U,V,W,X,Y,A,T,kf5,R,S,fldP,zu,u,hz,c0,s0,F,I,erx,Wh,Wl];done)
 case' fin=>simp only[zij,hsOf,hsAt,beqL,zdE,Xc,Wg,Wm,Wo,Wp,cond_true,cond_false,Wq,Wr,Xd,Wk,Wi,zeL]
 .have hnd:(!decide (t=M))=decide (t≠M):=by simp
  by_cases hme:t=M
  .have hd:decide (t≠M)=false:=by simp[hme]
   rw[hd,Bool.or_false]at b;subst hme;rw[y]at b
   (repeat first|simp(disch:=try exact dis1) only[evD,Xc,Xd,Xg,u,Wh,c0,s0,F,I,heq,eqTo,cond_true,hnd,hd,Wn,zu]|with_reducible first|intro _|refine aJ ?_)
   exact⟨(j+1,(k,o)),⟨w,d,b⟩,by simp only;omega,(Xa [(0,0,0),(1,1,0),(2,2,0)] [] rfl rfl rfl Qy Qy)⟩
  .have hd:decide (t≠M)=true:=by simp[hme]
   rw[hd,Bool.or_true]at b;generalize k.set e t=o3 at hst q b
   (repeat first|simp(disch:=try exact dis1) only[evD,Xc,Xd,Xg,u,Wh,c0,s0,F,I,heq,eqTo,cond_true,hnd,hd,hst,Wn,zu]|with_reducible first|intro _|refine aJ ?_)
   exact⟨(j+1,(o3,true)),⟨w,q,b⟩,by simp only;omega,(Xa [(0,0,0),(1,1,0),(2,2,0)] [] rfl rfl rfl Qy Qy)⟩
 all_goals(repeat first|simp(disch:=try exact dis1) only[evD,Xc,Xd,Xg,U,V,W,X,Y,A,T,kf5,R,S,fldP,zu,u,hz,c0,s0,F,I,erx,Wh,Wl,zar,zac,Wn]|with_reducible first|intro _|refine aJ ?_)
 all_goals first
  |omega
  |(refine zp (zb Z (by simp only[WG,List.all_nil,Xr,zgi,Wg])) ?_;(refine Gw3 @zar @zac A ?_;intros;try with_reducible exact trivial))
  |rfl
theorem zgt(g)(b:fewC g):zq Z9 zcP [.agg g.cells] (·=zi (ordG g)):=by have h:=Dm.dominator_Order_ok g.toG (ztI b);rw[G.toG_cells]at h;exact h
theorem zuI(g)(hf:fewC g)(hg:OkG g)(hs:∀b∈g.blocks,∀s∈b.stmts,OkS s)(l)(at')(c)(V)(ht:TabS l at' V):
  zad Z9 zkk [.agg g.cells,.mp 0 0] [(0,.row 3 (tabM c V) 0)] 1
  (λv H nx=>v=encL 24 encR (zkE g l at')/\H=[(0,.row 3 (tabM c V) 0)]/\nx=1):=by
 refine zab (fn_x zuZ rfl ?_);unfold zoc zkE;conv in Z8 _ _=>reduce
 have hB:=hBig;have hz:[Xf .i64 0,.int .i64 0,.int .u32 0,.int .i64 0,.int .i64 0,.int .u32 0,.int .i64 0,.int .i64 0,.int .u32 0,.int .i64 0,.int .i64 0,.int .u32 0,.int .i64 0,.int .i64 0,.int .u32 0,.int .i64 0,.int .i64 0,.int .u32 0,.int .i64 0,.int .i64 0,.int .u32 0,.int .i64 0,.int .i64 0,.int .u32 0]=encR z8:=rfl;have c0:∀l:List AV,(Xh l).cells=l:=λ_=>rfl
 have s0:∀l:List AV,(Xh l).solid=true:=λ_=>rfl
 have M:=zgt g hf;have A:=zpD g;have hole:=zqb g;have hpos:=hg.pos;have hbl8:=hf.blocks;have X:=zzS g.blocks.length;have N:=λo hc=>zz2 hg A (l:=l) (at':=at') (o:=o) hc
 have K:=λp b d hp=>zzp hg (l:=l) (at':=at') (p:=p) (b:=b) d hp
 have hlt:=λb d=>zwc hg (b:=b) d
 have hel:=λb d=>zsd hf (b:=b) d
 have hsuc:=λb (d:b<g.blocks.length)=>ziI g.blocks[b] (λs h=>WJ (hf.cases _ (Wf d) s h) (by decide))
 have L:=λb (d:b<g.blocks.length)=>zDF hg d
 have hthr:=λb (d:b<g.blocks.length)=>hs _ (Wf d)
 have Y:=λb (d:b<g.blocks.length)=>hf.stmts _ (Wf d)
 have Q:∀o b (d:b<g.blocks.length),zzG g l at' o b=thrR l at' g.blocks[b].stmts (o.getD b z8):=λo b d=>by unfold zzG;rw[zg8 d]
 have u:∀n o,zsu g l at' (ordG g) (n+1) o=if (zl2 g l at' (ordG g) o).2 then zsu g l at' (ordG g) n (zl2 g l at' (ordG g) o).1 else(zl2 g l at' (ordG g) o).1:=λn o=>zya
 have T:∀o,zl2 g l at' (ordG g) o=(ordG g).foldl (zu5 g l at') (o,false):=λo=>rfl
 have O:∀p b,zu5 g l at' p b=(edgB g b).foldl (zrI (zzG g l at' p.1 b)) p:=λp b=>rfl
 generalize hR:zsu g l at' (ordG g) (muO (ztU g.blocks.length)+1) (ztU g.blocks.length)=R;generalize zsu g l at' (ordG g)=FF at u hR;generalize zl2 g l at' (ordG g)=FP at N u T;generalize zu5 g l at'=FB at K T O;generalize zzG g l at'=FX at Q O;generalize ordG g=e at M A hole T;generalize hE:edgB g=E at hlt hel L O;obtain⟨ad,k⟩:=g;simp only[G.cells]at M A hole hpos hbl8 X N K hlt hel hsuc L hthr Y Q hR⊢;have Z:WN k.length (encR z8)=(WN k.length z8).map encR:=by rw[List.map_replicate]
 have hset:((WN k.length z8).map encR).set (Wv 0) (encR ownR)=(ztU k.length).map encR:=by unfold ztU;rw[Xy];rfl
 have e0:((k.length:Nat):Int).toNat=k.length:=Wh _;have ero:(encR ownR).length=24:=rfl;refine Gw5 @ub @zu hz e0 Z ?_;intros;refine zc (zb zmn rfl) ?_;refine Gw11 @ub @zu hz e0 Z c0 s0 ero hset @m9M @m9R ?_;intros;refine zc (zb M rfl) ?_;refine Gw0 ?_;intros;refine zd (λs:Bool×List (List Kw)=>([(1,.mp 0 0),(2,encP 2 [.int .u32 ad,encL 2 Xb k]),(5,.own 1 0 0 0 k.length),(6,zi e),(7,.bool s.1)],[(0,.row 3 (tabM c V) 0),(1,.row 24 (s.2.map encR) 0)])) 2 (λs=>CanO k.length s.2/\(s.1=true->∃m,muO s.2<m/\FF m s.2=R)/\(s.1=false->s.2=R)) (λs=>if s.1=true then muO s.2+1 else 0) (true,ztU k.length) ⟨X,λ_=>⟨_,Nat.lt_succ_self _,hR⟩,λh=>by cases h⟩ (Xa [(0,0,0),(1,2,0)] [] rfl rfl rfl Qy Qy) ?_;rintro⟨ag,o⟩ ⟨D,I,J⟩ wf;simp only at D I J;clear wf hR;refine dcU zj9.eq_1 ?_
 cases ag with
 |false=>have hR2:=J rfl;refine Gw0 ?_;intros;refine dcU zks.eq_1 ?_;refine Gw1 @zow.eq_1 ?_;intros;subst hR2;refine⟨encL 24 encR o,[(0,.row 3 (tabM c V) 0)],1,?_,rfl,rfl,rfl⟩;rw[<-D.1];exact(Xa [(0,0,0)] [1] rfl rfl rfl (by((try simp only[evWB,Xc,Xd,Xp,Xg,Xq,implies_true])<;>(repeat' with_reducible apply Wa)<;>first|(first|exact zf|exact RowV.of_flat (zy ze)|exact zh (ze _)|exact vw_R;done)|exact fin6)) (by((try simp only[evWB,Xc,Xd,Xp,Xg,Xq,implies_true])<;>(repeat' with_reducible apply Wa)<;>first|(first|exact zcU ⟨rfl⟩ rfl (by rw[D.1];omega) (λa ha j hj=>zB (zbo (ze a)))|exact zcU rfl rfl (by rw[D.1];omega) (λa ha j hj=>zB (zbo (ze a)));done)|exact fin6)))
 |true=>
 obtain⟨m,hm,C⟩:=I rfl;obtain⟨m,rfl⟩:∃m',m=m'+1:=⟨m-1,by omega⟩;rw[u]at C;obtain⟨hpc,hpm⟩:=N o D;have hpo:=T o;generalize FP o=PF at C hpc hpm hpo;clear I J;refine Gw1 @uf ?_;intros;refine zd (λs:Nat×(List (List Kw)×Bool)=>([(1,.mp 0 0),(2,encP 2 [.int .u32 ad,encL 2 Xb k]),(5,.own 1 0 0 0 k.length),(6,zi e),(7,.bool s.2.2),(26,zi e),(27,.int .i64 e.length),(28,.int .i64 s.1)],[(0,.row 3 (tabM c V) 0),(1,.row 24 (s.2.1.map encR) 0)])) 2 (λs=>s.1<=e.length/\CanO k.length s.2.1/\(e.drop s.1).foldl FB s.2=PF) (λs=>e.length-s.1) (0,(o,false)) ⟨Wc _,D,hpo.symm⟩ (Xa [(0,0,0),(1,1,0)] [] rfl rfl rfl Qy Qy) ?_;rintro⟨i,⟨F,B⟩⟩ ⟨hi,t,q⟩ wf;simp only at hi t q;clear wf;refine dcU zkg.eq_1 ?_;by_cases S:i<e.length
 case neg=>
  rw[WC (by omega),Xo]at q;subst q;refine Gw2 @dF @uf ?_;intros;refine⟨(B,F),⟨t,λh=>?_,λh=>?_⟩,?_,(Xa [(0,0,0),(1,1,0)] [] rfl rfl rfl Qy Qy)⟩
  .simp only at h;subst h;rw[if_pos rfl]at C;rcases hpm with ⟨_,h⟩|⟨h,_⟩
   .cases h
   .exact⟨m,by simp only at h⊢;omega,C⟩
  .simp only at h;subst h;rw[if_neg (λh=>by cases h)]at C;exact C
  .rcases hpm with ⟨_,h⟩|⟨h1,h⟩
   .simp only at h;subst h;simp
   .simp only at h h1;subst h;simp;omega
 rw[WD S,Xn]at q;have gi:(e.map λ(n:Nat)=>[Xf .i64 (n:Int)]).getD i []=[.int .i64 (e[i]:Int)]:=zj (f:=λ(n:Nat)=>[Xf .i64 (n:Int)]) S;have d:=A _ (Wf S);generalize e[i]=b at q gi d;obtain⟨hbc,-⟩:=K (F,B) b d t;have w:=O (F,B) b;generalize FB (F,B) b=PB at q hbc w;have hgb:(k.map Xb).getD b []=Xb k[b]:=zj d;have hob:b<F.length:=by rw[t.1];exact d
 have gob:=getR hob;have P:=zlh t b;have hth:=hthr b d;have hln:=Y b d;have y:=Q F b d;have hxc:CanR (FX F b):=by rw[Q F b d];exact zsK P
 have hed:=L b d;have U:=hsuc b d;rw[hed]at U;have hebl:=hel b d;have W:=hlt b d;generalize FX F b=x at y hxc w;generalize E b=EB at hed U hebl W w;generalize F.getD b z8=ob at gob P y;have hbb:[k[b].cells.getD 0 .undef,k[b].cells.getD 1 .undef]=k[b].cells:=by cases k[b];rfl
 have hb1:k[b].cells.getD 1 .undef=encL 8 Xe k[b].stmts:=by cases k[b];rfl
 generalize k[b]=bb at hgb hth hln y U hbb hb1;have ez:(encR z8).length=24:=rfl;have erb:(encR ob).length=24:=by rw[zao,P.1]
 (repeat first|simp(disch:=try exact dis1) only[evD,Xc,Xd,Xg,dT,zi,fldP,zu,gi,hgb,hb1,gob,hz,ez,c0,s0,erb,Wh,Wl,Wn]|with_reducible first|intro _|refine aJ ?_)
 refine fl_l0 ad k e i b B F l at' c V ht bb.stmts hth (by omega) ob P ?_ (Xa [(0,0,0),(1,1,0),(2,2,0)] [] rfl rfl rfl Qy Qy);rw[<-y];refine Gw0 ?_;intros;refine dcU zkX.eq_1 ?_;refine Gw5 @ub @zu hgb hbb @uc ?_;intros;refine zc (zb U rfl) ?_;refine Gw2 @ua @m9M ?_;intros;refine fl_l2 ad k (by omega) e i c V x hxc EB W (by omega) F t B (by repeat' first|exact QExt.retK|apply QExt.seq|apply QExt.block|apply QExt.loop|apply QExt.join|assumption) (λo2 ag2 hco2 hPB=>?_) (Xa [(0,0,0),(1,1,0),(2,2,0)] [] rfl rfl rfl Qy Qy);rw[<-w]at hPB;subst hPB;simp only[Wd,We];refine Gw0 ?_;intros;refine dcU zki.eq_1 ?_;refine Gw0 ?_;intros;exact⟨(i+1,(o2,ag2)),⟨S,hco2,q⟩,by simp only;omega,(Xa [(0,0,0),(1,1,0)] [] rfl rfl rfl Qy Qy)⟩
def kpC(f:Nat->Bool):List AV:=(Wy 8).map λr=>.bool (f r)
theorem zH7{f}{k}(h:k<8):(kpC f).getD k .undef=.bool (f k):=by simp[kpC,Xx,h]
theorem zxZ{f}{k}{b}(h:k<8):splice (kpC f) k [.bool b]=kpC λr=>if r=k then b else f r:=by
 unfold kpC splice
 match k,h with
 |0,_=>rfl
 |1,_=>rfl
 |2,_=>rfl
 |3,_=>rfl
 |4,_=>rfl
 |5,_=>rfl
 |6,_=>rfl
 |7,_=>rfl
theorem zLI{f}:(kpC f).length=8:=by simp[kpC]
theorem za6{f}:zQ (kpC f)=true:=rfl
theorem zsM{f f'}(h:∀r,r<8->f r=f' r):kpC f=kpC f':=WP λr b=>by rw[h r (List.mem_range.1 b)]
def zxI:List Kw:=[⟨1,0,0⟩,⟨1,1,0⟩,⟨1,2,0⟩,⟨1,3,0⟩,⟨1,4,0⟩,⟨1,5,0⟩,⟨1,6,0⟩,⟨1,7,4⟩]
theorem zH9{k}(h:k<8):zxI.getD k Xj=zzY k:=by
 match k,h with
 |0,_=>rfl
 |1,_=>rfl
 |2,_=>rfl
 |3,_=>rfl
 |4,_=>rfl
 |5,_=>rfl
 |6,_=>rfl
 |7,_=>rfl
def kpR(b:List Kw)(f:Nat->Bool):Nat->Bool:=λr=>f r&&decide (b.getD r Xj=zzY r)
def svS(l:List Sgn)(b:List Int)(p:List Kw×(Nat->Bool))(s:St):List Kw×(Nat->Bool):=(thr1 l b p.1 s,if s.op=9 then kpR p.1 p.2 else p.2)
theorem zKN{l}{at'}{rs}{s}(h:s.op=9):thr1 l at' rs s=rs:=by unfold thr1;rw[if_neg (by omega),if_neg (by omega),if_neg (by omega)]
theorem zH1{s}(h:zo8 s=false):s.op≠9:=λb=>by unfold zo8 at h;rw[b]at h;revert h;decide
theorem zK5{l:List Sgn}{at':List Int}:∀ {ss:List St}{p:List Kw×(Nat->Bool)},zf7 ss=true->(ss.foldl (svS l at') p).2=match ss.getLast? with
  |some s=>if s.op=9 then kpR (thrR l at' ss p.1) p.2 else p.2
  |none=>p.2
 |[],p,_=>rfl
 |
  [s],p,_=>by
  show(svS l at' p s).2=if s.op=9 then kpR (thr1 l at' p.1 s) p.2 else p.2
  unfold svS;by_cases h:s.op=9
  .rw[if_pos h,if_pos h,zKN h]
  .rw[if_neg h,if_neg h]
 |
  s::c::ss,p,h=>by
  have b:zo8 s=false/\zf7 (c::ss)=true:=by rw[zf7,Wj]at h;refine⟨?_,h.2⟩;have:=h.1;simpa using this
  have e:=zK5 (l:=l) (at':=at') (ss:=c::ss) (p:=svS l at' p s) b.2;rw[Xn,e,List.getLast?_cons_cons];have d:(svS l at' p s).2=p.2:=if_neg (zH1 b.1);rw[d];rfl
theorem Qx{p:Prop}(h:p:=by(try simp only[evWB,Nat.reduceBEq,Nat.reduceAdd,Nat.reduceSub,Nat.reduceLeDiff,Nat.reduceLT,implies_true,za,zi])<;>(repeat' with_reducible apply And.intro)<;>first|(first|exact zf|exact zh (ze _)|exact vw_R|exact zh za6;done)|exact fin6):p:=h
theorem sv_l1(u:Int)(v:List Bl)(S:List (List Kw))(d:List Nat)(i:Nat)(c:Int)(w:List TE)(o:List St)(k:Nat)(s:St)(f:Nat->Bool)(rs:List Kw)(P:rs.length=8){Q}(q:Q .normal [(1,.mp 0 0),(2,encP 2 [.int .u32 u,encL 2 Xb v]),(5,.ptr 1 0 0 0 0),(6,.ptr 2 0 0 0 0),(8,encL 24 encR S),(32,zi d),(33,.int .i64 d.length),(34,.int .i64 i),(11,.ptr 3 0 0 0 0),(47,encL 8 Xe o),(48,.int .i64 o.length),(13,.ptr 4 0 0 0 0),(49,.int .i64 k),(56,.int .i64 (8:Nat)),(57,.bool false)] [(0,.row 3 (tabM c w) 0),(1,.row 24 [encR zxI] 0),(2,.row 8 [kpC (kpR rs f)] 0),(3,.row 24 [encR rs] 0),(4,.row 8 [s.cells] 0)] 5){K}{H}{F:Nat}(n:Ent 1 K H F [(1,.mp 0 0),(2,encP 2 [.int .u32 u,encL 2 Xb v]),(5,.ptr 1 0 0 0 0),(6,.ptr 2 0 0 0 0),(8,encL 24 encR S),(32,zi d),(33,.int .i64 d.length),(34,.int .i64 i),(11,.ptr 3 0 0 0 0),(47,encL 8 Xe o),(48,.int .i64 o.length),(13,.ptr 4 0 0 0 0),(49,.int .i64 k),(56,.int .i64 (0:Nat))] [(0,.row 3 (tabM c w) 0),(1,.row 24 [encR zxI] 0),(2,.row 8 [kpC f] 0),(3,.row 24 [encR rs] 0),(4,.row 8 [s.cells] 0)] 5) :
  zoT Z9 1 zfL (zdH 6 Q) K H F:=by
 have N:=hBig;have M:kpC (λr=>if r<0 then kpR rs f r else f r)=kpC f:=rfl;refine zd (λj:Nat=>([(1,.mp 0 0),(2,encP 2 [.int .u32 u,encL 2 Xb v]),(5,.ptr 1 0 0 0 0),(6,.ptr 2 0 0 0 0),(8,encL 24 encR S),(32,zi d),(33,.int .i64 d.length),(34,.int .i64 i),(11,.ptr 3 0 0 0 0),(47,encL 8 Xe o),(48,.int .i64 o.length),(13,.ptr 4 0 0 0 0),(49,.int .i64 k),(56,.int .i64 j)],[(0,.row 3 (tabM c w) 0),(1,.row 24 [encR zxI] 0),(2,.row 8 [kpC (λr=>if r<j then kpR rs f r else f r)] 0),(3,.row 24 [encR rs] 0),(4,.row 8 [s.cells] 0)])) 5 (λj=>j<=8) (λj=>8-j) 0 (Wc _) (by rw[M];exact n) ?_;clear n;rintro j O wf;clear wf;refine dcU zfL.eq_1 ?_;by_cases m:j<8
 case neg=>
  obtain rfl:j=8:=by omega
  rw[show kpC (λr=>if r<8 then kpR rs f r else f r)=kpC (kpR rs f)from zsM λr h=>if_pos h];refine Qa ?_;intros;exact q
 have y:j<rs.length:=by omega
 have I:=zgR y;have J:=zgR (rs:=zxI) (k:=j) m;rw[zH9 m]at J;have p:(kpC λr=>if r<j then kpR rs f r else f r).getD j .undef=.bool (f j):=by rw[zH7 m,if_neg (Nat.lt_irrefl j)]
 have A:=λb=>zxZ (f:=λr=>if r<j then kpR rs f r else f r) (k:=j) (b:=b) m
 have t:∀b,b=kpR rs f j->kpC (λr=>if r=j then b else if r<j then kpR rs f r else f r)=kpC (λr=>if r<j+1 then kpR rs f r else f r):=λb L=>zsM λr _=>by
  by_cases x:r=j
  .rw[if_pos x,if_pos (by omega),L,x]
  .rw[if_neg x];by_cases B:r<j
   .rw[if_pos B,if_pos (by omega)]
   .rw[if_neg B,if_neg (by omega)]
 have e:kpR rs f j=(f j&&decide (rs.getD j Xj=zzY j)):=rfl;generalize kpC (λr=>if r<j then kpR rs f r else f r)=C at p A⊢;generalize rs.getD j Xj=a at I e
 cases D:f j with
 |false=>rw[D]at p e;have g:=A false;rw[t false (by rw[e];rfl)]at g;refine Gw8 @dT @uc @ue @uk @Nat.mul_one @zc9 p g ?_;intros;exact⟨j+1,by omega,by omega,(Xa [(0,0,0),(1,1,0),(2,2,0),(3,3,0),(4,4,0)] [] rfl rfl rfl Qx Qx)⟩
 |true=>
  rw[D]at p e;have g:=A (decide (a=zzY j));rw[t _ (by rw[e];simp)]at g
  (repeat first|simp(disch:=try exact dis1) only[evD,Xc,Xd,Xg,dT,Wh,Wl,Ws,Xz,zc9,p,I,J,eqsK,eqTo,cond_true,cond_false,g]|with_reducible first|intro _|refine aJ ?_)
  exact⟨j+1,by omega,by omega,(Xa [(0,0,0),(1,1,0),(2,2,0),(3,3,0),(4,4,0)] [] rfl rfl rfl Qx Qx)⟩
theorem QW{b p:Prop}(a0:b)(h:b->p:=by intro a0;(try simp only[evWB,Nat.reduceBEq,Nat.reduceAdd,Nat.reduceSub,Nat.reduceLeDiff,Nat.reduceLT,implies_true,a0])<;>(repeat' with_reducible apply And.intro)<;>first|(first|exact zf|exact zh (ze _)|exact vw_R|exact zh za6;done)|exact fin6):p:=h a0
theorem sv_l4(F:Int)(bl)(S)(ord)(i:Nat)(l)(at')(c:Int)(es)(U:TabS l at' es)(e)(T:∀s∈e,OkS s)(W:e.length<=1000000)(f0)(rs0)(B:CanR rs0){Q}(p:∀f m,CanR m->e.foldl (svS l at') (rs0,f0)=(m,f)->Q .normal ([(1,.mp 0 0),(2,encP 2 [.int .u32 F,encL 2 Xb bl]),(5,.ptr 1 0 0 0 0),(6,.ptr 2 0 0 0 0),(8,encL 24 encR S),(32,zi ord),(33,.int .i64 ord.length),(34,.int .i64 i),(11,.ptr 3 0 0 0 0),(47,encL 8 Xe e),(48,.int .i64 e.length),(49,.int .i64 e.length)]++[(50,.bool false)]) [(0,.row 3 (tabM c es) 0),(1,.row 24 [encR zxI] 0),(2,.row 8 [kpC f] 0),(3,.row 24 [encR m] 0)] 4){K}{H}{O:Nat}(o:Ent 1 K H O [(1,.mp 0 0),(2,encP 2 [.int .u32 F,encL 2 Xb bl]),(5,.ptr 1 0 0 0 0),(6,.ptr 2 0 0 0 0),(8,encL 24 encR S),(32,zi ord),(33,.int .i64 ord.length),(34,.int .i64 i),(11,.ptr 3 0 0 0 0),(47,encL 8 Xe e),(48,.int .i64 e.length),(49,.int .i64 (0:Nat))] [(0,.row 3 (tabM c es) 0),(1,.row 24 [encR zxI] 0),(2,.row 8 [kpC f0] 0),(3,.row 24 [encR rs0] 0)] 4) :
  zoT Z9 1 zfM (zdH 4 Q) K H O:=by
 have V:=hBig;generalize M:e.foldl (svS l at') (rs0,f0)=R at p;refine zd (λt:Nat×(List Kw×(Nat->Bool))=>([(1,.mp 0 0),(2,encP 2 [.int .u32 F,encL 2 Xb bl]),(5,.ptr 1 0 0 0 0),(6,.ptr 2 0 0 0 0),(8,encL 24 encR S),(32,zi ord),(33,.int .i64 ord.length),(34,.int .i64 i),(11,.ptr 3 0 0 0 0),(47,encL 8 Xe e),(48,.int .i64 e.length),(49,.int .i64 t.1)],[(0,.row 3 (tabM c es) 0),(1,.row 24 [encR zxI] 0),(2,.row 8 [kpC t.2.2] 0),(3,.row 24 [encR t.2.1] 0)])) 4 (λt=>t.1<=e.length/\CanR t.2.1/\(e.drop t.1).foldl (svS l at') t.2=R) (λt=>e.length-t.1) (0,(rs0,f0)) ⟨Wc _,B,M⟩ o ?_;clear o M B;rintro⟨k,⟨m,f⟩⟩ ⟨P,v,b⟩ wf;simp only at P v b;clear wf;refine dcU zfM.eq_1 ?_;by_cases j:k<e.length
 case neg=>
  obtain rfl:k=e.length:=by omega
  rw[WC (Wz _),Xo]at b;have N:=p f m v b.symm;simp only[Wd,We]at N;refine Qa ?_;intros;exact N
 rw[WD j,Xn]at b;have J:(e.map Xe).getD k []=e[k].cells:=zj (f:=Xe) (d:=[]) j;have A:=T _ (Wf j);have g:=zy8 (l:=l) (at':=at') v e[k];have n:=zm8 e[k] m v l at' A c es U;unfold svS at b;simp only at b;generalize e[k]=s at J A g n b;generalize thr1 l at' m s=u at b g n;have x:(encR m).length=24:=by rw[zao,v.1]
 have y:(encR u).length=24:=by rw[zao,g.1]
 have h:[s.cells.getD 0 .undef,s.cells.getD 1 .undef,s.cells.getD 2 .undef,s.cells.getD 3 .undef,s.cells.getD 4 .undef,s.cells.getD 5 .undef,s.cells.getD 6 .undef,s.cells.getD 7 .undef]=s.cells:=Xt _;have q:s.cells.length=8:=rfl;have I:s.cells.getD 0 .undef=.int .i64 s.op:=rfl;have w:∀l:List AV,(Xh l).cells=l:=λ_=>rfl
 have D:∀l:List AV,(Xh l).solid=true:=λ_=>rfl
 have C:∀ρ:Nat->Nat,Xk ρ (.agg (encR u))=.agg (encR u):=λρ=>by simp only[Xk];congr 1;exact znD (ze u)
 refine Gw11 @dT J @ub @zu h q I w D x y ?_;intros;by_cases L:s.op=9
 .rw[if_pos L]at b;refine Gw1 @dT ?_;intros;refine sv_l1 F bl S ord i c es e k s f m v.1 ?_ (Xa [(0,0,0),(1,1,0),(2,2,0),(3,3,0),(4,4,0)] [] rfl rfl rfl Qx Qx);refine Gw0 ?_;intros;refine dcU zfK.eq_1 ?_;refine Gw7 @zu h q w D x y ?_;intros;refine zH [(0,0,0)] 1 _ n rfl rfl (QW @ua) (QW @ua) ?_;rintro _ _ _ ⟨rfl,rfl,rfl⟩;refine Gw7 @zmN C w D x y @zu ?_;intros;unfold zfO;refine Gw0 ?_;intros;exact⟨(k+1,(u,kpR m f)),⟨j,g,b⟩,by simp only;omega,(Xa [(0,0,0),(1,1,0),(2,2,0),(3,3,0)] [] rfl rfl rfl Qx Qx)⟩
 .rw[if_neg L]at b;refine Qa ?_;intros;refine dcU zfK.eq_1 ?_;refine Gw7 @zu h q w D x y ?_;intros;refine zH [(0,0,0)] 1 _ n rfl rfl (QW @ua) (QW @ua) ?_;rintro _ _ _ ⟨rfl,rfl,rfl⟩;refine Gw7 @zmN C w D x y @zu ?_;intros;unfold zfO;refine Gw0 ?_;intros;exact⟨(k+1,(u,f)),⟨j,g,b⟩,by simp only;omega,(Xa [(0,0,0),(1,1,0),(2,2,0),(3,3,0)] [] rfl rfl rfl Qx Qx)⟩
def svO(f:Nat->Bool)(j:Nat):List Int:=((Wy j).filter f).map λ(v:Nat)=>(v:Int)
theorem zvj{f}{j}:svO f (j+1)=if f j then svO f j++[(j:Int)]else svO f j:=by
 unfold svO;rw[Xv,WQ,Wt];by_cases h:f j=true
 .rw[if_pos h];simp[h]
 .rw[if_neg h];simp[h]
theorem zo3{f}{j}:(svO f j).length<=j:=by unfold svO;rw[Wn];exact WJ (WR _ _) (by simp)
theorem zJD{g}{l}{at'}{b}(d:b<g.blocks.length)(c:zf7 g.blocks[b].stmts=true){f}{r}:(g.blocks[b].stmts.foldl (svS l at') ((zkE g l at').getD b z8,f)).2 r=(f r&&zsC g l at' r b):=by
 rw[zK5 c];unfold zsC retB;rw[zg8 d]
 cases g.blocks[b].stmts.getLast? with
 |none=>simp
 |some s=>
  simp only;by_cases h:s.op=9
  .rw[if_pos h];simp only[kpR,h,decide_true,Wm,ne_eq,decide_not,Bool.not_not]
  .rw[if_neg h];simp[h]
theorem QX{p:Prop}(h:p:=by(try simp only[evWB,Nat.reduceBEq,Nat.reduceAdd,Nat.reduceSub,Nat.reduceLeDiff,Nat.reduceLT,implies_true])<;>(repeat' with_reducible apply And.intro)<;>first|(first|exact zf|exact zZ rfl;done)|exact fin6):p:=h
theorem QY{p:Prop}(h:p:=by(try simp only[evWB,Nat.reduceBEq,Nat.reduceAdd,Nat.reduceSub,Nat.reduceLeDiff,Nat.reduceLT,implies_true])<;>(repeat' with_reducible apply And.intro)<;>first|(exact zf;done)|exact fin6):p:=h
theorem QZ{c d p:Prop}(a0:c)(b:d)(h:c->d->p:=by intro a0 b;(try simp only[evWB,Nat.reduceBEq,Nat.reduceAdd,Nat.reduceSub,Nat.reduceLeDiff,Nat.reduceLT,implies_true,a0,b])<;>(repeat' with_reducible apply And.intro)<;>first|(first|exact zf|exact zZ rfl;done)|exact fin6):p:=h a0 b
theorem zti(g)(Y:fewC g)(hg:OkG g)(hs:∀b∈g.blocks,∀s∈b.stmts,OkS s)(hen:∀b∈g.blocks,zf7 b.stmts=true)(l)(at')(c)(u)(ht:TabS l at' u):
  zad Z9 ziF [.agg g.cells,.mp 0 0] [(0,.row 3 (tabM c u) 0)] 1
  (λv H U=>v=za (savG g l at')/\H=[(0,.row 3 (tabM c u) 0)]/\U=1):=by
 refine zab (fn_x ztj rfl ?_);refine dcU zmt.eq_1 ?_;have hB:=hBig;have hz:[Xf .i64 0,.int .i64 0,.int .u32 0,.int .i64 0,.int .i64 0,.int .u32 0,.int .i64 0,.int .i64 0,.int .u32 0,.int .i64 0,.int .i64 0,.int .u32 0,.int .i64 0,.int .i64 0,.int .u32 0,.int .i64 0,.int .i64 0,.int .u32 0,.int .i64 0,.int .i64 0,.int .u32 0,.int .i64 0,.int .i64 0,.int .u32 0]=encR z8:=rfl;have hz8:[AV.bool false,.bool false,.bool false,.bool false,.bool false,.bool false,.bool false,.bool false]=kpC λ_=>false:=rfl
 have ez:(encR z8).length=24:=rfl;have K:(encR ownR).length=24:=rfl;have W:∀f,(kpC f).length=8:=λf=>zLI
 have c0:∀l:List AV,(Xh l).cells=l:=λ_=>rfl
 have s0:∀l:List AV,(Xh l).solid=true:=λ_=>rfl
 have C:=zuI g Y hg hs l at' c u ht;have o:=zgt g Y;have m:=zpD g;have hole:=zqb g;have N:=Y.blocks;have q:=zxU g hg l at';have A:=λb (e:b<g.blocks.length)=>hs _ (Wf e)
 have y:=λb (e:b<g.blocks.length)=>Y.stmts _ (Wf e)
 have w:=λb (e:b<g.blocks.length) f r=>zJD (l:=l) (at':=at') e (hen _ (Wf e)) (f:=f) (r:=r)
 have hsv:savG g l at'=svO (λr=>(ordG g).all (zsC g l at' r)) 8:=rfl;rw[hsv];generalize zsC g l at'=h at w⊢;generalize zkE g l at'=S at C q w;generalize ordG g=d at o m hole⊢;obtain⟨Z,t⟩:=g;simp only[G.cells]at C o m hole N q A y w⊢;refine Qi ?_;intros;refine zc (zb zmn rfl) ?_;refine Gw9 @ub @zu hz hz8 ez W c0 s0 K ?_;intros;refine zd (λj:Nat=>([(1,.mp 0 0),(2,encP 2 [.int .u32 Z,encL 2 Xb t]),(5,.ptr 1 0 0 0 0),(6,.ptr 2 0 0 0 0),(20,.int .i64 j)],[(0,.row 3 (tabM c u) 0),(1,.row 24 [encR ownR] 0),(2,.row 8 [kpC λr=>decide (r<j)] 0)])) 3 (λj=>j<=8) (λj=>8-j) 0 (Wc _) (by rw[show kpC (λr=>decide (r<0))=kpC λ_=>false from rfl];exact(Xa [(0,0,0),(1,2,0),(2,3,0)] [] rfl rfl rfl Qx Qx)) ?_;rintro j hj wf;clear wf;refine dcU zi2.eq_1 ?_;by_cases I:j<8
 case pos=>
  have sp:=zxZ (f:=λr=>decide (r<j)) (k:=j) (b:=true) I
  rw[show kpC (λr=>if r=j then true else decide (r<j))=kpC (λr=>decide (r<j+1))from zsM λr _=>by
   by_cases h1:r=j
   .rw[if_pos h1,decide_eq_true (by omega)]
   .rw[if_neg h1];exact decide_eq_decide.2 (by omega)]at sp
  refine Gw7 @dT @uc @ue @uk @Nat.mul_one @zc9 sp ?_;intros;exact⟨j+1,by omega,by omega,(Xa [(0,0,0),(1,1,0),(2,2,0)] [] rfl rfl rfl Qx Qx)⟩
 obtain rfl:j=8:=by omega
 rw[show kpC (λr=>decide (r<8))=kpC (λr=>((d.take 0).all (h r)))from rfl];have hw:splice (encR ownR) 23 [.int .u32 4]=encR zxI:=rfl;refine Qa ?_;intros;refine dcU zim.eq_1 ?_
 (repeat first|simp(disch:=try exact dis1) only[evD,Xc,Xd,Xg,Wl,zc9,show Wv 7=7 from rfl,Nat.reduceMul,hw,K,fldP,zu]|with_reducible first|intro _|refine aJ ?_)
 refine zH [(0,0,0)] 1 _ C rfl rfl (QW @ua) (QW @ua) ?_;rintro _ _ _ ⟨rfl,rfl,rfl⟩;have hrS:∀ρ:Nat->Nat,Xk ρ (encL 24 encR S)=encL 24 encR S:=λρ=>zsh rfl
 refine Gw4 @zmN hrS @zu @ub ?_;intros;refine zc (zb o rfl) ?_;refine Gw1 @uf ?_;intros;refine zd (λi:Nat=>([(1,.mp 0 0),(2,encP 2 [.int .u32 Z,encL 2 Xb t]),(5,.ptr 1 0 0 0 0),(6,.ptr 2 0 0 0 0),(8,encL 24 encR S),(32,zi d),(33,.int .i64 d.length),(34,.int .i64 i)],[(0,.row 3 (tabM c u) 0),(1,.row 24 [encR zxI] 0),(2,.row 8 [kpC λr=>(d.take i).all (h r)] 0)])) 3 (λi=>i<=d.length) (λi=>d.length-i) 0 (Wc _) (by rw[show kpC (λr=>(d.take 0).all (h r))=kpC (λr=>[].all (h r))from rfl];exact(Xa [(0,0,0),(1,1,0),(2,2,0)] [] rfl rfl rfl Qx Qx)) ?_;rintro i hi wf;clear wf;refine dcU zjp.eq_1 ?_;by_cases D:i<d.length
 case pos=>
  have gi:(d.map λ(n:Nat)=>[Xf .i64 (n:Int)]).getD i []=[.int .i64 (d[i]:Int)]:=zj (f:=λ(n:Nat)=>[Xf .i64 (n:Int)]) D;have T:∀r,(d.take (i+1)).all (h r)=((d.take i).all (h r)&&h r d[i]):=λr=>by rw[WO D,List.all_append];simp
  have e:=m _ (Wf D);generalize d[i]=b at gi e T;have P:(t.map Xb).getD b []=Xb t[b]:=zj e;have hob:b<S.length:=by rw[q.1];exact e
  have hSl:S.length=t.length:=q.1;have L:=getR hob;have B:=zlh q b;have R:=A b e;have hln:=y b e;have p:=w b e;generalize S.getD b z8=ob at L B p;have M:t[b].cells.getD 1 .undef=encL 8 Xe t[b].stmts:=by cases t[b];rfl
  generalize t[b]=bb at P R hln p M;have J:(encR ob).length=24:=by rw[zao,B.1]
  have g24:=get24 J
  (repeat first|simp(disch:=try exact dis1) only[evD,Xc,Xd,Xg,dT,zi,za,fldP,zu,gi,P,M,L,g24,hz,ez,c0,s0,J,Wh,Wl,Wn]|with_reducible first|intro _|refine aJ ?_)
  refine sv_l4 Z t S d i l at' c u ht bb.stmts R (by omega) (λr=>(d.take i).all (h r)) ob B (λf rs hcr hfo=>?_) (Xa [(0,0,0),(1,1,0),(2,2,0),(3,3,0)] [] rfl rfl rfl Qx Qx);simp only[Wd,We];refine Gw0 ?_;intros;refine dcU ziO.eq_1 ?_;refine Gw0 ?_;intros;have hfr:kpC f=kpC λr=>(d.take (i+1)).all (h r):=zsM λr _=>by have h3:=p (λr=>(d.take i).all (h r)) r;rw[hfo]at h3;exact h3.trans (T r).symm
  rw[hfr];exact⟨i+1,by omega,by omega,(Xa [(0,0,0),(1,1,0),(2,2,0)] [] rfl rfl rfl Qx Qx)⟩
 case neg=>
  obtain rfl:i=d.length:=by omega
  rw[Wu];generalize (λr=>d.all (h r))=F;refine Qa ?_;intros;refine dcU ziZ.eq_1 ?_;refine Gw2 @zu W ?_;intros;refine zd (λs:Nat×Nat=>([(15,.own 1 0 s.2 0 (svO F s.1).length),(80,.agg (kpC F)),(81,.int .i64 s.1)],[(0,.row 3 (tabM c u) 0),(1,.row 1 ((svO F s.1).map λn=>[.int .i64 n]) s.2)])) 2 (λs=>s.1<=8) (λs=>8-s.1) (0,0) (Wc _) (by rw[show svO F (0,0).1=[]from rfl];exact(Xa [(0,0,0),(1,3,0)] [] rfl rfl rfl QX QX)) ?_;rintro⟨j,γ⟩ hj wf;simp only at hj;clear wf;refine dcU zje.eq_1 ?_;by_cases I:j<8
  case neg=>
   obtain rfl:j=8:=by omega
   have Q:=zo3 (f:=F) (j:=8);generalize svO F 8=O at Q⊢;refine Qa ?_;intros;refine dcU zjm.eq_1 ?_;refine Gw0 ?_;intros;refine zH [(0,1,0)] 1 _ (zcW γ O (by omega)) rfl rfl QY QY ?_;rintro _ _ _ ⟨rfl,rfl,rfl⟩
   (repeat first|simp(disch:=try exact dis1) only[evD,Xc,Xd,Xg,zwq,Xk,show Tab.to [(0,1,0)] 2 0=1 from rfl,zmj]|with_reducible intro _|((with_reducible apply Wa);omega))
   exact⟨za O,[(0,.row 3 (tabM c u) 0)],1,(Xa [(0,0,0)] [1] rfl rfl rfl QY QY),rfl,rfl,rfl⟩
  have x:=zvj (f:=F) (j:=j);have Q:=zo3 (f:=F) (j:=j);have gk:=zH7 (f:=F) I;have V:∀(H:AH)(U:Nat),xopR (.aidx 8 1 false) [.agg (kpC F),.int .i64 (j:Int)] H U=⟨0<=(j:Int)/\(j:Int)<(8:Nat)/\8*1<=(kpC F).length,True,.bool (F j),H,U⟩:=λH U=>by simp only[xopR,zvy,cond_false,Wh,Xz,gk];rfl
  cases X:F j with
  |true=>rw[X,if_pos rfl]at x;rw[X]at V;refine Gw3 @dT V W ?_;intros;exact⟨(j+1,γ+1),by omega,by simp only;omega,by rw[x,WA,WB,Wt];exact(Xa [(0,0,0),(1,1,0)] [] rfl rfl rfl (QZ @m9C @m9N) (QZ @m9C @m9N))⟩
  |false=>rw[X,if_neg (by decide)]at x;rw[X]at V;refine Gw3 @dT V W ?_;intros;exact⟨(j+1,γ),by omega,by simp only;omega,by rw[x];exact(Xa [(0,0,0),(1,1,0)] [] rfl rfl rfl QX QX)⟩
theorem Qaa{d e g j p:Prop}(a0:d)(b:e)(c:g)(a3:j)(h:d->e->g->j->p:=by intro a0 b c a3;(try simp only[evWB,Nat.reduceBEq,Nat.reduceAdd,Nat.reduceSub,Nat.reduceLeDiff,Nat.reduceLT,implies_true,a0,b,c,a3])<;>(repeat' with_reducible apply And.intro)<;>first|(first|exact zf|exact zl|exact zV|exact RowV.of_flat zaH|exact RowV.of_flat zaD|exact RowV.of_flat zeo;done)|exact fin6):p:=h a0 b c a3
theorem Qab{d e g j k p:Prop}(a0:d)(b:e)(c:g)(a3:j)(a4:k)(h:d->e->g->j->k->p:=by intro a0 b c a3 a4;(try simp only[evWB,Nat.reduceBEq,Nat.reduceAdd,Nat.reduceSub,Nat.reduceLeDiff,Nat.reduceLT,implies_true,a0,b,c,a3,a4])<;>(repeat' with_reducible apply And.intro)<;>first|(first|exact zf|exact zl|exact zV|exact RowV.of_flat zaH|exact RowV.of_flat zaD|exact RowV.of_flat zeo;done)|exact fin6):p:=h a0 b c a3 a4
theorem rs_l0(x:Int)(y:List Bl)(I:List Int)(g:List Nat)(i:Nat)(c:Int)(B:List TE)(p:List St)(k:Nat)(s:St)(b:List Int)(a:MS)(M:b.length<=9223372036854775807){Q}(o:Q .normal ([(1,.mp 0 0),(2,za I),(3,encP 2 [.int .u32 x,encL 2 Xb y]),(7,.mp 1 0),(18,zi g),(19,.int .i64 g.length),(20,.int .i64 i),(29,encL 8 Xe p),(30,.int .i64 p.length),(31,.int .i64 k),(11,.ptr 2 0 0 0 0),(36,za b),(37,.int .i64 b.length),(38,.int .i64 b.length)]++[(39,.bool false)]) [(0,.row 3 (tabM c B) 0),(1,.row 3 (setN (addL a b)) 0),(2,.row 8 [s.cells] 0)] 3){K}{H}{J:Nat}(m:Ent 1 K H J [(1,.mp 0 0),(2,za I),(3,encP 2 [.int .u32 x,encL 2 Xb y]),(7,.mp 1 0),(18,zi g),(19,.int .i64 g.length),(20,.int .i64 i),(29,encL 8 Xe p),(30,.int .i64 p.length),(31,.int .i64 k),(11,.ptr 2 0 0 0 0),(36,za b),(37,.int .i64 b.length),(38,.int .i64 (0:Nat))] [(0,.row 3 (tabM c B) 0),(1,.row 3 (setN a) 0),(2,.row 8 [s.cells] 0)] 3) :
  zoT Z9 1 zeC (zdH 4 Q) K H J:=by
 have N:=hBig;refine zd (λj:Nat=>([(1,.mp 0 0),(2,za I),(3,encP 2 [.int .u32 x,encL 2 Xb y]),(7,.mp 1 0),(18,zi g),(19,.int .i64 g.length),(20,.int .i64 i),(29,encL 8 Xe p),(30,.int .i64 p.length),(31,.int .i64 k),(11,.ptr 2 0 0 0 0),(36,za b),(37,.int .i64 b.length),(38,.int .i64 j)],[(0,.row 3 (tabM c B) 0),(1,.row 3 (setN (addL a (b.take j))) 0),(2,.row 8 [s.cells] 0)])) 3 (λj=>j<=b.length) (λj=>b.length-j) 0 (Wc _) (by rw[WM,show addL a []=a from rfl];exact m) ?_;clear m;rintro j O wf;clear wf;refine dcU zeC.eq_1 ?_;by_cases h:j<b.length
 .have u:(b.map λn=>[Xf .i64 n]).getD j []=[.int .i64 b[j]]:=zj (f:=λn=>[Xf .i64 n]) h;have e:=zjZ (s:=a) h;generalize addL a (b.take j)=d at e⊢;obtain⟨t,v⟩:=d;by_cases w:b[j]∈v.map (·.1)
  .obtain⟨q,L,F,C⟩:=zmQ w;have A:add1 (t,v) b[j]=(t,v):=if_pos w;rw[A]at e;have D:=zJl L F;refine Gw7 @dT u @ua @ug @evSN C D ?_;intros;exact⟨j+1,h,by omega,(Xa [(0,0,0),(1,1,0),(2,2,0)] [] rfl rfl rfl (Qaa @ug @ua @uf e) (Qaa @ug @ua @uf e))⟩
  .have C:=zkp w;have A:add1 (t,v) b[j]=(t+1,v++[(b[j],t)]):=if_neg w;rw[A]at e;refine Gw6 @dT u @ua @ug @evSN C ?_;intros;exact⟨j+1,h,by omega,(Xa [(0,0,0),(1,1,0),(2,2,0)] [] rfl rfl rfl (Qab @ug @ua @uf e @zzN) (Qab @ug @ua @uf e @zzN))⟩
 .obtain rfl:j=b.length:=by omega
  simp only[Wd,We]at o;rw[Wu];refine Qa ?_;intros;exact o
theorem rs_l1(x:Int)(y:List Bl)(I:List Int)(g:List Nat)(i:Nat)(c:Int)(B:List TE)(p:List St)(k:Nat)(s:St)(b:List Int)(a:MS)(M:b.length<=9223372036854775807){Q}(o:Q .normal ([(1,.mp 0 0),(2,za I),(3,encP 2 [.int .u32 x,encL 2 Xb y]),(7,.mp 1 0),(18,zi g),(19,.int .i64 g.length),(20,.int .i64 i),(29,encL 8 Xe p),(30,.int .i64 p.length),(31,.int .i64 k),(11,.ptr 2 0 0 0 0),(52,za b),(53,.int .i64 b.length),(54,.int .i64 b.length)]++[(55,.bool false)]) [(0,.row 3 (tabM c B) 0),(1,.row 3 (setN (addL a b)) 0),(2,.row 8 [s.cells] 0)] 3){K}{H}{J:Nat}(m:Ent 1 K H J [(1,.mp 0 0),(2,za I),(3,encP 2 [.int .u32 x,encL 2 Xb y]),(7,.mp 1 0),(18,zi g),(19,.int .i64 g.length),(20,.int .i64 i),(29,encL 8 Xe p),(30,.int .i64 p.length),(31,.int .i64 k),(11,.ptr 2 0 0 0 0),(52,za b),(53,.int .i64 b.length),(54,.int .i64 (0:Nat))] [(0,.row 3 (tabM c B) 0),(1,.row 3 (setN a) 0),(2,.row 8 [s.cells] 0)] 3) :
  zoT Z9 1 zeE (zdH 6 Q) K H J:=by
 have N:=hBig;refine zd (λj:Nat=>([(1,.mp 0 0),(2,za I),(3,encP 2 [.int .u32 x,encL 2 Xb y]),(7,.mp 1 0),(18,zi g),(19,.int .i64 g.length),(20,.int .i64 i),(29,encL 8 Xe p),(30,.int .i64 p.length),(31,.int .i64 k),(11,.ptr 2 0 0 0 0),(52,za b),(53,.int .i64 b.length),(54,.int .i64 j)],[(0,.row 3 (tabM c B) 0),(1,.row 3 (setN (addL a (b.take j))) 0),(2,.row 8 [s.cells] 0)])) 3 (λj=>j<=b.length) (λj=>b.length-j) 0 (Wc _) (by rw[WM,show addL a []=a from rfl];exact m) ?_;clear m;rintro j O wf;clear wf;refine dcU zeE.eq_1 ?_;by_cases h:j<b.length
 .have u:(b.map λn=>[Xf .i64 n]).getD j []=[.int .i64 b[j]]:=zj (f:=λn=>[Xf .i64 n]) h;have e:=zjZ (s:=a) h;generalize addL a (b.take j)=d at e⊢;obtain⟨t,v⟩:=d;by_cases w:b[j]∈v.map (·.1)
  .obtain⟨q,L,F,C⟩:=zmQ w;have A:add1 (t,v) b[j]=(t,v):=if_pos w;rw[A]at e;have D:=zJl L F;refine Gw7 @dT u @ua @ug @evSN C D ?_;intros;exact⟨j+1,h,by omega,(Xa [(0,0,0),(1,1,0),(2,2,0)] [] rfl rfl rfl (Qaa @ug @ua @uf e) (Qaa @ug @ua @uf e))⟩
  .have C:=zkp w;have A:add1 (t,v) b[j]=(t+1,v++[(b[j],t)]):=if_neg w;rw[A]at e;refine Gw6 @dT u @ua @ug @evSN C ?_;intros;exact⟨j+1,h,by omega,(Xa [(0,0,0),(1,1,0),(2,2,0)] [] rfl rfl rfl (Qab @ug @ua @uf e @zzN) (Qab @ug @ua @uf e @zzN))⟩
 .obtain rfl:j=b.length:=by omega
  simp only[Wd,We]at o;rw[Wu];refine Qa ?_;intros;exact o
theorem zJL{a}{x y}:addL a (x++y)=addL (addL a x) y:=List.foldl_append ..
def savL(b:Sgn):List Int:=if hasI b.sav 7=true then[7]else[]
def chgL(l:List Sgn)(b:List Int)(s:St):List Int:=znd s++(if s.op=5 then(zaz l b s.tgt).res++savL (zaz l b s.tgt)else[])
theorem zKo{l}{b}{s}{y}:y∈chgL l b s↔chV l b s y=true:=by
 unfold chgL chV znd savL;rw[WE];generalize zaz l b s.tgt=g;by_cases d:s.op=5
 .rw[if_pos d,if_pos d,if_neg (by omega),WE]
  have j:(y∈(if hasI g.sav 7=true then[(7:Int)]else[]))↔(y=7/\y∈g.sav):=by
   by_cases e:(7:Int)∈g.sav
   .rw[if_pos (zjA e),WF];exact⟨λh=>⟨h,by rw[h];exact e⟩,λh=>h.1⟩
   .rw[znl e,if_neg (by decide)];exact⟨λh=>by(cases h),λh=>(e (h.1▸h.2)).elim⟩
  rw[j,Bool.or_eq_true,Wj,decide_eq_true_eq,decide_eq_true_eq,decide_eq_true_eq];simp
 .rw[if_neg d,if_neg d,Wj,decide_eq_true_eq,decide_eq_true_eq];by_cases c:s.op=1\/s.op=3
  .rw[if_pos c];simp only[WF,WW,or_false];exact⟨λh=>⟨c,h.symm⟩,λh=>h.2.symm⟩
  .rw[if_neg c];simp only[WW,or_false,false_iff];exact λh=>c h.1
theorem zGk(s):(znd s).length<=1:=by unfold znd;split<;>simp
theorem Qw{p:Prop}(h:p:=by(try simp only[evWB,Nat.reduceBEq,Nat.reduceAdd,Nat.reduceSub,Nat.reduceLeDiff,Nat.reduceLT,implies_true,za,zi])<;>(repeat' with_reducible apply And.intro)<;>first|(first|exact zf|exact zl|exact zV|exact RowV.of_flat zaH|exact RowV.of_flat zaD|exact RowV.of_flat zeo;done)|exact fin6):p:=h
theorem rs_l5(F:Int)(bl)(sv)(ord)(i:Nat)(l)(p)(c:Int)(es)(ht:TabS l p es)(W:∀a,(zaz l p a).res.length<=9223372036854775807)(g)(a0)(hss:g.length<=9223372036854775807){Q}(V:∀a:MS,(∀y,y∈a.keys↔y∈a0.keys\/∃s∈g,chV l p s y=true)->Q .normal ([(1,.mp 0 0),(2,za sv),(3,encP 2 [.int .u32 F,encL 2 Xb bl]),(7,.mp 1 0),(18,zi ord),(19,.int .i64 ord.length),(20,.int .i64 i),(29,encL 8 Xe g),(30,.int .i64 g.length),(31,.int .i64 g.length)]++[(32,.bool false)]) [(0,.row 3 (tabM c es) 0),(1,.row 3 (setN a) 0)] 2){K}{H}{S:Nat}(M:Ent 1 K H S [(1,.mp 0 0),(2,za sv),(3,encP 2 [.int .u32 F,encL 2 Xb bl]),(7,.mp 1 0),(18,zi ord),(19,.int .i64 ord.length),(20,.int .i64 i),(29,encL 8 Xe g),(30,.int .i64 g.length),(31,.int .i64 (0:Nat))] [(0,.row 3 (tabM c es) 0),(1,.row 3 (setN a0) 0)] 2) :
  zoT Z9 1 zeA (zdH 2 Q) K H S:=by
 have hB:=hBig;refine zd (λt:Nat×MS=>([(1,.mp 0 0),(2,za sv),(3,encP 2 [.int .u32 F,encL 2 Xb bl]),(7,.mp 1 0),(18,zi ord),(19,.int .i64 ord.length),(20,.int .i64 i),(29,encL 8 Xe g),(30,.int .i64 g.length),(31,.int .i64 t.1)],[(0,.row 3 (tabM c es) 0),(1,.row 3 (setN t.2) 0)])) 2 (λt=>t.1<=g.length/\∀y,y∈t.2.keys↔y∈a0.keys\/∃s∈g.take t.1,chV l p s y=true) (λt=>g.length-t.1) (0,a0) ⟨Wc _,λy=>by simp⟩ M ?_;clear M;rintro⟨k,a⟩ ⟨hk,C⟩ wf;simp only at hk C;clear wf;refine dcU zeA.eq_1 ?_;by_cases B:k<g.length
 case neg=>
  obtain rfl:k=g.length:=by omega
  rw[Wu]at C;have R:=V a C;simp only[Wd,We]at R;refine Qa ?_;intros;exact R
 have gk:(g.map Xe).getD k []=g[k].cells:=zj (f:=Xe) (d:=[]) B
 have o:∀b:MS,b=addL a (chgL l p g[k])->∀y,y∈b.keys↔y∈a0.keys\/∃s∈g.take (k+1),chV l p s y=true:=λb hb y=>by
  rw[hb,zlv,C,zKo,WO B];simp only[WE,WF];constructor
  .rintro((h|⟨s,h1,h2⟩)|h)
   .exact .inl h
   .exact .inr ⟨s,.inl h1,h2⟩
   .exact .inr ⟨_,.inr rfl,h⟩
  .rintro(h|⟨s,h1|rfl,h2⟩)
   .exact .inl (.inl h)
   .exact .inl (.inr ⟨s,h1,h2⟩)
   .exact .inr h2
 have L:=zoB g[k];unfold chgL at o;generalize g[k]=s at gk o L;have hdl:=zGk s;have u:=zto ht s.tgt;have X:=W s.tgt;have n:=ztV (a:=s.tgt) (es:=es) (i:=0);generalize zaz l p s.tgt=A at o u X;have N:[s.cells.getD 0 .undef,s.cells.getD 1 .undef,s.cells.getD 2 .undef,s.cells.getD 3 .undef,s.cells.getD 4 .undef,s.cells.getD 5 .undef,s.cells.getD 6 .undef,s.cells.getD 7 .undef]=s.cells:=Xt _;have hc8:s.cells.length=8:=rfl;have hop:s.cells.getD 0 .undef=.int .i64 s.op:=rfl;have x:s.cells.getD 5 .undef=.int .u32 s.tgt:=rfl;refine Gw6 @dT gk @ub @zu N hc8 ?_;intros;refine zc (zb L rfl) ?_;refine Gw1 @ua ?_;intros;refine rs_l0 F bl sv ord i c es g k s (znd s) a (by omega) ?_ (Xa [(0,0,0),(1,1,0),(2,2,0)] [] rfl rfl rfl Qw Qw);simp only[Wd,We];generalize hD:addL a (znd s)=d;refine Gw0 ?_;intros;refine dcU zhQ.eq_1 ?_;refine Gw2 hop x ?_;intros;by_cases h5:s.op=5;case neg=>rw[if_neg h5,List.append_nil]at o;refine Qd ?_;intros;unfold za7;refine Gw0 ?_;intros;exact⟨(k+1,d),⟨B,o d hD.symm⟩,by simp only;omega,(Xa [(0,0,0),(1,1,0)] [] rfl rfl rfl Qw Qw)⟩
 rw[if_pos h5]at o;simp only[zJL,hD]at o;have m:tabM c es=[Xf .i64 c,.undef,.undef]::es.map cT:=rfl;have J:=zaI A.sav 7;have O:=o (addL (addL d A.res) (savL A)) rfl;have Z:savL A=if hasI A.sav 7=true then[7]else[]:=rfl
 generalize w:addL (addL d A.res) (savL A)=e at O
 have v:∀(K:Kn)(H:AH)(S:Nat),Ent 1 K H S [(1,.mp 0 0),(2,za sv),(3,encP 2 [.int .u32 F,encL 2 Xb bl]),(7,.mp 1 0),(18,zi ord),(19,.int .i64 ord.length),(20,.int .i64 i),(29,encL 8 Xe g),(30,.int .i64 g.length),(31,.int .i64 ((k+1:Nat):Int))] [(0,.row 3 (tabM c es) 0),(1,.row 3 (setN e) 0)] 2->∃P:Nat×MS,(P.1<=g.length/\∀y,y∈P.2.keys↔y∈a0.keys\/∃s∈g.take P.1,chV l p s y=true)/\g.length-P.1<g.length-k/\Ent 1 K H S [(1,.mp 0 0),(2,za sv),(3,encP 2 [.int .u32 F,encL 2 Xb bl]),(7,.mp 1 0),(18,zi ord),(19,.int .i64 ord.length),(20,.int .i64 i),(29,encL 8 Xe g),(30,.int .i64 g.length),(31,.int .i64 P.1)] [(0,.row 3 (tabM c es) 0),(1,.row 3 (setN P.2) 0)] 2 :=
  λK H S h=>⟨(k+1,e),⟨B,O⟩,by simp only;omega,h⟩
 clear o O
 cases U:atT es s.tgt with
 |none=>rw[U]at u n;simp only at u n;subst u;refine Gw5 @dT @dF x @uu n ?_;intros;rw[<-m];refine rs_l1 F bl sv ord i c es g k s zaS.res d (Wc _) ?_ (Xa [(0,0,0),(1,1,0),(2,2,0)] [] rfl rfl rfl Qw Qw);simp only[Wd,We];generalize addL d zaS.res=I at w⊢;refine Gw0 ?_;intros;refine dcU zeG.eq_1 ?_;refine Gw3 x @uu n ?_;intros;refine zc (zaM (D:=noR) J (.cons zl (.cons (.int _ _ _) .nil)) (.inl rfl)) ?_;rw[show savL zaS=[]from rfl,show addL I []=I from rfl]at w;subst w;refine Gw1 (show hasI zaS.sav 7=false from rfl) ?_;intros;unfold za7;refine Gw0 ?_;intros;rw[<-m];exact v _ _ _ (Xa [(0,0,0),(1,1,0)] [] rfl rfl rfl Qw Qw)
 |some j=>
  rw[U]at u n;simp only at u n;rw[u]at n;refine Gw7 @dT @dF x @uu n @uw @ua ?_;intros;rw[<-m];refine rs_l1 F bl sv ord i c es g k s A.res d X ?_ (Xa [(0,0,0),(1,1,0),(2,2,0)] [] rfl rfl rfl Qw Qw);simp only[Wd,We];generalize addL d A.res=I at w⊢;refine Gw0 ?_;intros;refine dcU zeG.eq_1 ?_;refine Gw4 x @uu n @uw ?_;intros;refine zc (zb J rfl) ?_
  cases Y:hasI A.sav 7 with
  |false=>rw[Z,Y,if_neg (by decide),show addL I []=I from rfl]at w;subst w;refine Gw0 ?_;intros;unfold za7;refine Gw0 ?_;intros;rw[<-m];exact v _ _ _ (Xa [(0,0,0),(1,1,0)] [] rfl rfl rfl Qw Qw)
  |true=>
   rw[Z,Y,if_pos rfl,show addL I [7]=add1 I 7 from rfl]at w;obtain⟨T,ps⟩:=I;by_cases hm:(7:Int)∈ps.map (·.1)
   .obtain⟨q,hq,hqe,R⟩:=zmQ hm;rw[show add1 (T,ps) 7=(T,ps)from if_pos hm]at w;subst w;have hov:=zJl hq hqe;refine Gw4 @ug @evSN R hov ?_;intros;unfold za7;refine Gw0 ?_;intros;rw[<-m];exact v _ _ _ (Xa [(0,0,0),(1,1,0)] [] rfl rfl rfl Qw Qw)
   .have R:=zkp hm;rw[show add1 (T,ps) 7=(T+1,ps++[(7,T)])from if_neg hm]at w;subst w;refine Gw3 @ug @evSN R ?_;intros;unfold za7;refine Gw0 ?_;intros;rw[<-m];exact v _ _ _ (Xa [(0,0,0),(1,1,0)] [] rfl rfl rfl (Qaa @ug @ua @uf @zzN) (Qaa @ug @ua @uf @zzN))
def rsL(g:G)(l:List Sgn)(b:List Int)(c:List Int):List Int:=((Wy 12).filter λv=>chgP g l b v && !hasI c v).map λ(v:Nat)=>(v:Int)
theorem zLW{g}{l}{at' sv}{a}(h:∀y,y∈a.keys↔∃b∈ordG g,∃s∈(blkG g b).stmts,chV l at' s y=true):srtL a sv=rsL g l at' sv:=by
 unfold srtL rsL;congr 1;refine WV λv _=>?_
 unfold srtP chgP;congr 1;rw[Bool.eq_iff_iff,decide_eq_true_iff,h];simp only[WH]
theorem zrK(g)(K:fewC g)(Z:OkG g)(l)(at')(c)(A)(T:TabS l at' A)(F:∀a,(zaz l at' a).res.length<=9223372036854775807)(sv):
  zad Z9 za4 [.agg g.cells,.mp 0 0,za sv] [(0,.row 3 (tabM c A) 0)] 1
  (λv H U=>v=za (rsL g l at' sv)/\H=[(0,.row 3 (tabM c A) 0)]/\U=1):=by
 refine zab (fn_x zrM rfl ?_);refine dcU zkW.eq_1 ?_;have W:=hBig;have m:=zgt g K;have k:=zpD g;have hole:=zqb g;have C:=K.blocks;have x:=λb (w:b<g.blocks.length)=>K.stmts _ (Wf w)
 have j:=λb (w:b<g.blocks.length)=>zg8 w
 have e:=λ(a:MS) h=>zLW (g:=g) (l:=l) (at':=at') (sv:=sv) (a:=a) h
 generalize rsL g l at' sv=R at e⊢;generalize ordG g=d at m k hole e;generalize blkG g=I at j e;obtain⟨M,u⟩:=g;simp only[G.cells]at m k hole C x j⊢;refine Qi ?_;intros;refine zc (zb m rfl) ?_;refine Gw1 @uf ?_;intros;refine zd (λt:Nat×MS=>([(1,.mp 0 0),(2,za sv),(3,encP 2 [.int .u32 M,encL 2 Xb u]),(7,.mp 1 0),(18,zi d),(19,.int .i64 d.length),(20,.int .i64 t.1)],[(0,.row 3 (tabM c A) 0),(1,.row 3 (setN t.2) 0)])) 2 (λt=>t.1<=d.length/\∀y,y∈t.2.keys↔∃b∈d.take t.1,∃s∈(I b).stmts,chV l at' s y=true) (λt=>d.length-t.1) (0,(0,[])) ⟨Wc _,λy=>by simp[MS.keys]⟩ (Xa [(0,0,0),(1,2,0)] [] rfl rfl rfl Qw Qw) ?_;rintro⟨i,a⟩ ⟨S,p⟩ wf;simp only at S p;clear wf;refine dcU zhI.eq_1 ?_;by_cases o:i<d.length
 case pos=>
  have O:(d.map λ(n:Nat)=>[Xf .i64 (n:Int)]).getD i []=[.int .i64 (d[i]:Int)]:=zj (f:=λ(n:Nat)=>[Xf .i64 (n:Int)]) o
  have q:∀y,(∃b∈d.take (i+1),∃s∈(I b).stmts,chV l at' s y=true)↔(∃b∈d.take i,∃s∈(I b).stmts,chV l at' s y=true)\/∃s∈(I d[i]).stmts,chV l at' s y=true:=λy=>by
   rw[WO o];simp only[WE,WF];constructor
   .rintro⟨b,h|rfl,J⟩
    .exact .inl ⟨b,h,J⟩
    .exact .inr J
   .rintro(⟨b,h,J⟩|h)
    .exact⟨b,.inl h,J⟩
    .exact⟨_,.inr rfl,h⟩
  have w:=k _ (Wf o);generalize d[i]=b at O w q;have D:(u.map Xb).getD b []=Xb u[b]:=zj w;have L:=x b w;rw[j b w]at q;have B:u[b].cells.getD 1 .undef=encL 8 Xe u[b].stmts:=by cases u[b];rfl
  generalize u[b]=N at D L q B;have X:(i:Int)<=8:=by omega
  have Y:(N.stmts.length:Int)<=10:=by omega
  refine Gw11 @dT @uf @ua @ub @zu O D B @uc @ue @m9M ?_;intros;refine rs_l5 M u sv d i l at' c A T F N.stmts a (by omega) (λP V=>?_) (Xa [(0,0,0),(1,1,0)] [] rfl rfl rfl Qw Qw);simp only[Wd,We];refine Gw0 ?_;intros;refine dcU zhN.eq_1 ?_;refine Gw0 ?_;intros;exact⟨(i+1,P),⟨o,λy=>by rw[V,p];exact(q y).symm⟩,by simp only;omega,(Xa [(0,0,0),(1,1,0)] [] rfl rfl rfl Qw Qw)⟩
 case neg=>
  obtain rfl:i=d.length:=by omega
  rw[Wu]at p;have Q:=e a p;refine Qa ?_;intros;refine dcU zhS.eq_1 ?_;refine Gw0 ?_;intros;refine zH [(0,1,0)] 1 _ (zj6 a sv) rfl rfl (Gin6_1 @ua) (Gin6_1 @ua) ?_;rintro _ _ _ ⟨rfl,rfl,rfl⟩;rw[Q];refine Gw3 @renM @renE @zkb.eq_1 ?_;intros;exact⟨za R,[(0,.row 3 (tabM c A) 0)],1,(Xa [(0,0,0)] [] rfl rfl rfl Qw Qw),rfl,rfl,rfl⟩
theorem Qac{d e g p:Prop}(a0:d)(b:e)(c:g)(h:d->e->g->p:=by intro a0 b c;(try simp only[evWB,Nat.reduceBEq,Nat.reduceAdd,Nat.reduceSub,Nat.reduceLeDiff,Nat.reduceLT,implies_true,a0,b,c])<;>(repeat' with_reducible apply And.intro)<;>first|(first|exact zl;done)|exact fin8):p:=h a0 b c
theorem zrS(n b)(p:b<n)(S)(sk):zad Z9 zai [.mp 0 (b+1),za sk] [(0,famS n S)] 1
  (λv H w=>v=za (srtL (S b) sk)/\H=[(0,famS n S)]/\w=1):=by
 refine zab (fn_x zhb rfl ?_);refine dcU zeJ.eq_1 ?_;have y:=hBig;have e:=λx=>zaI sk x
 refine Gw0 ?_;intros;refine zd (λs:Nat×Nat=>([(0,.mp 0 (b+1)),(1,za sk),(5,.own 1 0 s.2 0 (outN (S b) sk s.1).length),(7,.int .i64 s.1)],[(0,famS n S),(1,.row 1 ((outN (S b) sk s.1).map λn=>[.int .i64 n]) s.2)])) 2 (λs=>s.1<=12) (λs=>12-s.1) (0,0) (Wc _) (by rw[show outN (S b) sk (0,0).1=[]from rfl];exact(Xa [(0,0,0),(1,2,0)] [] rfl rfl rfl (Qac @ui @zk @ua) (Qac @ui @zk @ua))) ?_;rintro⟨j,γ⟩ hj wf;simp only at hj;clear wf;refine dcU zdp.eq_1 ?_;by_cases q:j<12
 case neg=>
  obtain rfl:j=12:=by omega
  have g:=zqi (a:=S b) (sk:=sk) (j:=12);refine Qa ?_;intros;refine dcU zdr.eq_1 ?_;generalize t:outN (S b) sk 12=O at g⊢;refine Gw0 ?_;intros;refine zH [(0,1,0)] 1 _ (zcW γ O (by omega)) rfl rfl fin8 fin8 ?_;rintro _ _ _ ⟨rfl,rfl,rfl⟩
  (repeat first|simp(disch:=try exact dis1) only[evD,Xc,Xd,Xg,zwq,Xk,show Tab.to [(0,1,0)] 2 0=1 from rfl,zeZ]|with_reducible intro _|((with_reducible apply Wa);omega))
  exact⟨za (srtL (S b) sk),[(0,famS n S)],1,by rw[show srtL (S b) sk=O from t];exact(Xa [(0,0,0)] [1] rfl rfl rfl (Qac @ui @zk @ua) (Qac @ui @zk @ua)),rfl,rfl,rfl⟩
 have c:=zwT (a:=S b) (sk:=sk) (j:=j);have g:=zqi (a:=S b) (sk:=sk) (j:=j);have d:=e j;by_cases o:(j:Int)∈(S b).2.map (·.1)
 .obtain⟨i,A,u,m⟩:=zhy o
  cases k:hasI sk j with
  |true=>
   rw[if_neg (by unfold srtP;rw[k];simp)]at c;rw[k]at d
   (repeat first|simp(disch:=try exact dis1) only[evD,Xc,Xd,Xg,dT,famS,zrn p,zk,m]|with_reducible first|intro _|refine aJ ?_)
   refine zc (zb d rfl) ?_;refine Gw0 ?_;intros;refine⟨(j+1,γ),by omega,by simp only;omega,by rw[c];exact(Xa [(0,0,0),(1,1,0)] [] rfl rfl rfl (Qac @ui @zk @ua) (Qac @ui @zk @ua))⟩
  |false=>
   rw[if_pos (by unfold srtP;rw[k];simp only[WK,Wg];exact decide_eq_true o)]at c;rw[k]at d
   (repeat first|simp(disch:=try exact dis1) only[evD,Xc,Xd,Xg,dT,famS,zrn p,zk,m]|with_reducible first|intro _|refine aJ ?_)
   refine zc (zb d rfl) ?_;refine Gw0 ?_;intros;refine⟨(j+1,γ+1),by omega,by simp only;omega,by rw[c,WA,WB,Wt];exact(Xa [(0,0,0),(1,1,0)] [] rfl rfl rfl (by((try simp only[evWB,Xc,Xd,Xp,Xg,Xq,implies_true,famS,zk,za,Wx,WI])<;>(repeat' with_reducible apply Wa)<;>first|(first|exact zl;done)|exact fin8)) (by((try simp only[evWB,Xc,Xd,Xp,Xg,Xq,implies_true,famS,zk,za,Wx,WI])<;>(repeat' with_reducible apply Wa)<;>first|(first|exact zl;done)|exact fin8)))⟩
 .have m:=zfy o;rw[if_neg (by unfold srtP MS.keys;simp only[Wj,decide_eq_true_eq];exact λh=>o h.1)]at c
  (repeat first|simp(disch:=try exact dis1) only[evD,Xc,Xd,Xg,dT,famS,zrn p,zk,m]|with_reducible first|intro _|refine aJ ?_)
  refine⟨(j+1,γ),by omega,by simp only;omega,by rw[c];exact(Xa [(0,0,0),(1,1,0)] [] rfl rfl rfl (Qac @ui @zk @ua) (Qac @ui @zk @ua))⟩
end Go.Ab
