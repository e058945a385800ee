/-
  Part 14 of the proof: how the calls of this program run, over values instead of memory, and what each function computes.
-/
import Derived.Test.YtihlaappclhhaaaGreatKm
set_option maxRecDepth 100000
set_option linter.unusedVariables false
set_option linter.unusedSimpArgs false
set_option linter.unnecessarySimpa false
set_option linter.unusedSectionVars false
open Go.Ab.Ent renaming tab->Xa,tabB->Xb,keep->Xc,foldB->XD
open Go.Ab.Sgn renaming cells->Xd
open Go.Ab.Bl renaming cells->Xe
open Go.Ab.AV renaming int->Xf,agg->Xm,bool->Xo,ren->Xp
open Go.Ab.St renaming cells->Xg,eight->XA
open Nat renaming reduceBEq->Xh,reduceAdd->Xi,reduceLeDiff->Xj,beq->Xr,beq_refl->XC
open Classical renaming byContradiction->Xk
open Go.Ab.WpA renaming pure->Xl,seq->Xq,cond->Xs,block->Xz
open List.Nodup renaming length_le_of_subset->Xn
open Go.Ab.RowV renaming of_flat->Xt
open List renaming foldl_append->Xu,all_nil->Xv,all_cons->Xw,any_append->Xx,nodup_nil->Xy,sum_append->XB
open Go.Proofs.Tryz renaming prog->Z9
open List renaming nil_append→Wa,cons_append→Wc,append_nil→Wd,map_cons→We,length_cons→Wf,map_nil→Wg,map_append→Wh,length_append→Wi,length_singleton→Wj,length_nil→Wl,range→Wm,mem_cons→Wn,getD→Wu,getElem_mem→Wx,take_length→Wy,map_map→WA,eq_nil_of_length_eq_zero→WD,length_map→WE,mem_map→WF,length_take→WG,drop_eq_getElem_cons→WH,take_zero→WI,map_congr_left→WK,nodup_cons→WL,mem_filter→WM,mem_append→WN,mem_singleton→WO,mem_range→WP,drop_of_length_le→WQ,getElem_range→WR,filter_cons→WS,take_succ_eq_append_getElem→WU,getElem?_set_ne→WV,getElem_append_left→WW,getElem?_eq_getElem→WX,not_mem_nil→WY,filter_nil→W5,length_filter_le→W6,drop_zero→W7,any_eq_true→W8,getElem?_map→W9,replicate→Wac,getElem?_eq_some_iff→Wad,all_eq_true→Wae,findIdx?_cons→Waf,getD_cons_zero→Wag,getD_cons_succ→Wah,findIdx?_eq_some_iff_getElem→Wai,findIdx?_eq_none_iff→Waj,getElem_set→Wak,mem_of_getElem?→Wam,ext_getElem→Wao,length_range→Wap
open Nat renaming zero_add→Wk,zero_le→Wo,le_trans→Wq,le_refl→Wt,succ_mul→WZ,lt_succ_self→W3,mul_le_mul_right→Wan
open Bool renaming false_and→Wp,not_false→Wr,not_true→Ws,and_false→Wv,and_true→Wz,true_and→WC,and_eq_true→WJ
open Option renaming map_some→Ww,bind_some→W0,map_eq_some_iff→Waa
open And renaming intro→WB
open Int renaming toNat_natCast→Wab
open Option.some renaming injEq→Wal
namespace Go.Ab
open Go.RowKit Go.Proofs
def chV(l:List Sgn)(b:List Int)(s:St)(v:Int):Bool :=
 if s.op=5 then decide (v∈(zaz l b s.tgt).res)||(decide (v=7)&&decide (v∈(zaz l b s.tgt).sav))else decide (s.op=1\/s.op=3)&&decide (s.var=v)
theorem zrb(s)(v)(l)(b)(y:b.length<=1000000)(x:l.length=b.length):
  zq Z9 znA [.agg s.cells,.int .i64 v,encL 3 Xd l,encL 1 cW b] (·=.bool (chV l b s v)):=by
 refine fn_x zxL rfl ?_;refine dcU zqR.eq_1 ?_;have C:=hBig;have g:=zn0 l b s y x;have has:=zq0 s;generalize d:chV l b s v=R;unfold chV at d;obtain⟨op,var,o,next,w,h,e,B⟩:=s;simp only[Xg]at g has d⊢;have u:∀l:List AV,(Xm l).cells=l:=λ_=>rfl
 have A:∀l:List AV,(Xm l).solid=true:=λ_=>rfl
 by_cases q:op=5
 .rw[if_pos q]at d;have p:=Dm.R24_Has_ok (zaz l b h).res v;have m:=Dm.R24_Has_ok (zaz l b h).sav v;generalize zaz l b h=c at g d p m;have n:c.cells.length=3:=rfl;refine Gw3 @dT @ub @ua ?_;intros;refine zc (zb g rfl) ?_;refine Gw6 u A n @uw @ub @zu ?_;intros;refine zc (zb p rfl) ?_;by_cases k:v∈c.res
  .rw[decide_eq_true k,Bool.true_or]at d;subst d;rw[decide_eq_true k];refine Gw1 @zex.eq_1 ?_;intros;exact bzO
  .rw[decide_eq_false k,Bool.false_or]at d;rw[decide_eq_false k];by_cases t:v=7
   .rw[decide_eq_true t,WC]at d;rw[d]at m;refine Gw4 @dT @uw @ub @zu ?_;intros;refine zc (zb m rfl) ?_;refine Gw1 @zex.eq_1 ?_;intros;exact bzO
   .rw[decide_eq_false t,Wp]at d;subst d;refine Gw2 @dF @zex.eq_1 ?_;intros;exact bzO
 .rw[if_neg q]at d;refine Gw3 @dF @ub @ua ?_;intros;refine zc (zb has rfl) ?_;by_cases j:op=1\/op=3
  .rw[decide_eq_true j,WC]at d;rw[decide_eq_true j];refine Gw3 d @ub @zex.eq_1 ?_;intros;exact bzO
  .rw[decide_eq_false j,Wp]at d;subst d;rw[decide_eq_false j];refine Gw2 @ub @zex.eq_1 ?_;intros;exact bzO
def resS(b:List Int)(s:St):Bool := !(decide (s.op=5)&&(idxA b s.tgt).isNone)
def resB(c:List Int)(b:Bl):Bool:=b.stmts.all (resS c)
def resG(g:G)(b:List Int):Bool:=g.blocks.all (resB b)
theorem zpN(g)(at')(L:at'.length<=1000000)(B:g.blocks.length<=1000000)(w:∀b∈g.blocks,b.stmts.length<=1000000):
  zq Z9 zig [.agg g.cells,encL 1 cW at'] (·=.bool (resG g at')):=by
 refine fn_x zwH rfl ?_;refine dcU zpr.eq_1 ?_;have N:=hBig;have C:=λa=>zrX at' a L
 generalize y:resG g at'=R;unfold resG at y;obtain⟨F,q⟩:=g;simp only[G.cells]at y B w⊢;refine Gw1 @ub ?_;intros;refine zd (λb:Nat=>([(1,encL 1 cW at'),(2,encP 2 [.int .u32 F,encL 2 Xe q]),(5,.int .i64 b)],[])) 0 (λb=>b<=q.length/\(q.drop b).all (resB at')=R) (λb=>q.length-b) 0 ⟨Wo _,y⟩ (Xc rfl fin5) ?_;rintro b ⟨O,h⟩ wf;clear wf y;refine dcU zlJ.eq_1 ?_;by_cases m:b<q.length;case neg=>rw[WQ (by omega),Xv]at h;subst h;refine Qj ?_;intros;unfold zlR;refine Gw1 @zkR.eq_1 ?_;intros;exact bzO
 rw[WH m,Xw]at h;have n:(q.map Xe).getD b []=Xe q[b]:=zj m;have v:=w _ (Wx m);generalize q[b]=J at n h v;obtain⟨bad,o⟩:=J;unfold resB at h;simp only[Xe]at n h v;refine Gw2 @dT @ub ?_;intros;refine zd (λk:Nat=>([(1,encL 1 cW at'),(2,encP 2 [.int .u32 F,encL 2 Xe q]),(5,.int .i64 b),(6,.int .i64 k)],[])) 0 (λk=>k<=o.length/\((o.drop k).all (resS at')&&(q.drop (b+1)).all (resB at'))=R) (λk=>o.length-k) 0 ⟨Wo _,h⟩ (Xc rfl fin5) ?_;rintro k ⟨P,c⟩ wf;clear wf h;refine dcU zlx.eq_1 ?_;by_cases u:k<o.length;case neg=>rw[WQ (by omega),Xv,WC]at c;refine Gw4 @dF @ub n @uc ?_;intros;refine dcU zlD.eq_1 ?_;refine Gw0 ?_;intros;exact⟨b+1,⟨m,c⟩,by omega,Xc rfl fin5⟩
 rw[WH u,Xw]at c;have p:=zj (f:=Xg) (d:=[]) u;generalize o[k]=s at p c;unfold resS at c;obtain⟨op,var,D,next,K,x,e,M⟩:=s;simp only[Xg]at p c;have t:=C x;by_cases H:op=5
 .rw[decide_eq_true H,WC]at c
  cases I:idxA at' x with
  |none=>
   rw[I]at t c;simp only[Option.isNone_none,Ws,Wp]at c;subst c;have A:decide ((-1:Int)<0)=true:=by decide
   refine Gw5 @dT @ub n p @uc ?_;intros;refine zc (zb t rfl) ?_
   (repeat first|simp(disch:=try exact dis1) only[evD,Xh,Xi,Xj,idxV,A,zkR]|with_reducible first|intro _|refine aJ ?_)
   exact bzO
  |some j=>
   rw[I]at t c;simp only[Option.isNone_some,Wr,WC]at c;have A:decide (((j:Nat):Int)<0)=false:=by rw[decide_eq_false_iff_not];omega
   refine Gw5 @dT @ub n p @uc ?_;intros;refine zc (zb t rfl) ?_
   (repeat first|simp(disch:=try exact dis1) only[evD,Xh,Xi,Xj,idxV,A]|with_reducible first|intro _|refine aJ ?_)
   exact⟨k+1,⟨u,c⟩,by omega,Xc rfl fin5⟩
 .rw[decide_eq_false H,Wp,Wr,WC]at c;refine Gw6 @dT @dF @ub n p @uc ?_;intros;exact⟨k+1,⟨u,c⟩,by omega,Xc rfl fin5⟩
def errC(g:G)(n:Int)(b:List Int):Int:=if n≠b.length then 2 else if zc1 g≠0 then zc1 g else if resG g b then 0 else 17
theorem zz6(g)(n)(b)(p:b.length<=1000000)(m:manyB g):zq Z9 zrU [.agg g.cells,.int .i64 n,encL 1 cW b] (·=.int .i64 (errC g n b)):=by
 refine fn_x zBb rfl ?_;unfold zuf errC;conv in Z8 _ _=>reduce
 have t:=hBig;have d:=zls g m;have e:=zpN g b p m.blocks m.stmts;generalize zc1 g=c at d⊢;generalize resG g b=r at e⊢;obtain⟨q,s⟩:=g;simp only[G.cells]at d e⊢;by_cases j:n=b.length;case neg=>rw[if_pos j];have k:decide (n≠(b.length:Int))=true:=decide_eq_true j;refine Gw3 k @ub @zit.eq_1 ?_;intros;exact izO
 rw[if_neg (λh=>h j)];have k:decide (n≠(b.length:Int))=false:=decide_eq_false (λh=>h j);refine Gw3 k @ub @zu ?_;intros;refine zc (zb d rfl) ?_;by_cases o:c=0;case neg=>rw[if_pos o];refine Gw2 @dT @zit.eq_1 ?_;intros;exact izO
 rw[if_neg (λh=>h o)];refine Gw3 @dF @ub @zu ?_;intros;refine zc (zb e rfl) ?_
 cases r with
 |true=>refine Gw1 @zit.eq_1 ?_;intros;exact izO
 |false=>refine Gw1 @zit.eq_1 ?_;intros;exact izO
theorem znk(a b:Sgn)(h:a.args.length<=big):zq Z9 zgB [.agg a.cells,.agg b.cells] (·=.bool (decide (a.args=b.args/\a.res=b.res/\a.sav=b.sav))):=by
 refine fn_x zCg rfl ?_;refine dcU zwQ.eq_1 ?_;have g:=hBig;simp only[Xd];have c:=Dm.R24_Lists_ok [a.args,a.res,a.sav] [b.args,b.res,b.sav];have d:∀l:List Int,(za l).solid=true:=λ_=>rfl
 have e:∀l:List Int,(za l).cells=[za l]:=λ_=>rfl
 refine Gw2 @ub @ua ?_;intros;refine zc (zaM (D:=allR) c (.cons (Dm.vw_LL (l:=[a.args,a.res,a.sav]) trivial rfl (by simp[big])) (.cons (Dm.vw_LL (l:=[b.args,b.res,b.sav]) trivial rfl (by simp[big])) .nil)) (.inl rfl)) ?_;refine Gw1 @zw7.eq_1 ?_;intros;refine⟨_,.bool _ _,congrArg Xo (decide_eq_decide.2 ?_)⟩;simp
def zDa(s:Sgn)(v:Nat):Bool:=decide ((v:Int)∈s.res) && !decide ((v:Int)∈s.sav)
def zv6(s:Sgn):List Int:=((Wm 12).filter (zDa s)).map λ(v:Nat)=>(v:Int)
theorem zuH{r}(h:r<12):(Wm 12).drop r=r::(Wm 12).drop (r+1):=by rw[WH (by simpa using h),WR]
theorem zwt(s):zq Z9 zmd [.agg s.cells] (·=za (zv6 s)):=by
 refine fn_x zvn rfl ?_;unfold zoW zv6;conv in Z8 _ _=>reduce
 have q:=hBig;have m:=λv=>Dm.R24_Has_ok s.res v
 have o:=λv=>Dm.R24_Has_ok s.sav v
 generalize k:(Wm 12).filter (zDa s)=R;simp only[Xd];refine Gw2 @ub @ua ?_;intros;refine zd (λt:Nat×List Nat×Nat=>([(1,encP 3 [za s.args,za s.res,za s.sav]),(3,.own 0 0 t.2.2 0 t.2.1.length),(4,.int .i64 t.1)],[(0,.row 1 (t.2.1.map λ(n:Nat)=>[.int .i64 (n:Int)]) t.2.2)])) 1 (λt=>t.1<=12/\t.2.1.length<=t.1/\t.2.1++((Wm 12).drop t.1).filter (zDa s)=R) (λt=>12-t.1) (0,[],0) ⟨Wo _,Wt _,k⟩ (Xa [(0,1,0)] [] rfl Qn Qn) ?_;rintro⟨v,out,γ⟩ ⟨p,j,b⟩ wf;simp only at p j b;clear wf k;refine dcU zlO.eq_1 ?_;by_cases c:v<12
 case neg=>
  rw[WQ (by simp;omega),W5,Wd]at b;subst b;refine Qa ?_;intros;unfold zlt;refine Gw1 @zpA.eq_1 ?_;intros;have em:(out.map λ(n:Nat)=>[Xf .i64 (n:Int)])=(out.map λ(r:Nat)=>(r:Int)).map λn=>[Xf .i64 n]:=by rw[WA];rfl
  rw[em,show out.length=(out.map λ(r:Nat)=>(r:Int)).length by simp];exact⟨_,zaP trivial rfl (by simp;omega),rfl⟩
 rw[zuH c,WS]at b;have d:=m v;have e:=o v;have em:(out.map λ(n:Nat)=>[Xf .i64 (n:Int)])++[[Xf .i64 (v:Int)]]=(out++[v]).map λ(n:Nat)=>[Xf .i64 (n:Int)]:=by simp
 by_cases g:(v:Int)∈s.res;case neg=>rw[decide_eq_false g]at d;rw[if_neg (by unfold zDa;simp[g])]at b;refine Gw2 @dT @ub ?_;intros;refine zc (zb d rfl) ?_;refine Gw0 ?_;intros;exact⟨(v+1,out,γ),⟨c,by simp only;omega,b⟩,by simp only;omega,(Xa [(0,0,0)] [] rfl Qn Qn)⟩
 rw[decide_eq_true g]at d;by_cases h:(v:Int)∈s.sav;case pos=>rw[decide_eq_true h]at e;rw[if_neg (by unfold zDa;simp[h])]at b;refine Gw2 @dT @ub ?_;intros;refine zc (zb d rfl) ?_;refine Gw1 @ub ?_;intros;refine zc (zb e rfl) ?_;refine Gw0 ?_;intros;exact⟨(v+1,out,γ),⟨c,by simp only;omega,b⟩,by simp only;omega,(Xa [(0,0,0)] [] rfl Qn Qn)⟩
 rw[decide_eq_false h]at e;rw[if_pos (by unfold zDa;simp[h,g])]at b;refine Gw2 @dT @ub ?_;intros;refine zc (zb d rfl) ?_;refine Gw1 @ub ?_;intros;refine zc (zb e rfl) ?_;refine Gw0 ?_;intros;refine⟨(v+1,out++[v],γ+1),⟨c,by simp;omega,by simpa using b⟩,by simp only;omega,?_⟩;simp only[Wi,Wj,<-em];exact(Xa [(0,0,0)] [] rfl Qn Qn)
def anyS(l:List Sgn)(b:List Int)(v:Int)(c:List St):Bool:=c.any λs=>chV l b s v
def anyO(e:List Bl)(l:List Sgn)(c:List Int)(v:Int)(d:List Nat):Bool:=d.any λb=>anyS l c v (e.getD b ⟨0,[]⟩).stmts
theorem zuB{Q}(I:Int)(j)(l)(c)(hl:c.length<=1000000)(Z:l.length=c.length)(g)(U:g.length<=1000000)(C:∀b∈g,b<j.length)(R:∀b∈j,b.stmts.length<=1000000)(v:Nat)(F)(u:Nat)(B:wpX Z9 0 zam Q [(1,encL 3 Xd l),(2,encL 1 cW c),(3,encP 2 [.int .u32 I,encL 2 Xe j]),(6,.ptr 0 0 0 0 0),(7,.ptr 1 0 0 0 0),(8,zi g),(9,.int .i64 v),(10,.bool (anyO j l c v g)),(11,.int .i64 g.length),(41,.bool false)] F u){K}{H}{W:Nat}(A:Ent 0 K H W [(1,encL 3 Xd l),(2,encL 1 cW c),(3,encP 2 [.int .u32 I,encL 2 Xe j]),(6,.ptr 0 0 0 0 0),(7,.ptr 1 0 0 0 0),(8,zi g),(9,.int .i64 v),(10,.bool false),(11,.int .i64 0)] F u) :
  zoT Z9 0 zgs (zdH 2 (seqQ Z9 0 zam Q)) K H W:=by
 have hB:=hBig;have O:=λs=>zrb s v l c hl Z
 refine zd (λi:Nat=>([(1,encL 3 Xd l),(2,encL 1 cW c),(3,encP 2 [.int .u32 I,encL 2 Xe j]),(6,.ptr 0 0 0 0 0),(7,.ptr 1 0 0 0 0),(8,zi g),(9,.int .i64 v),(10,.bool (anyO j l c v (g.take i))),(11,.int .i64 i)],F)) u (λi=>i<=g.length) (λi=>g.length-i) 0 (Wo _) A ?_;intro i hi wf;clear wf;refine dcU zgs.eq_1 ?_;by_cases p:i<g.length
 case neg=>
  obtain rfl:i=g.length:=by omega
  rw[Wy];refine Gw2 @dF @uf ?_;intros;exact B
 have T:(g.map λ(n:Nat)=>[Xf .i64 (n:Int)]).getD i []=[.int .i64 (g[i]:Int)]:=zj (f:=λ(n:Nat)=>[Xf .i64 (n:Int)]) p;have m:anyO j l c v (g.take (i+1))=(anyO j l c v (g.take i)||anyS l c v (j.getD g[i] ⟨0,[]⟩).stmts):=by unfold anyO;rw[WU p,Xx];simp
 have L:=C _ (Wx p);generalize g[i]=b at T L m;have w:(j.map Xe).getD b []=Xe j[b]:=zj L;have N:j.getD b ⟨0,[]⟩=j[b]:=by simp[Wu,L]
 have D:=R _ (Wx L);rw[N]at m;generalize j[b]=X at w m D;obtain⟨bad,h⟩:=X;simp only[Xe]at w m D;generalize anyO j l c v (g.take i)=J at m⊢;refine Gw6 @dT @uf @ub T w @uc ?_;intros;refine zd (λk:Nat=>([(1,encL 3 Xd l),(2,encL 1 cW c),(3,encP 2 [.int .u32 I,encL 2 Xe j]),(6,.ptr 0 0 0 0 0),(7,.ptr 1 0 0 0 0),(8,zi g),(9,.int .i64 v),(10,.bool (J||anyS l c v (h.take k))),(11,.int .i64 i),(12,encL 8 Xg h),(13,.int .i64 k)],F)) u (λk=>k<=h.length) (λk=>h.length-k) 0 (Wo _) (by rw[WI,show anyS l c v []=false from rfl,Bool.or_false];exact Xc rfl fin5) ?_;intro k hk wf;clear wf;refine dcU zk0.eq_1 ?_;by_cases q:k<h.length
 case neg=>
  obtain rfl:k=h.length:=by omega
  rw[Wy,<-m];refine Gw2 @dF @uf ?_;intros;refine dcU zj4.eq_1 ?_;refine Gw0 ?_;intros;exact⟨i+1,p,by omega,Xc rfl fin5⟩
 have x:(h.map Xg).getD k []=h[k].cells:=zj (f:=Xg) (d:=[]) q;have t:anyS l c v (h.take (k+1))=(anyS l c v (h.take k)||chV l c h[k] v):=by unfold anyS;rw[WU q,Xx];simp
 have o:=O h[k];generalize h[k]=s at x t o;obtain⟨op,var,y,next,M,S,e,Y⟩:=s;simp only[Xg]at x o;generalize chV l c ⟨op,var,y,next,M,S,e,Y⟩ v=d at t o
 cases V:J||anyS l c v (h.take k)with
 |true=>
  have P:(J||anyS l c v (h.take (k+1)))=true:=by rw[t,<-Bool.or_assoc,V,Bool.true_or]
  refine Gw1 @dT ?_;intros;exact⟨k+1,q,by omega,by rw[P];exact Xc rfl fin5⟩
 |false=>
  have P:(J||anyS l c v (h.take (k+1)))=d:=by rw[t,<-Bool.or_assoc,V,Bool.false_or]
  refine Gw5 @dT @uf @ub x @uc ?_;intros;refine zc (zb o rfl) ?_;refine Gw0 ?_;intros;exact⟨k+1,q,by omega,by rw[P];exact Xc rfl fin5⟩
def argP(g:G)(l:List Sgn)(b:List Int)(v:Nat):Bool:=(zii g.blocks.length (zk6 g l b false v)).getD 0 false
def chgP(g:G)(l:List Sgn)(c:List Int)(v:Nat):Bool:=(ordG g).any λb=>(blkG g b).stmts.any λs=>chV l c s v
def resP(g:G)(l:List Sgn)(b:List Int)(v:Nat):Bool:=chgP g l b v && !decide ((v:Int)∈savG g l b)
def sigG(g:G)(l:List Sgn)(b:List Int):Sgn:=⟨((Wm 12).filter (argP g l b)).map λ(v:Nat)=>(v:Int),((Wm 12).filter (resP g l b)).map λ(v:Nat)=>(v:Int),savG g l b⟩
def cN8(n:Nat):List AV:=[.int .i64 (n:Int)]
def svV(n:Nat)(l:List Nat)(γ:Nat):AV:=if l.length=0 then .nilsl else .own n 0 γ 0 l.length
def svH(n:Nat)(l:List Nat)(γ:Nat):AH:=if l.length=0 then[]else[(n,.row 1 (l.map cN8) γ)]
def sgH(d:List Int)(a r:List Nat)(b c:Nat):AH:=(0,.row 3 [[.nilsl,.nilsl,.nilsl]] 0)::(1,.row 3 [[svV 2 a b,svV 3 r c,za d]] 0)::(svH 2 a b++svH 3 r c)
theorem zdk{n}{l}{γ}(h:l.length=0):svV n l γ=.nilsl:=if_pos h
theorem zaa{n}{l}{γ}(h:¬l.length=0):svV n l γ=.own n 0 γ 0 l.length:=if_neg h
theorem zdi{n}{l}{γ}(h:l.length=0):svH n l γ=[]:=if_pos h
theorem z7{n}{l}{γ}(h:¬l.length=0):svH n l γ=[(n,.row 1 (l.map cN8) γ)]:=if_neg h
set_option maxHeartbeats 2000000 in
theorem vwN8{H:AH}{n γ:Nat}{l:List Nat}(h:H.get n 0=some (.row 1 (l.map cN8) γ))(c:l.length<=12):Vw H [] nos allR false (.own n 0 γ 0 l.length) (za (l.map λ(v:Nat)=>(v:Int))):=by
 have b:l.length=(l.map λ(v:Nat)=>(v:Int)).length:=by simp
 rw[b];refine zaP trivial (h.trans ?_) (by rw[<-b];exact Wq c (by decide));rw[WA];rfl
theorem zve{H:AH}{l:List Nat}(h:l.length=0):Vw H [] nos allR false .nilsl (za (l.map λ(v:Nat)=>(v:Int))):=by obtain rfl:l=[]:=WD h;exact .nil0 _ _ _
theorem vwSg{H}{x y}{a r c}(g:Vw H [] nos allR false x (za a))(h:Vw H [] nos allR false y (za r)):Frz H (.agg [x,y,za c]) (.agg (Xd ⟨a,r,c⟩)) :=
 .agg _ _ _ rfl λi a b d e=>match i with
  |0=>by cases d;cases e;exact g
  |1=>by cases d;cases e;exact h
  |2=>by cases d;cases e;exact zZ rfl
  |i+3=>by cases d
theorem QF{d e g p:Prop}(a0:d)(b:e)(c:g)(h:d->e->g->p:=by intro a0 b c;(try simp only[evWB,Nat.reduceBEq,Nat.reduceAdd,Nat.reduceSub,Nat.reduceLeDiff,Nat.reduceLT,implies_true,a0,b,c])<;>(repeat' with_reducible apply And.intro)<;>first|(first|exact zh rfl|exact zB rfl|exact trivial;done)|exact fin6):p:=h a0 b c
theorem QG{p:Prop}(h:p:=by(try simp only[evWB,Nat.reduceBEq,Nat.reduceAdd,Nat.reduceSub,Nat.reduceLeDiff,Nat.reduceLT,implies_true])<;>(repeat' with_reducible apply And.intro)<;>first|(first|exact zh rfl|exact zB rfl|exact trivial;done)|exact fin6):p:=h
set_option maxHeartbeats 2000000 in
theorem zn7(g)(hf:fewC g)(hg:OkG g)(q:∀b∈g.blocks,∀s∈b.stmts,OkS s)(l)(h)(P:h.length<=1000000)(O:l.length=h.length):
  zq Z9 zhD [.agg g.cells,encL 3 Xd l,encL 1 cW h] (·=.agg (sigG g l h).cells):=by
 refine fn_x zuS rfl ?_;unfold zok sigG;conv in Z8 _ _=>reduce
 have hB:=hBig;have W:=zBm g hf hg q l h P O;have S:=znI g hf;have x:=zpD g;have hole:=zqb g;have hbl8:=hf.blocks;have V:=hg.pos;have M:=λv=>zzf g hf hg v l h false P O
 have F:∀v:Nat,argP g l h v=(zii g.blocks.length (zk6 g l h false v)).getD 0 false:=λv=>rfl
 have B:∀v:Nat,resP g l h v=(((ordG g).any λb=>(blkG g b).stmts.any λs=>chV l h s v) && !decide ((v:Int)∈savG g l h)):=λv=>rfl
 have hch:=λs v=>zrb s v l h P O
 have hbk:=λb (hb:b<g.blocks.length)=>zg8 hb
 have U:∀v,(zii g.blocks.length (zk6 g l h false v)).length=g.blocks.length:=λv=>zFN _ _
 have hsl:(savG g l h).length<=8:=by unfold savG;rw[WE];exact Wq (W6 _ _) (by simp)
 generalize hA:(Wm 12).filter (argP g l h)=A;generalize hR:(Wm 12).filter (resP g l h)=R;generalize argP g l h=X at hA F;generalize resP g l h=RP at hR B;generalize zii g.blocks.length=LB at M F U;generalize zk6 g l h false=LF at M F U;generalize savG g l h=H at W B hsl⊢;generalize ordG g=u at S x hole B;have C:=λb hb=>Wq (hf.stmts b hb) (show 10<=1000000 by decide)
 have o:=λv:Nat=>Dm.R24_Has_ok H v
 have Z:∀b,blkG g b=g.blocks.getD b ⟨0,[]⟩:=λb=>rfl
 simp only[Z]at B;clear hbk Z;obtain⟨T,K⟩:=g;simp only[G.cells]at W S x hole hbl8 V M F U B⊢;have I:∀l:List AV,(Xm l).cells=l:=λ_=>rfl
 have J:∀l:List AV,(Xm l).solid=true:=λ_=>rfl
 refine Qi ?_;intros;refine zc (zb W rfl) ?_;refine Gw3 @ub @zu @ua ?_;intros;refine zc (zb S rfl) ?_;refine Gw0 ?_;intros;refine zd (λs:Nat×List Nat×List Nat×Nat×Nat=>([(1,encL 3 Xd l),(2,encL 1 cW h),(3,encP 2 [.int .u32 T,encL 2 Xe K]),(6,.ptr 0 0 0 0 0),(7,.ptr 1 0 0 0 0),(8,zi u),(9,.int .i64 s.1)],sgH H s.2.1 s.2.2.1 s.2.2.2.1 s.2.2.2.2)) 4 (λs=>s.1<=12/\s.2.1.length<=s.1/\s.2.2.1.length<=s.1/\s.2.1++((Wm 12).drop s.1).filter X=A/\s.2.2.1++((Wm 12).drop s.1).filter RP=R) (λs=>12-s.1) (0,[],[],0,0) ⟨Wo _,Wt _,Wt _,hA,hR⟩ (Xa [(0,0,0),(1,1,0)] [] rfl (QF @sgH.eq_1 @svV.eq_1 @svH.eq_1) (QF @sgH.eq_1 @svV.eq_1 @svH.eq_1)) ?_;rintro⟨v,a,r,w,t⟩ ⟨hv,hal,hrl,k,d⟩ wf;simp only at hv hal hrl k d;clear wf hA hR;refine dcU zj8.eq_1 ?_;have Q:=M v;have hlm:=U v;have Y:=F v;have p:RP v=(anyO K l h v u && !decide ((v:Int)∈H)):=B v;have L:0<(LB (LF v)).length:=by rw[hlm];exact V
 have N:((LB (LF v)).map λb=>[Xo b]).getD (Int.toNat 0) []=[.bool (X v)]:=by rw[Y];rw[show Int.toNat 0=0 from rfl,zj (f:=λb=>[Xo b]) L];simp[Wu,L]
 generalize LB (LF v)=lv at Q hlm Y N L;by_cases j:v<12
 case neg=>
  rw[WQ (by simp;omega),W5,Wd]at k d;subst k d;by_cases n:a.length=0<;>by_cases m:r.length=0
  .simp only[sgH,zdk n,zdi n,zdk m,zdi m,Wa,Wd,Wc];refine Qa ?_;intros;refine dcU zcV.eq_1 ?_;refine Gw3 I J @zer.eq_1 ?_;intros;exact⟨_,vwSg (zve n) (zve m),rfl⟩
  .simp only[sgH,zdk n,zdi n,zaa m,z7 m,Wa,Wd,Wc];refine Qa ?_;intros;refine dcU zcV.eq_1 ?_;refine Gw3 I J @zer.eq_1 ?_;intros;exact⟨_,vwSg (zve n) (vwN8 rfl (by omega)),rfl⟩
  .simp only[sgH,zaa n,z7 n,zdk m,zdi m,Wa,Wd,Wc];refine Qa ?_;intros;refine dcU zcV.eq_1 ?_;refine Gw3 I J @zer.eq_1 ?_;intros;exact⟨_,vwSg (vwN8 rfl (by omega)) (zve m),rfl⟩
  .simp only[sgH,zaa n,z7 n,zaa m,z7 m,Wa,Wd,Wc];refine Qa ?_;intros;refine dcU zcV.eq_1 ?_;refine Gw3 I J @zer.eq_1 ?_;intros;exact⟨_,vwSg (vwN8 rfl (by omega)) (vwN8 rfl (by omega)),rfl⟩
 rw[zuH j,WS]at k d;by_cases n:a.length=0<;>by_cases m:r.length=0
 .simp only[sgH,zdk n,zdi n,zdk m,zdi m,Wa,Wd,Wc];refine Gw3 @dT @ub @zu ?_;intros;refine zc (zb Q rfl) ?_;refine Gw3 @zeN.eq_1 N L ?_;intros;obtain rfl:a=[]:=WD n;obtain rfl:r=[]:=WD m;cases D:X v
  .rw[D,if_neg (by decide)]at k;refine Gw5 I J @m9N @m9O @ue ?_;intros;refine zuB T K l h P O u (by omega) x C v _ _ ?_ (Xc rfl fin5);refine dcU zam.eq_1 ?_;cases y:anyO K l h v u
   .rw[p,y,Wp,if_neg (by decide)]at d;refine Gw0 ?_;intros;refine dcU zx.eq_1 ?_;refine Gw0 ?_;intros;refine⟨(v+1,[],[],w,t),⟨j,by simp;try omega,by simp;try omega,by simpa using k,by simpa using d⟩,by simp only;omega,?_⟩;simp only[sgH,zdk (l:=[]) rfl,zdi (l:=[]) rfl,zdk (l:=[]) rfl,zdi (l:=[]) rfl,Wa,Wd,Wc,Wh,We,Wg,Wi,Wj,Wl,Wf,Wk,cN8];exact(Xa [(0,0,0),(1,1,0)] [] rfl QG QG)
   .by_cases q:(v:Int)∈H
    .rw[p,y,decide_eq_true q,Ws,Wv,if_neg (by decide)]at d;refine Qi ?_;intros;refine zc (zb (o v) rfl) ?_;rw[decide_eq_true q];refine Gw0 ?_;intros;refine dcU zx.eq_1 ?_;refine Gw0 ?_;intros;refine⟨(v+1,[],[],w,t),⟨j,by simp;try omega,by simp;try omega,by simpa using k,by simpa using d⟩,by simp only;omega,?_⟩;simp only[sgH,zdk (l:=[]) rfl,zdi (l:=[]) rfl,zdk (l:=[]) rfl,zdi (l:=[]) rfl,Wa,Wd,Wc,Wh,We,Wg,Wi,Wj,Wl,Wf,Wk,cN8];exact(Xa [(0,0,0),(1,1,0)] [] rfl QG QG)
    .rw[p,y,decide_eq_false q,Wr,Wz,if_pos rfl]at d;refine Qi ?_;intros;refine zc (zb (o v) rfl) ?_;rw[decide_eq_false q];refine Gw5 I J @m9N @m9O @ue ?_;intros;refine dcU zx.eq_1 ?_;refine Gw0 ?_;intros;have e:¬([v]).length=0:=by simp
     refine⟨(v+1,[],[v],w,0),⟨j,by simp;try omega,by simp;try omega,by simpa using k,by simpa using d⟩,by simp only;omega,?_⟩;simp only[sgH,zdk (l:=[]) rfl,zdi (l:=[]) rfl,zaa e,z7 e,Wa,Wd,Wc,Wh,We,Wg,Wi,Wj,Wl,Wf,Wk,cN8];exact(Xa [(0,0,0),(1,1,0),(3,5,0)] [] rfl QG QG)
  .rw[D,if_pos rfl]at k;refine Gw5 I J @m9N @m9O @ue ?_;intros;refine zuB T K l h P O u (by omega) x C v _ _ ?_ (Xc rfl fin5);refine dcU zam.eq_1 ?_;cases y:anyO K l h v u
   .rw[p,y,Wp,if_neg (by decide)]at d;refine Gw0 ?_;intros;refine dcU zx.eq_1 ?_;refine Gw0 ?_;intros;have c:¬([v]).length=0:=by simp
    refine⟨(v+1,[v],[],0,t),⟨j,by simp;try omega,by simp;try omega,by simpa using k,by simpa using d⟩,by simp only;omega,?_⟩;simp only[sgH,zaa c,z7 c,zdk (l:=[]) rfl,zdi (l:=[]) rfl,Wa,Wd,Wc,Wh,We,Wg,Wi,Wj,Wl,Wf,Wk,cN8];exact(Xa [(0,0,0),(1,1,0),(2,5,0)] [] rfl QG QG)
   .by_cases q:(v:Int)∈H
    .rw[p,y,decide_eq_true q,Ws,Wv,if_neg (by decide)]at d;refine Qi ?_;intros;refine zc (zb (o v) rfl) ?_;rw[decide_eq_true q];refine Gw0 ?_;intros;refine dcU zx.eq_1 ?_;refine Gw0 ?_;intros;have c:¬([v]).length=0:=by simp
     refine⟨(v+1,[v],[],0,t),⟨j,by simp;try omega,by simp;try omega,by simpa using k,by simpa using d⟩,by simp only;omega,?_⟩;simp only[sgH,zaa c,z7 c,zdk (l:=[]) rfl,zdi (l:=[]) rfl,Wa,Wd,Wc,Wh,We,Wg,Wi,Wj,Wl,Wf,Wk,cN8];exact(Xa [(0,0,0),(1,1,0),(2,5,0)] [] rfl QG QG)
    .rw[p,y,decide_eq_false q,Wr,Wz,if_pos rfl]at d;refine Qi ?_;intros;refine zc (zb (o v) rfl) ?_;rw[decide_eq_false q];refine Gw5 I J @m9N @m9O @ue ?_;intros;refine dcU zx.eq_1 ?_;refine Gw0 ?_;intros;have c:¬([v]).length=0:=by simp
     have e:¬([v]).length=0:=by simp
     refine⟨(v+1,[v],[v],0,0),⟨j,by simp;try omega,by simp;try omega,by simpa using k,by simpa using d⟩,by simp only;omega,?_⟩;simp only[sgH,zaa c,z7 c,zaa e,z7 e,Wa,Wd,Wc,Wh,We,Wg,Wi,Wj,Wl,Wf,Wk,cN8];exact(Xa [(0,0,0),(1,1,0),(2,5,0),(3,7,0)] [] rfl QG QG)
 .simp only[sgH,zdk n,zdi n,zaa m,z7 m,Wa,Wd,Wc];refine Gw3 @dT @ub @zu ?_;intros;refine zc (zb Q rfl) ?_;refine Gw3 @zeN.eq_1 N L ?_;intros;obtain rfl:a=[]:=WD n;cases D:X v
  .rw[D,if_neg (by decide)]at k;refine Gw5 I J @m9N @m9O @ue ?_;intros;refine zuB T K l h P O u (by omega) x C v _ _ ?_ (Xc rfl fin5);refine dcU zam.eq_1 ?_;cases y:anyO K l h v u
   .rw[p,y,Wp,if_neg (by decide)]at d;refine Gw0 ?_;intros;refine dcU zx.eq_1 ?_;refine Gw0 ?_;intros;have e:¬(r).length=0:=by exact m
    refine⟨(v+1,[],r,w,t),⟨j,by simp;try omega,by simp;try omega,by simpa using k,by simpa using d⟩,by simp only;omega,?_⟩;simp only[sgH,zdk (l:=[]) rfl,zdi (l:=[]) rfl,zaa e,z7 e,Wa,Wd,Wc,Wh,We,Wg,Wi,Wj,Wl,Wf,Wk,cN8];exact(Xa [(0,0,0),(1,1,0),(3,3,0)] [] rfl QG QG)
   .by_cases q:(v:Int)∈H
    .rw[p,y,decide_eq_true q,Ws,Wv,if_neg (by decide)]at d;refine Qi ?_;intros;refine zc (zb (o v) rfl) ?_;rw[decide_eq_true q];refine Gw0 ?_;intros;refine dcU zx.eq_1 ?_;refine Gw0 ?_;intros;have e:¬(r).length=0:=by exact m
     refine⟨(v+1,[],r,w,t),⟨j,by simp;try omega,by simp;try omega,by simpa using k,by simpa using d⟩,by simp only;omega,?_⟩;simp only[sgH,zdk (l:=[]) rfl,zdi (l:=[]) rfl,zaa e,z7 e,Wa,Wd,Wc,Wh,We,Wg,Wi,Wj,Wl,Wf,Wk,cN8];exact(Xa [(0,0,0),(1,1,0),(3,3,0)] [] rfl QG QG)
    .rw[p,y,decide_eq_false q,Wr,Wz,if_pos rfl]at d;refine Qi ?_;intros;refine zc (zb (o v) rfl) ?_;rw[decide_eq_false q];refine Gw5 I J @m9N @m9O @ue ?_;intros;refine dcU zx.eq_1 ?_;refine Gw0 ?_;intros;have e:¬(r++[v]).length=0:=by simp
     refine⟨(v+1,[],r++[v],w,t+1),⟨j,by simp;try omega,by simp;try omega,by simpa using k,by simpa using d⟩,by simp only;omega,?_⟩;simp only[sgH,zdk (l:=[]) rfl,zdi (l:=[]) rfl,zaa e,z7 e,Wa,Wd,Wc,Wh,We,Wg,Wi,Wj,Wl,Wf,Wk,cN8];exact(Xa [(0,0,0),(1,1,0),(3,3,0)] [] rfl QG QG)
  .rw[D,if_pos rfl]at k;refine Gw5 I J @m9N @m9O @ue ?_;intros;refine zuB T K l h P O u (by omega) x C v _ _ ?_ (Xc rfl fin5);refine dcU zam.eq_1 ?_;cases y:anyO K l h v u
   .rw[p,y,Wp,if_neg (by decide)]at d;refine Gw0 ?_;intros;refine dcU zx.eq_1 ?_;refine Gw0 ?_;intros;have c:¬([v]).length=0:=by simp
    have e:¬(r).length=0:=by exact m
    refine⟨(v+1,[v],r,0,t),⟨j,by simp;try omega,by simp;try omega,by simpa using k,by simpa using d⟩,by simp only;omega,?_⟩;simp only[sgH,zaa c,z7 c,zaa e,z7 e,Wa,Wd,Wc,Wh,We,Wg,Wi,Wj,Wl,Wf,Wk,cN8];exact(Xa [(0,0,0),(1,1,0),(2,5,0),(3,3,0)] [] rfl QG QG)
   .by_cases q:(v:Int)∈H
    .rw[p,y,decide_eq_true q,Ws,Wv,if_neg (by decide)]at d;refine Qi ?_;intros;refine zc (zb (o v) rfl) ?_;rw[decide_eq_true q];refine Gw0 ?_;intros;refine dcU zx.eq_1 ?_;refine Gw0 ?_;intros;have c:¬([v]).length=0:=by simp
     have e:¬(r).length=0:=by exact m
     refine⟨(v+1,[v],r,0,t),⟨j,by simp;try omega,by simp;try omega,by simpa using k,by simpa using d⟩,by simp only;omega,?_⟩;simp only[sgH,zaa c,z7 c,zaa e,z7 e,Wa,Wd,Wc,Wh,We,Wg,Wi,Wj,Wl,Wf,Wk,cN8];exact(Xa [(0,0,0),(1,1,0),(2,5,0),(3,3,0)] [] rfl QG QG)
    .rw[p,y,decide_eq_false q,Wr,Wz,if_pos rfl]at d;refine Qi ?_;intros;refine zc (zb (o v) rfl) ?_;rw[decide_eq_false q];refine Gw5 I J @m9N @m9O @ue ?_;intros;refine dcU zx.eq_1 ?_;refine Gw0 ?_;intros;have c:¬([v]).length=0:=by simp
     have e:¬(r++[v]).length=0:=by simp
     refine⟨(v+1,[v],r++[v],0,t+1),⟨j,by simp;try omega,by simp;try omega,by simpa using k,by simpa using d⟩,by simp only;omega,?_⟩;simp only[sgH,zaa c,z7 c,zaa e,z7 e,Wa,Wd,Wc,Wh,We,Wg,Wi,Wj,Wl,Wf,Wk,cN8];exact(Xa [(0,0,0),(1,1,0),(2,5,0),(3,3,0)] [] rfl QG QG)
 .simp only[sgH,zaa n,z7 n,zdk m,zdi m,Wa,Wd,Wc];refine Gw3 @dT @ub @zu ?_;intros;refine zc (zb Q rfl) ?_;refine Gw3 @zeN.eq_1 N L ?_;intros;obtain rfl:r=[]:=WD m;cases D:X v
  .rw[D,if_neg (by decide)]at k;refine Gw5 I J @m9N @m9O @ue ?_;intros;refine zuB T K l h P O u (by omega) x C v _ _ ?_ (Xc rfl fin5);refine dcU zam.eq_1 ?_;cases y:anyO K l h v u
   .rw[p,y,Wp,if_neg (by decide)]at d;refine Gw0 ?_;intros;refine dcU zx.eq_1 ?_;refine Gw0 ?_;intros;have c:¬(a).length=0:=by exact n
    refine⟨(v+1,a,[],w,t),⟨j,by simp;try omega,by simp;try omega,by simpa using k,by simpa using d⟩,by simp only;omega,?_⟩;simp only[sgH,zaa c,z7 c,zdk (l:=[]) rfl,zdi (l:=[]) rfl,Wa,Wd,Wc,Wh,We,Wg,Wi,Wj,Wl,Wf,Wk,cN8];exact(Xa [(0,0,0),(1,1,0),(2,2,0)] [] rfl QG QG)
   .by_cases q:(v:Int)∈H
    .rw[p,y,decide_eq_true q,Ws,Wv,if_neg (by decide)]at d;refine Qi ?_;intros;refine zc (zb (o v) rfl) ?_;rw[decide_eq_true q];refine Gw0 ?_;intros;refine dcU zx.eq_1 ?_;refine Gw0 ?_;intros;have c:¬(a).length=0:=by exact n
     refine⟨(v+1,a,[],w,t),⟨j,by simp;try omega,by simp;try omega,by simpa using k,by simpa using d⟩,by simp only;omega,?_⟩;simp only[sgH,zaa c,z7 c,zdk (l:=[]) rfl,zdi (l:=[]) rfl,Wa,Wd,Wc,Wh,We,Wg,Wi,Wj,Wl,Wf,Wk,cN8];exact(Xa [(0,0,0),(1,1,0),(2,2,0)] [] rfl QG QG)
    .rw[p,y,decide_eq_false q,Wr,Wz,if_pos rfl]at d;refine Qi ?_;intros;refine zc (zb (o v) rfl) ?_;rw[decide_eq_false q];refine Gw5 I J @m9N @m9O @ue ?_;intros;refine dcU zx.eq_1 ?_;refine Gw0 ?_;intros;have c:¬(a).length=0:=by exact n
     have e:¬([v]).length=0:=by simp
     refine⟨(v+1,a,[v],w,0),⟨j,by simp;try omega,by simp;try omega,by simpa using k,by simpa using d⟩,by simp only;omega,?_⟩;simp only[sgH,zaa c,z7 c,zaa e,z7 e,Wa,Wd,Wc,Wh,We,Wg,Wi,Wj,Wl,Wf,Wk,cN8];exact(Xa [(0,0,0),(1,1,0),(2,2,0),(3,5,0)] [] rfl QG QG)
  .rw[D,if_pos rfl]at k;refine Gw5 I J @m9N @m9O @ue ?_;intros;refine zuB T K l h P O u (by omega) x C v _ _ ?_ (Xc rfl fin5);refine dcU zam.eq_1 ?_;cases y:anyO K l h v u
   .rw[p,y,Wp,if_neg (by decide)]at d;refine Gw0 ?_;intros;refine dcU zx.eq_1 ?_;refine Gw0 ?_;intros;have c:¬(a++[v]).length=0:=by simp
    refine⟨(v+1,a++[v],[],w+1,t),⟨j,by simp;try omega,by simp;try omega,by simpa using k,by simpa using d⟩,by simp only;omega,?_⟩;simp only[sgH,zaa c,z7 c,zdk (l:=[]) rfl,zdi (l:=[]) rfl,Wa,Wd,Wc,Wh,We,Wg,Wi,Wj,Wl,Wf,Wk,cN8];exact(Xa [(0,0,0),(1,1,0),(2,2,0)] [] rfl QG QG)
   .by_cases q:(v:Int)∈H
    .rw[p,y,decide_eq_true q,Ws,Wv,if_neg (by decide)]at d;refine Qi ?_;intros;refine zc (zb (o v) rfl) ?_;rw[decide_eq_true q];refine Gw0 ?_;intros;refine dcU zx.eq_1 ?_;refine Gw0 ?_;intros;have c:¬(a++[v]).length=0:=by simp
     refine⟨(v+1,a++[v],[],w+1,t),⟨j,by simp;try omega,by simp;try omega,by simpa using k,by simpa using d⟩,by simp only;omega,?_⟩;simp only[sgH,zaa c,z7 c,zdk (l:=[]) rfl,zdi (l:=[]) rfl,Wa,Wd,Wc,Wh,We,Wg,Wi,Wj,Wl,Wf,Wk,cN8];exact(Xa [(0,0,0),(1,1,0),(2,2,0)] [] rfl QG QG)
    .rw[p,y,decide_eq_false q,Wr,Wz,if_pos rfl]at d;refine Qi ?_;intros;refine zc (zb (o v) rfl) ?_;rw[decide_eq_false q];refine Gw5 I J @m9N @m9O @ue ?_;intros;refine dcU zx.eq_1 ?_;refine Gw0 ?_;intros;have c:¬(a++[v]).length=0:=by simp
     have e:¬([v]).length=0:=by simp
     refine⟨(v+1,a++[v],[v],w+1,0),⟨j,by simp;try omega,by simp;try omega,by simpa using k,by simpa using d⟩,by simp only;omega,?_⟩;simp only[sgH,zaa c,z7 c,zaa e,z7 e,Wa,Wd,Wc,Wh,We,Wg,Wi,Wj,Wl,Wf,Wk,cN8];exact(Xa [(0,0,0),(1,1,0),(2,2,0),(3,6,0)] [] rfl QG QG)
 .simp only[sgH,zaa n,z7 n,zaa m,z7 m,Wa,Wd,Wc];refine Gw3 @dT @ub @zu ?_;intros;refine zc (zb Q rfl) ?_;refine Gw3 @zeN.eq_1 N L ?_;intros;cases D:X v
  .rw[D,if_neg (by decide)]at k;refine Gw5 I J @m9N @m9O @ue ?_;intros;refine zuB T K l h P O u (by omega) x C v _ _ ?_ (Xc rfl fin5);refine dcU zam.eq_1 ?_;cases y:anyO K l h v u
   .rw[p,y,Wp,if_neg (by decide)]at d;refine Gw0 ?_;intros;refine dcU zx.eq_1 ?_;refine Gw0 ?_;intros;have c:¬(a).length=0:=by exact n
    have e:¬(r).length=0:=by exact m
    refine⟨(v+1,a,r,w,t),⟨j,by simp;try omega,by simp;try omega,by simpa using k,by simpa using d⟩,by simp only;omega,?_⟩;simp only[sgH,zaa c,z7 c,zaa e,z7 e,Wa,Wd,Wc,Wh,We,Wg,Wi,Wj,Wl,Wf,Wk,cN8];exact(Xa [(0,0,0),(1,1,0),(2,2,0),(3,3,0)] [] rfl QG QG)
   .by_cases q:(v:Int)∈H
    .rw[p,y,decide_eq_true q,Ws,Wv,if_neg (by decide)]at d;refine Qi ?_;intros;refine zc (zb (o v) rfl) ?_;rw[decide_eq_true q];refine Gw0 ?_;intros;refine dcU zx.eq_1 ?_;refine Gw0 ?_;intros;have c:¬(a).length=0:=by exact n
     have e:¬(r).length=0:=by exact m
     refine⟨(v+1,a,r,w,t),⟨j,by simp;try omega,by simp;try omega,by simpa using k,by simpa using d⟩,by simp only;omega,?_⟩;simp only[sgH,zaa c,z7 c,zaa e,z7 e,Wa,Wd,Wc,Wh,We,Wg,Wi,Wj,Wl,Wf,Wk,cN8];exact(Xa [(0,0,0),(1,1,0),(2,2,0),(3,3,0)] [] rfl QG QG)
    .rw[p,y,decide_eq_false q,Wr,Wz,if_pos rfl]at d;refine Qi ?_;intros;refine zc (zb (o v) rfl) ?_;rw[decide_eq_false q];refine Gw5 I J @m9N @m9O @ue ?_;intros;refine dcU zx.eq_1 ?_;refine Gw0 ?_;intros;have c:¬(a).length=0:=by exact n
     have e:¬(r++[v]).length=0:=by simp
     refine⟨(v+1,a,r++[v],w,t+1),⟨j,by simp;try omega,by simp;try omega,by simpa using k,by simpa using d⟩,by simp only;omega,?_⟩;simp only[sgH,zaa c,z7 c,zaa e,z7 e,Wa,Wd,Wc,Wh,We,Wg,Wi,Wj,Wl,Wf,Wk,cN8];exact(Xa [(0,0,0),(1,1,0),(2,2,0),(3,3,0)] [] rfl QG QG)
  .rw[D,if_pos rfl]at k;refine Gw5 I J @m9N @m9O @ue ?_;intros;refine zuB T K l h P O u (by omega) x C v _ _ ?_ (Xc rfl fin5);refine dcU zam.eq_1 ?_;cases y:anyO K l h v u
   .rw[p,y,Wp,if_neg (by decide)]at d;refine Gw0 ?_;intros;refine dcU zx.eq_1 ?_;refine Gw0 ?_;intros;have c:¬(a++[v]).length=0:=by simp
    have e:¬(r).length=0:=by exact m
    refine⟨(v+1,a++[v],r,w+1,t),⟨j,by simp;try omega,by simp;try omega,by simpa using k,by simpa using d⟩,by simp only;omega,?_⟩;simp only[sgH,zaa c,z7 c,zaa e,z7 e,Wa,Wd,Wc,Wh,We,Wg,Wi,Wj,Wl,Wf,Wk,cN8];exact(Xa [(0,0,0),(1,1,0),(2,2,0),(3,3,0)] [] rfl QG QG)
   .by_cases q:(v:Int)∈H
    .rw[p,y,decide_eq_true q,Ws,Wv,if_neg (by decide)]at d;refine Qi ?_;intros;refine zc (zb (o v) rfl) ?_;rw[decide_eq_true q];refine Gw0 ?_;intros;refine dcU zx.eq_1 ?_;refine Gw0 ?_;intros;have c:¬(a++[v]).length=0:=by simp
     have e:¬(r).length=0:=by exact m
     refine⟨(v+1,a++[v],r,w+1,t),⟨j,by simp;try omega,by simp;try omega,by simpa using k,by simpa using d⟩,by simp only;omega,?_⟩;simp only[sgH,zaa c,z7 c,zaa e,z7 e,Wa,Wd,Wc,Wh,We,Wg,Wi,Wj,Wl,Wf,Wk,cN8];exact(Xa [(0,0,0),(1,1,0),(2,2,0),(3,3,0)] [] rfl QG QG)
    .rw[p,y,decide_eq_false q,Wr,Wz,if_pos rfl]at d;refine Qi ?_;intros;refine zc (zb (o v) rfl) ?_;rw[decide_eq_false q];refine Gw5 I J @m9N @m9O @ue ?_;intros;refine dcU zx.eq_1 ?_;refine Gw0 ?_;intros;have c:¬(a++[v]).length=0:=by simp
     have e:¬(r++[v]).length=0:=by simp
     refine⟨(v+1,a++[v],r++[v],w+1,t+1),⟨j,by simp;try omega,by simp;try omega,by simpa using k,by simpa using d⟩,by simp only;omega,?_⟩;simp only[sgH,zaa c,z7 c,zaa e,z7 e,Wa,Wd,Wc,Wh,We,Wg,Wi,Wj,Wl,Wf,Wk,cN8];exact(Xa [(0,0,0),(1,1,0),(2,2,0),(3,3,0)] [] rfl QG QG)
theorem zwA:∀{l:List St},ziu l=0->∀s∈l,s.check=0
 |[],_,s,h=>by cases h
 |
  x::l,h,s,c=>by
  rw[ziu]at h;split at h
  .rename_i b;exact absurd h b
  .rename_i b;rcases Wn.1 c with rfl|c
   .exact Xk b
   .exact zwA h s c
theorem zvZ:∀{l:List Bl},zmw l=0->∀b∈l,ziu b.stmts=0
 |[],_,s,h=>by cases h
 |
  x::l,h,s,d=>by
  rw[zmw]at h;split at h
  .rename_i c;exact absurd h c
  .rename_i c;rcases Wn.1 d with rfl|d
   .exact Xk c
   .exact zvZ h s d
theorem zws:∀{l:List Ex},zkq l=0->∀e∈l,zmm e=0
 |[],_,s,h=>by cases h
 |
  x::l,h,s,c=>by
  rw[zkq]at h;split at h
  .rename_i b;exact absurd h b
  .rename_i b;rcases Wn.1 c with rfl|c
   .exact Xk b
   .exact zws h s c
theorem zCW{e}(h:zmm e=0):zgJ e=true:=by
 unfold zmm at h;split at h
 .cases h
 .split at h
  .assumption
  .cases h
theorem zvH{g}(h:zc1 g=0):zyh g=0:=by
 unfold zc1 at h;split at h
 .exact absurd h (by decide)
 .exact h
theorem okS_of{s}(h:s.check=0)(n:zW s.e<=100000):OkS s:=by
 unfold St.check zyA at h;split at h
 .cases h
 rename_i g;split at h
 .rename_i b;exact absurd h b
 rename_i b;split at h;case isFalse=>cases h
 rename_i d;have c:zkq s.e=0:=Xk b;have m:zau s.op=s.e.length:=Xk λk=>g (.inr k)
 refine⟨λh=>?_,λh=>?_,λe j=>zCW (zws c e j),n⟩
 .rw[h]at m;have:zau 1=1:=rfl;omega
 .unfold zG at d;rw[decide_eq_true_eq]at d;rcases h with h|h<;>(rw[h]at d;omega)
theorem zyn{g}(n:fewC g)(h:zc1 g=0):OkG g/\∀b∈g.blocks,∀s∈b.stmts,OkS s:=by
 have k:=zvH h;unfold zyh at k;split at k;case isFalse=>cases k
 rename_i e;rw[WJ,Wae]at e;refine⟨⟨?_,λb d=>?_,λb d t o=>?_⟩,λb d s m=>okS_of (zwA (zvZ k b d) s m) (Wq (n.size b d s m) (by decide))⟩
 .cases d:g.blocks with
  |nil=>rw[d]at e;simp at e
  |cons a l=>simp
 .have c:=e.2 b d;unfold zfR at c;rw[WJ]at c;intro j;rw[WD j]at c;simp at c
 .have c:=e.2 b d;unfold zfR at c;rw[WJ,WJ,Wae]at c;have j:=c.2.2 t o;unfold inN at j;rw[decide_eq_true_eq]at j;exact j
def ofG(g:G)(l:List Sgn)(b:List Int):AV:=if errC g l.length b≠0 then .tup [.agg zaS.cells,.int .i64 (errC g l.length b)]else .tup [.agg (sigG g l b).cells,.int .i64 0]
theorem zjY{g:G}{l:List Sgn}{b:List Int}(h:errC g l.length b=0):l.length=b.length/\zc1 g=0/\resG g b=true:=by
 unfold errC at h;split at h
 .cases h
 rename_i e;split at h
 .rename_i c;exact absurd h c
 rename_i c;split at h
 .rename_i d;exact⟨by omega,Xk c,d⟩
 .cases h
theorem zGg(g)(p:fewC g)(l)(c)(q:c.length<=1000000)(v:l.length<=1000000):
  zq Z9 zzX [.agg g.cells,encL 3 Xd l,encL 1 cW c] (·=ofG g l c):=by
 refine fn_x zIf rfl ?_;unfold zAX ofG;conv in Z8 _ _=>reduce
 have F:=hBig;have m:=zz6 g l.length c q (zmK p);have d:=λk:errC g l.length c=0=>zn7 g p (zyn p (zjY k).2.1).1 (zyn p (zjY k).2.1).2 l c q (zjY k).1
 generalize errC g l.length c=u at m d⊢;generalize sigG g l c=B at d⊢;obtain⟨C,D⟩:=g;simp only[G.cells]at m d⊢;have s:∀l:List AV,(Xm l).cells=l:=λ_=>rfl
 have A:∀l:List AV,(Xm l).solid=true:=λ_=>rfl
 have t:B.cells.length=3:=rfl
 have j:∀(H:AH)(x:AV)(y:Sgn)(n:Int),Frz H x (.agg y.cells)->∃a,Frz H (.tup [x,.int .i64 n]) a/\a=.tup [.agg y.cells,.int .i64 n]:=λH x y n w=>⟨.tup [.agg y.cells,.int .i64 n],.tup _ _ _ rfl (λi a b e o=>match i with
  |0=>by cases e;cases o;exact w
  |1=>by cases e;cases o;exact .int _ _ _
  |i+2=>by cases e),rfl⟩
 refine Qi ?_;intros;refine zc (zb m rfl) ?_;by_cases k:u=0
 .rw[if_neg (λh=>h k)];refine Gw3 @dF @ub @zu ?_;intros;refine zc (zb (d k) rfl) ?_;refine Gw4 s A t @zvJ.eq_1 ?_;intros;exact j _ _ _ _ (zZ rfl)
 .rw[if_pos k];refine Gw2 @dT @zvJ.eq_1 ?_;intros
  exact j _ _ zaS _ (.agg _ _ _ rfl (λi a b e o=>match i with
   |0=>by cases e;cases o;exact .nil0 _ _ _
   |1=>by cases e;cases o;exact .nil0 _ _ _
   |2=>by cases e;cases o;exact .nil0 _ _ _
   |i+3=>by cases e))
structure TE where
 k:Int
 sg:Sgn
 b:Int
def cT(e:TE):List AV:=[.int .u32 e.k,.agg e.sg.cells,.int .i64 e.b]
def tabM(c:Int)(b:List TE):List (List AV):=[.int .i64 c,.undef,.undef]::b.map cT
def atT(b:List TE)(a:Int):Option Nat:=b.findIdx? λe=>decide (e.k=a)
def zr6(b:List TE)(a:Int):Option Sgn:=match atT b a with
 |some j=>(b[j]?).map (·.sg)
 |none=>none
theorem ztV{a:Int}:∀{es:List TE}{i:Nat},zc6 (.int .u32 a) (es.map cT) i=some (match atT es a with
  |some j=>some (i+j,.agg (es.getD j ⟨0,zaS,0⟩).sg.cells)
  |none=>none)
 |[],i=>rfl
 |
  e::es,i=>by
  unfold atT;rw[Waf];by_cases h:a=e.k
  .rw[if_pos (decide_eq_true h.symm)];simp only[We,cT,zc6,zty,if_true,decide_eq_true h,Nat.add_zero,Wag]
  .rw[if_neg (by simp;exact λe=>h e.symm)];have b:zc6 (.int .u32 a) ((e::es).map cT) i=zc6 (.int .u32 a) (es.map cT) (i+1):=by simp only[We,cT,zc6,zty,if_true,decide_eq_false h]
   rw[b,ztV];unfold atT
   cases es.findIdx? (λe=>decide (e.k=a))with
   |none=>rfl
   |some j=>simp only[Ww,Wah];rw[show i+1+j=i+(j+1) by omega]
theorem zvT{es}{a}{j}(h:atT es a=some j):∃g:j<es.length,es[j].k=a/\∀i (b:i<j),(es[i]'(by omega)).k≠a:=by obtain⟨c,d,e⟩:=Wai.1 h;exact⟨c,of_decide_eq_true d,λi b=>by have:=e i b;simpa using this⟩
theorem zzJ{es}{a}{j}(e:j<es.length)(c:es[j].k=a)(d:∀i (b:i<j),(es[i]'(by omega)).k≠a):atT es a=some j :=
 Wai.2 ⟨e,decide_eq_true c,λi b=>by simpa using d i b⟩
theorem zEd{es}{a}(h:∀i (b:i<es.length),es[i].k≠a):atT es a=none :=
 Waj.2 λx c=>by obtain⟨i,b,rfl⟩:=List.mem_iff_getElem.1 c;simpa using h i b
theorem zvV{es}{a}(h:atT es a=none):∀i (b:i<es.length),es[i].k≠a:=λi b=>by have:=Waj.1 h es[i] (Wx b);simpa using this
theorem zIL{es}{a}{j}(h:atT es a=some j)(s)(b x):zr6 (es.set j ⟨a,s,b⟩) x=if x=a then some s else zr6 es x:=by
 obtain⟨v,t,y⟩:=zvT h
 have c:∀i (d:i<(es.set j ⟨a,s,b⟩).length),(es.set j ⟨a,s,b⟩)[i].k=(es[i]'(by simpa using d)).k:=λi d=>by
  rw[Wak];split
  .rename_i e;subst e;exact t.symm
  .rfl
 have o:atT (es.set j ⟨a,s,b⟩) x=atT es x:=by
  cases m:atT es x with
  |some i=>obtain⟨d,n,u⟩:=zvT m;exact zzJ (by simpa using d) (by rw[c];exact n) (λw p=>by rw[c];exact u w p)
  |none=>exact zEd λi d=>by rw[c];exact zvV m i (by simpa using d)
 unfold zr6;rw[o];by_cases g:x=a
 .subst g;rw[if_pos rfl,h];simp[List.getElem?_set_self v]
 .rw[if_neg g]
  cases m:atT es x with
  |none=>rfl
  |some i=>
   have q:j≠i:=λe=>by subst e;obtain⟨d,n,_⟩:=zvT m;exact g (n.symm.trans t)
   simp only;rw[WV q]
theorem zIY{es}{a}(h:atT es a=none)(s)(b x):zr6 (es++[⟨a,s,b⟩]) x=if x=a then some s else zr6 es x:=by
 have m:=zvV h;unfold zr6;by_cases c:x=a
 .subst c;rw[if_pos rfl];have:atT (es++[⟨x,s,b⟩]) x=some es.length:=zzJ (by simp) (by simp) (λi d=>by rw[WW d];exact m i d);rw[this];simp
 .rw[if_neg c]
  cases k:atT es x with
  |some i=>obtain⟨d,n,o⟩:=zvT k;have:atT (es++[⟨a,s,b⟩]) x=some i:=zzJ (by simp;omega) (by rw[WW d];exact n) (λq j=>by rw[WW (by omega)];exact o q j);rw[this];simp only;rw[List.getElem?_append_left d]
  |none=>
   have p:=zvV k
   have:atT (es++[⟨a,s,b⟩]) x=none:=zEd λi d=>by
    by_cases g:i<es.length
    .rw[WW g];exact p i g
    .rw[List.getElem_append_right (by omega)];simp;exact λe=>c e.symm
   rw[this]
def TabS(l:List Sgn)(b:List Int)(c:List TE):Prop:=∀a,zr6 c a=(idxA b a).map λk=>l.getD k zaS
theorem zto{l:List Sgn}{c:List Int}{d:List TE}(h:TabS l c d)(a:Int):(match atT d a with
  |some j=>(d.getD j ⟨0,zaS,0⟩).sg
  |none=>zaS)=zaz l c a:=by
 have b:=h a;unfold zr6 at b;unfold zaz
 cases g:atT d a with
 |none=>
  rw[g]at b
  cases e:idxA c a with
  |none=>rfl
  |some k=>rw[e]at b;cases b
 |some j=>
  obtain⟨m,_,_⟩:=zvT g;rw[g]at b;simp only[WX m,Ww]at b
  cases e:idxA c a with
  |none=>rw[e]at b;cases b
  |some k=>rw[e]at b;simp only[Ww,Wal]at b;simp only[Wu,WX m,Option.getD_some];exact b
theorem zG5{l}{at'}{es}(h:TabS l at' es)(a):(atT es a).isSome=(idxA at' a).isSome:=by
 have b:=h a;unfold zr6 at b
 cases c:atT es a with
 |none=>
  rw[c]at b
  cases d:idxA at' a with
  |none=>rfl
  |some k=>rw[d]at b;cases b
 |some j=>
  obtain⟨e,_,_⟩:=zvT c;rw[c]at b;simp only[WX e,Ww]at b
  cases d:idxA at' a with
  |none=>rw[d]at b;cases b
  |some k=>rfl
theorem zMb(e):∀a∈cT e,a.flat=true:=λa b=>by unfold cT at b;simp only[Wn,WY,or_false]at b;rcases b with rfl|rfl|rfl<;>rfl
theorem zfh(c)(g):∀l∈tabM c g,∀a∈l,a.flat=true:=λl b a d=>by
 unfold tabM at b;rcases Wn.1 b with rfl|b
 .simp only[Wn,WY,or_false]at d;rcases d with rfl|rfl|rfl<;>rfl
 .obtain⟨e,_,rfl⟩:=WF.1 b;exact zMb e a d
theorem zIq{H HH}{σ}{D}{b}(h:∀l∈b,∀a∈l,a.flat=true):RowV H HH σ D b b :=
 ⟨rfl,λi c g=>⟨c,g,rfl,λj x y d e=>by
  rw[d]at e;cases e
  exact zZ (h c (Wam g) x (Wam d))⟩⟩
theorem zf{H HH}{σ}{D}{c}{es}:RowV H HH σ D (tabM c es) (tabM c es):=zIq (zfh c es)
theorem renC(ρ)(e):(cT e).map (Xp ρ)=cT e:=by simp only[cT,We,Wg,Xp,Xd,za,encL]
theorem zmN{ρ}{c}{es}{g}:AObj.ren ρ (.row 3 (tabM c es) g)=.row 3 (tabM c es) g:=by simp only[AObj.ren,tabM,We,Wg,Xp,WA];congr 2;exact WK λe _=>renC ρ e
theorem uu:type_of% @tabM.eq_1:=@tabM.eq_1
theorem zfV(l)(g)(R:g.length<=1000000)(Q:l.length=g.length):zad Z9 zbQ [encL 3 Xd l,encL 1 cW g] [] 0
  (λv H N=>v=.mp 0 0/\N=1/\∃c es,H=[(0,.row 3 (tabM c es) 0)]/\TabS l g es):=by
 refine zab (fn_x zqn rfl ?_);refine dcU zjs.eq_1 ?_;have P:=hBig;refine Gw0 ?_;intros
 refine zd (λs:Nat×Int×List TE=>([(0,encL 3 Xd l),(1,encL 1 cW g),(5,.mp 0 0),(6,.int .i64 ((s.1:Int)-1))],[(0,.row 3 (tabM s.2.1 s.2.2) 0)])) 1
  (λs=>s.1<=g.length/\0<=s.2.1/\s.2.1+s.1<=g.length/\∀a,zr6 s.2.2 a=((g.drop s.1).findIdx? λx=>decide (x=a)).map λk=>l.getD (s.1+k) zaS) (λs=>s.1) (g.length,0,[]) ⟨Wt _,Int.le_refl _,by simp,λa=>by simp[zr6,atT]⟩ ?_ ?_
 .exact Xc rfl fin5
 rintro⟨k,c,es⟩ ⟨M,y,L,t⟩ wf;simp only at M y L t;clear wf;refine dcU zg4.eq_1 ?_
 cases k with
 |zero=>refine Qa ?_;intros;unfold zhf;refine Gw1 @zi6.eq_1 ?_;intros;refine⟨_,_,_,(Xc rfl fin5),rfl,rfl,c,es,rfl,λa=>?_⟩;rw[t a,W7];simp only[Wk];rfl
 |succ m=>
 have A:m<g.length:=by omega
 have K:((((m+1:Nat):Int))-1)=(m:Int):=by omega
 have O:IntKind.i64.wrap ((m:Int)-1)=(m:Int)-1:=zyo (by omega) (by omega);have w:decide ((0:Int)<=(m:Int))=true:=by rw[decide_eq_true_eq];omega
 have F:(g.map cW).getD m []=[.int .u32 g[m]]:=zj (f:=cW) (d:=[]) A;have p:m<l.length:=by omega
 have I:(l.map Xd).getD m []=[za l[m].args,za l[m].res,za l[m].sav]:=zj (f:=Xd) (d:=[]) p;simp only[K];have o:=ztV (a:=g[m]) (es:=es) (i:=0)
 have B:∀q,(∀x,zr6 q x=if x=g[m]then some l[m]else zr6 es x)->∀a,zr6 q a=((g.drop m).findIdx? λx=>decide (x=a)).map λk=>l.getD (m+k) zaS:=λq h a=>by
  rw[h a,WH A,Waf];by_cases D:a=g[m]
  .rw[if_pos D,if_pos (decide_eq_true D.symm)];simp[Wu,p]
  .rw[if_neg D,if_neg (by simp;exact λe=>D e.symm),t a]
   cases(g.drop (m+1)).findIdx? λx=>decide (x=a)with
   |none=>rfl
   |some j=>simp only[Ww];rw[show m+1+j=m+(j+1) by omega]
 cases n:atT es g[m]with
 |some j=>
  rw[n]at o;have u:=B _ (zIL n l[m] (es.getD j ⟨0,zaS,0⟩).b);refine Gw6 w F I @uc @uu o ?_;intros;obtain⟨J,_,_⟩:=zvT n;have C:(es.map cT).set j [.int .u32 g[m],.agg [za l[m].args,za l[m].res,za l[m].sav],((es.map cT).getD j []).getD 2 .undef]=(es.set j ⟨g[m],l[m],(es.getD j ⟨0,zaS,0⟩).b⟩).map cT:=by rw[List.map_set];congr 1;rw[zj (f:=cT) J];simp[cT,Xd,Wu,J]
  refine⟨(m,c,es.set j ⟨g[m],l[m],(es.getD j ⟨0,zaS,0⟩).b⟩),⟨by simp only;omega,y,by simp only;omega,u⟩,by simp only;omega,?_⟩;simp only[tabM,<-C];exact Xc rfl fin5
 |none=>rw[n]at o;have u:=B _ (zIY n l[m] c);refine Gw6 w F I @uc @uu o ?_;intros;refine⟨(m,c+1,es++[⟨g[m],l[m],c⟩]),⟨by simp only;omega,by simp only;omega,by simp only;omega,u⟩,by simp only;omega,?_⟩;simp only[tabM,Wh,We,Wg,cT,Xd];exact Xc rfl fin5
def del1(s:MS)(v:Int):MS:=(s.1,s.2.filter λp=>p.1 != v)
def delL(s:MS)(l:List Int):MS:=l.foldl del1 s
theorem zG8{s:MS}{l:List Int}{i:Nat}(h:i<l.length):delL s (l.take (i+1))=del1 (delL s (l.take i)) l[i]:=by unfold delL;rw[List.take_add_one,WX h,Xu];rfl
theorem zBT{s}{v}(h:v∉s.2.map (·.1)):del1 s v=s:=by unfold del1;rw[List.filter_eq_self.2 λp b=>?_];simp only[bne_iff_ne,ne_eq];exact λe=>h (WF.2 ⟨p,b,e⟩)
theorem zuq{v}:∀ {b:List (Int×Int)}{j:Nat},(b.map (·.1)).Nodup->(h:j<b.length)->b[j].1=v->b.eraseIdx j=b.filter λp=>p.1 != v
 |
  p::b,0,hn,_,c=>by
  simp only[We,WL]at hn;simp only[List.getElem_cons_zero]at c;have k:=zBT (s:=((0:Int),b)) (v:=v) (by rw[<-c];exact hn.1);have m:b.filter (λp=>p.1 != v)=b:=congrArg Prod.snd k;rw[List.eraseIdx_cons_zero,WS,c,m];simp
 |
  p::b,j+1,hn,hj,c=>by
  simp only[We,WL]at hn;simp only[List.getElem_cons_succ]at c;have d:j<b.length:=by simpa using hj
  have g:p.1≠v:=λe=>hn.1 (WF.2 ⟨b[j],Wx d,by rw[c,e]⟩)
  rw[List.eraseIdx_cons_succ,WS,zuq hn.2 d c];simp[g]
theorem SetS.filter{c}{ps}(h:SetS c ps)(f):SetS c (ps.filter f):=by have b:(ps.filter f).Sublist ps:=List.filter_sublist;exact⟨h.keys.sublist (b.map _),h.borns.sublist (b.map _),λp d=>h.lt p (b.mem d),h.top,Wq b.length_le h.len⟩
theorem zBY:∀{l:List Int}{s:MS},s.ok->(delL s l).ok/\(delL s l).1=s.1/\(delL s l).2.length<=s.2.length
 |[],s,h=>⟨h,rfl,Wt _⟩
 |
  v::l,s,h=>by
  obtain⟨b,c,d⟩:=zBY (l:=l) (s:=del1 s v) (SetS.filter h _);exact⟨b,c,Wq d (W6 _ _)⟩
theorem zD8{y}:∀{l:List Int}{s:MS},y∈(delL s l).keys↔y∈s.keys/\y∉l
 |[],s=>by simp[delL]
 |
  v::l,s=>by
  show y∈(delL (del1 s v) l).keys↔_;rw[zD8]
  have:y∈(del1 s v).keys↔y∈s.keys/\y≠v:=by
   simp only[MS.keys,del1,WF,WM,bne_iff_ne,ne_eq];constructor
   .rintro⟨p,⟨b,c⟩,rfl⟩;exact⟨⟨p,b,rfl⟩,c⟩
   .rintro⟨⟨p,b,rfl⟩,c⟩;exact⟨p,⟨b,c⟩,rfl⟩
  rw[this,Wn,not_or,and_assoc]
theorem zBi{α β:Type}{f:α->β}:∀{l:List α}{j:Nat},(l.map f).eraseIdx j=(l.eraseIdx j).map f
 |[],_=>rfl
 |_::_,0=>rfl
 |a::l,j+1=>congrArg (f a::·) (zBi (l:=l) (j:=j))
theorem zHc{ps}{j}:((enL ps).map cm).eraseIdx j=(enL (ps.eraseIdx j)).map cm:=by unfold enL;rw[WA,WA,zBi]
theorem zw2(s):(zkQ s).length<=zW s.e:=by
 have:∀(l:List Ex)(a:List Int),(zw1 a l).length<=a.length+zW l:=by
  intro l
  induction l with
  |nil=>intro a;rw[zw1,zW];simp
  |cons x l ih=>intro a;rw[zw1,zW];have c:=ih (zeU a (zfY x));have d:=zqh (a:=a) (b:=zfY x);have g:=zo6 x;omega
 have:=this s.e [];show(zw1 [] s.e).length<=_;simpa using this
def inG(x:Int):Bool:=decide (0<=x/\x<12)
def nub:List Int->List Int
 |[]=>[]
 |x::l=>x::(nub l).filter λy=>decide (y≠x)
theorem zGF{y}:∀{l:List Int},y∈nub l↔y∈l
 |[]=>Iff.rfl
 |
  x::l=>by
  rw[nub,Wn,WM,zGF,Wn,decide_eq_true_eq];by_cases h:y=x<;>simp[h]
theorem zBk:∀(l:List Int),(nub l).Nodup
 |[]=>Xy
 |x::l=>WL.2 ⟨λh=>absurd rfl (of_decide_eq_true (WM.1 h).2),(zBk l).filter _⟩
theorem zHr:∀(l:List Int),(nub l).length<=l.length
 |[]=>Wt _
 |
  x::l=>by
  rw[nub,Wf,Wf];exact Nat.succ_le_succ (Wq (W6 _ _) (zHr l))
theorem zrH{x}:∀{l:List Int}{s:MS},x∈s.keys->addL s (l.filter λy=>decide (y≠x))=addL s l
 |[],s,_=>rfl
 |
  y::l,s,h=>by
  by_cases b:y=x
  .subst b;rw[List.filter_cons_of_neg (by simp),zrH h];show _=addL (add1 s y) l;rw[show add1 s y=s from if_pos h]
  .rw[List.filter_cons_of_pos (by simp[b])];show addL (add1 s y) _=addL (add1 s y) l;refine zrH ?_;rw[zvX];split
   .exact h
   .exact WN.2 (.inl h)
theorem zzR:∀{l:List Int}{s:MS},addL s (nub l)=addL s l
 |[],s=>rfl
 |
  x::l,s=>by
  show addL (add1 s x) ((nub l).filter λy=>decide (y≠x))=addL (add1 s x) l;rw[zrH,zzR];rw[zvX];split
  .assumption
  .exact WN.2 (.inr (WO.2 rfl))
theorem zyv{l}{s}:s.2.length<=(addL s l).2.length/\(addL s l).1<=s.1+(nub l).length/\(addL s l).2.length<=s.2.length+(nub l).length:=by rw[<-zzR];exact zev
theorem zGs{l:List Int}{s:MS}(h:s.ok)(b:s.1+(nub l).length<=1000000)(c:s.2.length+(nub l).length<=1000000):(addL s l).ok:=by rw[<-zzR];exact znm h b c
theorem zIv(l:List Int):(nub (l.filter inG)).length<=12:=by
 have:=Xn (zBk (l.filter inG)) (l₂:=(Wm 12).map λ(v:Nat)=>(v:Int)) λx b=>by have c:=of_decide_eq_true (WM.1 (zGF.1 b)).2;exact WF.2 ⟨x.toNat,WP.2 (by omega),by omega⟩
 simpa using this
def zoQ(l:List Sgn)(b exit:List Int)(s:St):List Int:=if s.op=5 then(zaz l b s.tgt).args.filter inG else if s.op=9 then exit else[]
def befT(l:List Sgn)(b exit:List Int)(s:St)(a:MS):MS:=addL (addL (delL a (znd s)) (zkQ s)) (zoQ l b exit s)
theorem zIJ{l}{at' exit}{s}{n}(c:exit.length<=n)(b:12<=n):(nub (zoQ l at' exit s)).length<=n:=by
 unfold zoQ;split
 .exact Wq (zIv _) b
 .split
  .exact Wq (zHr _) c
  .exact Wo _
theorem zLs{l:List Sgn}{at' exit:List Int}{s:St}{a:MS}{n:Nat}(h:a.ok)(p:(nub (zoQ l at' exit s)).length<=n)(m:a.1+zW s.e+n<=1000000)(o:a.2.length+zW s.e+n<=1000000):
  (befT l at' exit s a).ok/\(befT l at' exit s a).1<=a.1+zW s.e+n/\(befT l at' exit s a).2.length<=a.2.length+zW s.e+n:=by
 obtain⟨b,g,j⟩:=zBY (l:=znd s) h;have q:=zw2 s;have t:=zev (l:=zkQ s) (s:=delL a (znd s));have d:=znm (l:=zkQ s) b (by omega) (by omega);unfold befT;have k:=zyv (l:=zoQ l at' exit s) (s:=addL (delL a (znd s)) (zkQ s));have c:=zGs (l:=zoQ l at' exit s) d (by omega) (by omega);exact⟨c,by omega,by omega⟩
theorem zEl{l}{at' exit}{s}{a}(y):y∈(befT l at' exit s a).keys↔(y∈a.keys/\y∉znd s)\/y∈zkQ s\/y∈zoQ l at' exit s:=by unfold befT;rw[zlv,zlv,zD8,or_assoc]
def zey(b:Bool):List Int:=if b then(Wm 12).map (λ(v:Nat)=>(v:Int))else[]
theorem zBB{b}{v}(d:0<=v):v∈zey b↔b=true/\v<12:=by
 unfold zey;cases b
 .simp
 .simp only[if_true,WF,WP,true_and];constructor
  .rintro⟨n,c,rfl⟩;omega
  .intro h;exact⟨v.toNat,by omega,by omega⟩
theorem zBg{y}:∀{l:List Ex},y∈zd6 l↔∃e∈l,y∈occX e
 |[]=>by rw[zd6];simp
 |
  x::l=>by
  rw[zd6,WN,zBg];simp
theorem zJo{l}{at'}{ex}{s}{a}{v}(j:0<=v):decide (v∈(befT l at' (zey ex) s a).keys)=zuX l at' ex v s (decide (v∈a.keys)):=by
 have m:v∈zkQ s↔∃e∈s.e,v∈zfY e:=by
  unfold zkQ;rw[zsk,zBg];simp only[WY,false_or];constructor
  .rintro⟨e,g,h⟩;exact⟨e,g,(zmT e).2 h⟩
  .rintro⟨e,g,h⟩;exact⟨e,g,(zmT e).1 h⟩
 have k:v∈zoQ l at' (zey ex) s↔(if s.op=5 then decide (v<12)&&decide (v∈(zaz l at' s.tgt).args)else decide (s.op=9)&&ex&&decide (v<12))=true:=by
  unfold zoQ;split
  .rw[WM];unfold inG;simp only[decide_eq_true_eq,WJ];constructor
   .rintro⟨b,c⟩;exact⟨c.2,b⟩
   .rintro⟨b,c⟩;exact⟨c,j,b⟩
  .split
   .rename_i d;rw[zBB j];simp[d]
   .rename_i d;simp[d]
 have hd:v∈znd s↔(s.op=1\/s.op=3)/\s.var=v:=by
  unfold znd;split
  .rename_i h;simp[h,eq_comm]
  .rename_i h;simp[h]
 unfold zuX zEV;rw[Bool.eq_iff_iff,decide_eq_true_eq,zEl,m,k,hd];simp only[Bool.or_eq_true,W8,decide_eq_true_eq];by_cases h:(s.op=1\/s.op=3)/\s.var=v
 .rw[if_pos h];simp[h]
 .rw[if_neg h];simp[h]
theorem zsV{ps}{j}{v}(d:j<ps.length)(h:ps[j].1=v):((enL ps).map cm).set j [.int .i64 v,.bool true,(((enL ps).map cm).getD j []).getD 2 .undef]=(enL ps).map cm:=by
 have b:j<(enL ps).length:=by simpa [enL]using d
 have c:((enL ps).map cm).getD j []=[.int .i64 ps[j].1,.bool true,.int .i64 ps[j].2]:=by rw[zj (f:=cm) b];simp[enL,cm]
 rw[c];simp only[Wah,Wag,<-h];have:[Xf .i64 ps[j].1,.bool true,.int .i64 ps[j].2]=((enL ps).map cm)[j]'(by simpa using b):=by simp[enL,cm]
 rw[this];exact List.set_getElem_self _
def bfH(a:MS)(c:Int)(b:List TE):AH:=[(0,.row 3 ((setM a.1 a.2).map cm) 0),(1,.row 3 (tabM c b) 0)]
theorem zGG{s:MS}{l:List Int}{p:Int->Bool}{i:Nat}(h:i<l.length):addL s ((l.take (i+1)).filter p)=if p l[i]then add1 (addL s ((l.take i).filter p)) l[i]else addL s ((l.take i).filter p):=by
 rw[WU h,List.filter_append];unfold addL;rw[Xu];by_cases b:p l[i]=true
 .rw[if_pos b];simp[b]
 .rw[if_neg b];simp[b]
theorem QA{p:Prop}(h:p:=by(try simp only[evWB,Nat.reduceBEq,Nat.reduceAdd,Nat.reduceSub,Nat.reduceLeDiff,Nat.reduceLT,implies_true,zk,za,St.cells])<;>(repeat' with_reducible apply And.intro)<;>first|(first|exact zf|exact zl;done)|exact fin6):p:=h
theorem QH{d e g j p:Prop}(a0:d)(b:e)(c:g)(a3:j)(h:d->e->g->j->p:=by intro a0 b c a3;(try simp only[evWB,Nat.reduceBEq,Nat.reduceAdd,Nat.reduceSub,Nat.reduceLeDiff,Nat.reduceLT,implies_true,a0,b,c,a3])<;>(repeat' with_reducible apply And.intro)<;>first|(first|exact zf|exact zl;done)|exact fin6):p:=h a0 b c a3
theorem QI{d e g j k p:Prop}(a0:d)(b:e)(c:g)(a3:j)(a4:k)(h:d->e->g->j->k->p:=by intro a0 b c a3 a4;(try simp only[evWB,Nat.reduceBEq,Nat.reduceAdd,Nat.reduceSub,Nat.reduceLeDiff,Nat.reduceLT,implies_true,a0,b,c,a3,a4])<;>(repeat' with_reducible apply And.intro)<;>first|(first|exact zf|exact zl;done)|exact fin6):p:=h a0 b c a3 a4
theorem zr9(a:MS)(s:St)(l:List Sgn)(w exit:List Int)(c:Int)(es:List TE)(ht:TabS l w es)(ha:a.ok)(hsz:zW s.e<=100000)(n:Nat)(hn:n<=100000)(hx:exit.length<=n)(h12:12<=n)(hc:∀a,(zaz l w a).args.length<=9223372036854775807)(h1:a.1+zW s.e+n<=1000000)(h2:a.2.length+zW s.e+n<=1000000) :
  zad Z9 zcR [.mp 0 0,.agg s.cells,.mp 1 0,za exit] (bfH a c es) 2
  (λv H nx=>v=.tup []/\H=bfH (befT l w exit s a) c es/\nx=2):=by
 refine zab (fn_x zjL rfl ?_);refine dcU zeS.eq_1 ?_;have hB:=hBig;have J:=zoB s;have N:=zuR s hsz;have hu:=zw2 s;have hb:befT l w exit s a=addL (addL (delL a (znd s)) (zkQ s)) (zoQ l w exit s):=rfl;rw[hb];have T:zoQ l w exit s=if s.op=5 then(zaz l w s.tgt).args.filter inG else if s.op=9 then exit else[]:=rfl
 rw[T];have B:=zto ht s.tgt;have R:=hc s.tgt;generalize zaz l w s.tgt=O at B R⊢;have y:=ztV (a:=s.tgt) (es:=es) (i:=0);generalize znd s=x at J⊢;generalize zkQ s=t at N hu⊢;have U:=λi=>zBY (l:=x.take i) ha
 obtain⟨op,var,L,next,W,V,e,cs⟩:=s;simp only at h1 h2 hu B y⊢;unfold bfH;refine Gw2 @ud @ua ?_;intros;refine zc (zb J rfl) ?_;refine Gw1 @ua ?_;intros
 refine zd (λi:Nat=>([(0,.mp 0 0),(2,.mp 1 0),(3,za exit),(5,encP 8 (Xg ⟨op,var,L,next,W,V,e,cs⟩)),(17,za x),(18,.int .i64 x.length),(19,.int .i64 i)],[(0,.row 3 ((setM (delL a (x.take i)).1 (delL a (x.take i)).2).map cm) 0),(1,.row 3 (tabM c es) 0)])) 2
  (λi=>i<=x.length) (λi=>x.length-i) 0 (Wo _) (by rw[WI,show delL a []=a from rfl];exact(Xb [(0,0,0),(1,1,0)] [] rfl rfl rfl QA QA)) ?_
 rintro i hi wf;clear wf;refine dcU zdN.eq_1 ?_;by_cases h:i<x.length
 case pos=>
  have k:(x.map λn=>[Xf .i64 n]).getD i []=[.int .i64 x[i]]:=zj (f:=λn=>[Xf .i64 n]) h;have g:=zG8 (s:=a) h;obtain⟨P,Z,g3⟩:=U i;generalize delL a (x.take i)=b at P Z g3 g⊢;obtain⟨o,m⟩:=b;by_cases u:x[i]∈m.map (·.1)
  .obtain⟨j,S,I,F⟩:=zhy u;have D:del1 (o,m) x[i]=(o,m.eraseIdx j):=by unfold del1;rw[zuq P.keys S I]
   rw[D]at g
   (repeat first|simp(disch:=try exact dis1) only[evD,Xh,Xi,Xj,dT,k,za,zk,evM,zAk,F,mdTo,zHc]|with_reducible first|intro _|refine aJ ?_)
   exact⟨i+1,h,by omega,(Xb [(0,0,0),(1,1,0)] [] rfl rfl rfl (QH @zk @ua @ud g) (QH @zk @ua @ud g))⟩
  .have F:=zfy u;have D:del1 (o,m) x[i]=(o,m):=zBT u;rw[D]at g
   (repeat first|simp(disch:=try exact dis1) only[evD,Xh,Xi,Xj,dT,k,za,zk,evM,zAk,F,mdTo]|with_reducible first|intro _|refine aJ ?_)
   exact⟨i+1,h,by omega,(Xb [(0,0,0),(1,1,0)] [] rfl rfl rfl (QH @zk @ua @ud g) (QH @zk @ua @ud g))⟩
 obtain⟨P,Z,g3⟩:=U x.length;rw[Wy]at P Z g3;rw[show i=x.length by omega,Wy];generalize delL a x=b at P Z g3⊢;clear U J;refine Qa ?_;intros;refine dcU zdT.eq_1 ?_;refine Gw3 @uv @ua @ud ?_;intros;refine zc (zb N rfl) ?_;refine Gw1 @ua ?_;intros
 refine zd (λi:Nat=>([(0,.mp 0 0),(2,.mp 1 0),(3,za exit),(5,encP 8 (Xg ⟨op,var,L,next,W,V,e,cs⟩)),(27,za t),(28,.int .i64 t.length),(29,.int .i64 i)],[(0,.row 3 ((setM (addL b (t.take i)).1 (addL b (t.take i)).2).map cm) 0),(1,.row 3 (tabM c es) 0)])) 2
  (λi=>i<=t.length) (λi=>t.length-i) 0 (Wo _) (by rw[WI,show addL b []=b from rfl];exact(Xb [(0,0,0),(1,1,0)] [] rfl rfl rfl QA QA)) ?_
 rintro i hi wf;clear wf;refine dcU zdR.eq_1 ?_;by_cases h:i<t.length
 case pos=>
  have k:(t.map λn=>[Xf .i64 n]).getD i []=[.int .i64 t[i]]:=zj (f:=λn=>[Xf .i64 n]) h;have g:=zjZ (s:=b) h;have q:=zev (l:=t.take i) (s:=b);rw[WG]at q;have M:=znm (l:=t.take i) P (by rw[WG];omega) (by rw[WG];omega);generalize addL b (t.take i)=d at M q g⊢;obtain⟨o,m⟩:=d;have C:=M.top;simp only at q C;by_cases u:t[i]∈m.map (·.1)
  .obtain⟨j,S,I,F⟩:=zhy u;have D:add1 (o,m) t[i]=(o,m):=if_pos u;rw[D]at g;have K:=zsV S I;refine Gw6 @dT k @ua @zk F K ?_;intros;exact⟨i+1,h,by omega,(Xb [(0,0,0),(1,1,0)] [] rfl rfl rfl (QH @zk @ua @ud g) (QH @zk @ua @ud g))⟩
  .have F:=zfy u;have D:add1 (o,m) t[i]=(o+1,m++[(t[i],o)]):=if_neg u;rw[D]at g;refine Gw5 @dT k @ua @zk F ?_;intros;exact⟨i+1,h,by omega,(Xb [(0,0,0),(1,1,0)] [] rfl rfl rfl (QI @zk @ua @ud g @zgg) (QI @zk @ua @ud g @zgg))⟩
 have hb1:=zev (l:=t) (s:=b);have Q:=znm (l:=t) P (by omega) (by omega);rw[show i=t.length by omega,Wy];generalize addL b t=d at hb1 Q⊢;refine Qa ?_;intros;refine dcU zdQ.eq_1 ?_;by_cases h5:op=5
 .rw[if_pos h5];cases Y:atT es V
  case' none=>rw[Y]at B y;simp only at B y;subst B;(refine Gw7 @dT @dF @ub @uu y @ud @ua ?_;intros;try with_reducible exact trivial)
  case' some j=>rw[Y]at B y;simp only at B y;rw[B]at y;(refine Gw8 @dT @dF @ub @uu y @uw @ud @ua ?_;intros;try with_reducible exact trivial)
  case' none=>have X:zaS.args=[]:=rfl
  case' some j=>have X:O.args=O.args:=rfl
  case' none=>generalize hAA:zaS.args=A at X R⊢
  case' some j=>generalize hAA:O.args=A at X R⊢
  all_goals
   refine zd (λi:Nat=>([(0,.mp 0 0),(44,za A),(45,.int .i64 A.length),(46,.int .i64 i)],[(0,.row 3 ((setM (addL d ((A.take i).filter inG)).1 (addL d ((A.take i).filter inG)).2).map cm) 0),(1,.row 3 (tabM c es) 0)])) 2 (λi=>i<=A.length) (λi=>A.length-i) 0 (Wo _) (by rw[WI,W5,show addL d []=d from rfl];exact(Xb [(0,0,0),(1,1,0)] [] rfl rfl rfl (QH @zk @ua @ud X) (QH @zk @ua @ud X))) ?_;rintro i hi wf;clear wf;refine dcU zdM.eq_1 ?_;by_cases h:i<A.length
   case pos=>
    have k:(A.map λn=>[Xf .i64 n]).getD i []=[.int .i64 A[i]]:=zj (f:=λn=>[Xf .i64 n]) h;have g:=zGG (s:=d) (p:=inG) h;have hfl:=zIv (A.take i);have q:=zyv (l:=(A.take i).filter inG) (s:=d);have M:=zGs (l:=(A.take i).filter inG) Q (by omega) (by omega);generalize addL d ((A.take i).filter inG)=f at M q g⊢;by_cases hin0:0<=A[i];case neg=>rw[if_neg (by unfold inG;simp;omega)]at g;refine Gw4 @dT @dF k @ua ?_;intros;exact⟨i+1,h,by omega,(Xb [(0,0,0),(1,1,0)] [] rfl rfl rfl (QH @zk @ua @ud g) (QH @zk @ua @ud g))⟩
    by_cases hin:A[i]<12;case neg=>rw[if_neg (by unfold inG;simp;omega)]at g;refine Gw4 @dT @dF k @ua ?_;intros;exact⟨i+1,h,by omega,(Xb [(0,0,0),(1,1,0)] [] rfl rfl rfl (QH @zk @ua @ud g) (QH @zk @ua @ud g))⟩
    rw[if_pos (by unfold inG;simp;omega)]at g;obtain⟨o,m⟩:=f;have C:=M.top;simp only at q C;by_cases u:A[i]∈m.map (·.1)
    .obtain⟨j,S,I,F⟩:=zhy u;have D:add1 (o,m) A[i]=(o,m):=if_pos u;rw[D]at g;have K:=zsV S I;refine Gw6 @dT k @ua @zk F K ?_;intros;exact⟨i+1,h,by omega,(Xb [(0,0,0),(1,1,0)] [] rfl rfl rfl (QH @zk @ua @ud g) (QH @zk @ua @ud g))⟩
    .have F:=zfy u;have D:add1 (o,m) A[i]=(o+1,m++[(A[i],o)]):=if_neg u;rw[D]at g;refine Gw5 @dT k @ua @zk F ?_;intros;exact⟨i+1,h,by omega,(Xb [(0,0,0),(1,1,0)] [] rfl rfl rfl (QI @zk @ua @ud g @zgg) (QI @zk @ua @ud g @zgg))⟩
   rw[show i=A.length by omega,Wy];refine Gw2 @dF @zbs.eq_1 ?_;intros;exact⟨_,_,_,(Xb [(0,0,0),(1,1,0)] [] rfl rfl rfl QA QA),rfl,rfl,rfl⟩
 rw[if_neg h5];by_cases h9:op=9
 .rw[if_pos h9];refine Gw5 @dT @dF @ub @ud @ua ?_;intros;refine zd (λi:Nat=>([(0,.mp 0 0),(61,za exit),(62,.int .i64 exit.length),(63,.int .i64 i)],[(0,.row 3 ((setM (addL d (exit.take i)).1 (addL d (exit.take i)).2).map cm) 0),(1,.row 3 (tabM c es) 0)])) 2 (λi=>i<=exit.length) (λi=>exit.length-i) 0 (Wo _) (by rw[WI,show addL d []=d from rfl];exact(Xb [(0,0,0),(1,1,0)] [] rfl rfl rfl QA QA)) ?_;rintro i hi wf;clear wf;refine dcU zdW.eq_1 ?_;by_cases h:i<exit.length
  case pos=>
   have k:(exit.map λn=>[Xf .i64 n]).getD i []=[.int .i64 exit[i]]:=zj (f:=λn=>[Xf .i64 n]) h;have g:=zjZ (s:=d) h;have q:=zev (l:=exit.take i) (s:=d);rw[WG]at q;have M:=znm (l:=exit.take i) Q (by rw[WG];omega) (by rw[WG];omega);generalize addL d (exit.take i)=f at M q g⊢;obtain⟨o,m⟩:=f;have C:=M.top;simp only at q C;by_cases u:exit[i]∈m.map (·.1)
   .obtain⟨j,S,I,F⟩:=zhy u;have D:add1 (o,m) exit[i]=(o,m):=if_pos u;rw[D]at g;have K:=zsV S I;refine Gw6 @dT k @ua @zk F K ?_;intros;exact⟨i+1,h,by omega,(Xb [(0,0,0),(1,1,0)] [] rfl rfl rfl (QH @zk @ua @ud g) (QH @zk @ua @ud g))⟩
   .have F:=zfy u;have D:add1 (o,m) exit[i]=(o+1,m++[(exit[i],o)]):=if_neg u;rw[D]at g;refine Gw5 @dT k @ua @zk F ?_;intros;exact⟨i+1,h,by omega,(Xb [(0,0,0),(1,1,0)] [] rfl rfl rfl (QI @zk @ua @ud g @zgg) (QI @zk @ua @ud g @zgg))⟩
  rw[show i=exit.length by omega,Wy];refine Gw2 @dF @zbs.eq_1 ?_;intros;exact⟨_,_,_,(Xb [(0,0,0),(1,1,0)] [] rfl rfl rfl QA QA),rfl,rfl,rfl⟩
 .rw[if_neg h9];refine Gw6 @dT @dF @ub @ud @ua @zbs.eq_1 ?_;intros;exact⟨_,_,_,(Xb [(0,0,0),(1,1,0)] [] rfl rfl rfl QA QA),rfl,rfl,rfl⟩
def mps(F n:Nat):List (List AV):=(Wm n).map λi=>[.mp F (i+1)]
theorem zyU{F n}:(mps F n).length=n:=by simp[mps]
theorem zz0{F n i}(h:i<n):(mps F n).getD i []=[.mp F (i+1)]:=by simp[mps,List.getD_eq_getElem?_getD,h]
theorem zEi{H HH}{σ}{D}{F F' n}(h:∀i,σ F' (i+1)=some (F,i+1,0)):RowV H HH σ D (mps F n) (mps F' n):=by
 refine⟨by simp[mps],λi g b=>?_⟩;unfold mps at b⊢;simp only[W9,Waa]at b⊢;obtain⟨k,e,rfl⟩:=b;refine⟨_,⟨k,e,rfl⟩,rfl,λj x y c d=>?_⟩
 cases j with
 |succ j=>cases c
 |zero=>cases c;cases d;exact .mp _ _ _ _ (h k)
theorem zIK{s}{l}{v}:addL s (l++[v])=add1 (addL s l) v:=by unfold addL;rw[Xu];rfl
def atH(n:Nat)(S:Nat->MS):AH:=[(0,.row 1 (mps 1 n) 0),(1,famS n S)]
def outY(S:Nat->MS)(E:List Nat)(y:Int):Prop:=∃t∈E,y∈(S t).keys
theorem Qv{p:Prop}(h:p:=by(try simp only[evWB,Nat.reduceBEq,Nat.reduceAdd,Nat.reduceSub,Nat.reduceLeDiff,Nat.reduceLT,implies_true,zk,famS,za,addL,List.map_nil,List.foldl_nil])<;>exact fin8):p:=h
theorem ui:type_of% @famS.eq_1:=@famS.eq_1
theorem ztR(b:Bl)(hcs:∀s∈b.stmts,s.cases.length<=100000000)(n:Nat)(S:Nat->MS)(E:List Nat)(hE:zaO b.stmts=E.map λ(t:Nat)=>(t:Int))(hEn:∀t∈E,t<n)(hEl:E.length<=1000)(hnn:n<=1000)(U:Nat)(hEU:E.length*U<=900000)(hS:∀i,i<n->(S i).ok/\(S i).2.length<=U):
  zad Z9 ziD [.agg b.cells,.own 0 0 0 0 n] (atH n S) 2
  (λv H nx=>v=.mp 2 0/\nx=3/\∃a:MS,H=atH n S++[(2,.row 3 ((setM a.1 a.2).map cm) 0)]/\a.ok/\a.1<=((E.length*U:Nat):Int)/\a.2.length<=E.length*U/\∀y,y∈a.keys↔outY S E y):=by
 refine zab (fn_x ztw rfl ?_);refine dcU zmG.eq_1 ?_;have hB:=hBig;have D:=ziI b hcs;rw[hE]at D;obtain⟨bad,bst⟩:=b;simp only[Xe,atH]at D⊢;refine Gw4 @ub @zu @ui @ua ?_;intros;refine zc (zb D rfl) ?_;refine Gw2 @ua @m9M ?_;intros;generalize hts:E.map (λ(t:Nat)=>(t:Int))=N at D⊢
 refine zd (λs:Nat×MS=>([(1,.own 0 0 0 0 n),(5,.mp 2 0),(11,za N),(12,.int .i64 E.length),(13,.int .i64 s.1)],[(0,.row 1 (mps 1 n) 0),(1,famS n S),(2,.row 3 ((setM s.2.1 s.2.2).map cm) 0)])) 3
  (λs=>s.1<=E.length/\s.2.ok/\s.2.1<=((s.1*U:Nat):Int)/\s.2.2.length<=s.1*U/\∀y,y∈s.2.keys↔outY S (E.take s.1) y) (λs=>E.length-s.1) (0,(0,[])) ⟨Wo _,zzE,by simp,by simp,λy=>by simp[MS.keys,outY]⟩ (Xb [(0,0,0),(1,1,0),(2,2,0)] [] rfl rfl rfl (Gin8_3 @zk @ui @ua) (Gin8_3 @zk @ui @ua)) ?_
 rintro⟨j,s⟩ ⟨hj,w,Y,hs2,C⟩ wf;simp only at hj w Y hs2 C;clear wf;refine dcU zjr.eq_1 ?_;by_cases u:j<E.length
 case neg=>
  obtain rfl:j=E.length:=by omega
  rw[Wy]at C;refine Qa ?_;intros;unfold zjn;refine Gw1 @zm5.eq_1 ?_;intros;exact⟨_,_,_,(Xb [(0,0,0),(1,1,0),(2,2,0)] [] rfl rfl rfl (Gin8_2 @zk @ui) (Gin8_2 @zk @ui)),rfl,rfl,s,rfl,w,Y,hs2,C⟩
 have ge:(N.map λn=>[Xf .i64 n]).getD j []=[.int .i64 (E[j]:Int)]:=by rw[<-hts,WA,zj (f:=_) u];rfl
 have A:=hEn _ (Wx u)
 have R:∀y,outY S (E.take (j+1)) y↔outY S (E.take j) y\/y∈(S E[j]).keys:=λy=>by
  unfold outY;rw[WU u];simp only[WN,WO];constructor
  .rintro⟨t,h|rfl,h2⟩
   .exact .inl ⟨t,h,h2⟩
   .exact .inr h2
  .rintro(⟨t,h,h2⟩|h)
   .exact⟨t,.inl h,h2⟩
   .exact⟨_,.inr rfl,h⟩
 generalize E[j]=t at ge A R;obtain⟨hSt,hSU⟩:=hS t A;have hlts:j<N.length:=by rw[<-hts,WE];exact u
 have hjU:(j+1)*U<=900000:=Wq (Wan U (show j+1<=E.length by omega)) hEU;rw[WZ]at hjU;have hg:∀T:AH,AH.get ((0,.row 1 (mps 1 n) 0)::(1,famS n S)::T) 1 (t+1)=some (.row 3 ((setM (S t).1 (S t).2).map cm) 0):=λT=>by unfold AH.get famS;simp only[AH.look,zfc,cond_true,cond_false,show Xr 0 1=false from rfl,show Xr 1 1=true from rfl,W0,AObj.part,zrn A,Ww]
 have hg2:=hg [];unfold famS at hg;obtain⟨c,hc⟩:∃c,(S t).1=c:=⟨_,rfl⟩;obtain⟨ps,o⟩:∃ps,(S t).2=ps:=⟨_,rfl⟩;have m:SetS c ps:=by rw[<-hc,<-o];exact hSt
 have hct:∀y,y∈(S t).keys↔y∈ps.map (·.1):=λy=>by rw[<-o];rfl
 rw[o]at hSU
 (repeat first|simp(disch:=try exact dis1) only[evD,Xh,Xi,Xj,dT,ge,za,Wab,zz0 A,zyU,famS,evM,zrn A,hc,o,zk,zBV]|with_reducible first|intro _|refine aJ ?_)
 refine zd (λsel:List (Int×Int)=>([(1,.own 0 0 0 0 n),(5,.mp 2 0),(11,za N),(12,.int .i64 E.length),(13,.int .i64 j),(21,.it 3)],[(0,.row 1 (mps 1 n) 0),(1,famS n S),(2,.row 3 ((setM (addL s (sel.map (·.1))).1 (addL s (sel.map (·.1))).2).map cm) 0),(3,.row 1 ([.mp 1 (t+1)]::[.int .i64 c]::[.int .i64 c]::sel.map λp=>[.int .i64 p.2]) 0)])) 4
  (λsel=>sel.Nodup/\∀p∈sel,p∈ps) (λsel=>ps.length-sel.length) [] ⟨Xy,λp h=>by cases h⟩ (Xb [(0,0,0),(1,1,0),(2,2,0),(3,3,0)] [] rfl rfl rfl Qv Qv) ?_
 rintro sel ⟨B,k⟩ wf;clear wf;have hpn:ps.Nodup:=zpv m.keys;have hsl:sel.length<=ps.length:=Xn B k;have I:=zev (l:=sel.map (·.1)) (s:=s);rw[WE]at I;have F:=znm (l:=sel.map (·.1)) w (by rw[WE];omega) (by rw[WE];omega);have W:=λy=>zlv (y:=y) (l:=sel.map (·.1)) (s:=s)
 have hsn:=λv=>zIK (s:=s) (l:=sel.map (·.1)) (v:=v)
 generalize addL s (sel.map (·.1))=d at I F W hsn⊢;refine dcU zjd.eq_1 ?_;simp only[famS];refine Gw0 ?_;intros;refine zEF (ps:=ps) (sel:=sel) (c:=c) rfl (by rw[hg];rw[hc,o]) (by omega) m.lt m.borns k (λP=>?_) (λp hp X=>?_)
 .have J:=zEq B hpn k P;refine Gw0 ?_;intros;unfold zi9;refine Gw0 ?_;intros;refine⟨(j+1,d),⟨u,F,by simp only;rw[WZ];omega,by simp only;rw[WZ];omega,λy=>?_⟩,by simp only;omega,(Xb [(0,0,0),(1,1,0),(2,2,0)] [] rfl rfl rfl (Gin8_3 @zk @ui @ua) (Gin8_3 @zk @ui @ua))⟩;simp only;rw[W,C,R,hct];have:y∈sel.map (·.1)↔y∈ps.map (·.1):=(J.map _).mem_iff;rw[this]
 .have Q:=λ(H:AH) (nx:Nat) (hr) (M)=>zEm (H:=H) (nx:=nx) (r:=3) (rm:=1) (qm:=t+1) (c:=c) (since:=c) (sel:=sel) (p:=p) hr M m.borns hp
  refine Gw0 ?_;intros;rw[Q _ _ rfl (by rw[hg];rw[hc,o])];have Z:=hsn p.1;have htop:=F.top;obtain⟨O,qs⟩:=d;simp only at htop I
  have g:∀(K:Kn)(H:AH)(nx:Nat),Ent 2 K H nx [(1,.own 0 0 0 0 n),(5,.mp 2 0),(11,za N),(12,.int .i64 E.length),(13,.int .i64 j),(21,.it 3)] [(0,.row 1 (mps 1 n) 0),(1,famS n S),(2,.row 3 ((setM (addL s ((sel++[p]).map (·.1))).1 (addL s ((sel++[p]).map (·.1))).2).map cm) 0),(3,.row 1 ([.mp 1 (t+1)]::[.int .i64 c]::[.int .i64 c]::(sel++[p]).map λp=>[.int .i64 p.2]) 0)] 4 ->
    ∃L:List (Int×Int),(L.Nodup/\∀p∈L,p∈ps)/\ps.length-L.length<ps.length-sel.length/\Ent 2 K H nx [(1,.own 0 0 0 0 n),(5,.mp 2 0),(11,za N),(12,.int .i64 E.length),(13,.int .i64 j),(21,.it 3)] [(0,.row 1 (mps 1 n) 0),(1,famS n S),(2,.row 3 ((setM (addL s (L.map (·.1))).1 (addL s (L.map (·.1))).2).map cm) 0),(3,.row 1 ([.mp 1 (t+1)]::[.int .i64 c]::[.int .i64 c]::L.map λp=>[.int .i64 p.2]) 0)] 4:=λK H nx hE=>by
   refine⟨sel++[p],⟨?_,?_⟩,?_,hE⟩
   .rw[List.nodup_append];exact⟨B,by simp,λa q b hb e=>X (by rw[WO]at hb;rw[<-hb,<-e];exact q)⟩
   .intro a q;rcases WN.1 q with q|q
    .exact k a q
    .rw[WO]at q;rw[q];exact hp
   .have:sel.length<ps.length:=by
     have:=Xn (WL.2 ⟨X,B⟩) (show ∀a∈p::sel,a∈ps from λa q=>by
      rcases Wn.1 q with rfl|q
      .exact hp
      .exact k a q)
     simp only[Wf]at this;omega
    rw[Wi,Wj];omega
  have V:(sel++[p]).map (λx:Int×Int=>x.1)=sel.map (·.1)++[p.1]:=by simp
  rw[V,Z]at g;by_cases M:p.1∈qs.map (·.1)
  .obtain⟨i,hi,hie,hf⟩:=zhy M;rw[show add1 (O,qs) p.1=(O,qs)from if_pos M]at g;have hov:=zsV hi hie;refine Gw3 @zk hf hov ?_;intros;exact g _ _ _ (Xb [(0,0,0),(1,1,0),(2,2,0),(3,3,0)] [] rfl rfl rfl (Gin8_6 @zk @ui @ua @m9P @m9C @m9N) (Gin8_6 @zk @ui @ua @m9P @m9C @m9N))
  .have hf:=zfy M;rw[show add1 (O,qs) p.1=(O+1,qs++[(p.1,O)])from if_neg M]at g;refine Gw2 @zk hf ?_;intros;exact g _ _ _ (Xb [(0,0,0),(1,1,0),(2,2,0),(3,3,0)] [] rfl rfl rfl (Gin8_7 @zk @ui @ua @zgg @m9P @m9C @m9N) (Gin8_7 @zk @ui @ua @zgg @m9P @m9C @m9N))
def noSt:St:=⟨0,0,0,0,0,0,[],[]⟩
def zIN(b:List St):Nat->Option (List AV×Nat)
 |0=>none
 |i+1=>some ([.int .i64 (i:Int),.agg (b.getD i noSt).cells],i)
def zIj(b:List St):List AV:=[.iptr 1 λj=>[encL 8 Xg b].getD j .undef]
theorem zGB(s:St):AV.Below 0 (.agg s.cells):=by
 obtain⟨op,var,b,next,d,g,e,h⟩:=s;refine .agg _ λa c=>?_
 simp only[Xg,Wn,WY,or_false]at c;rcases c with rfl|rfl|rfl|rfl|rfl|rfl|rfl|rfl
 all_goals first|exact .int _ _|exact .sl _ _ _
theorem zqw(b:List St)(o:b.length<=1000000):ItOk Z9 zay (zIj b) [] 0 (zIN b) (λ_=>True) b.length (λs _ _=>match s with|some s=>zIN b s=none|none=>True):=by
 refine zKa zft rfl rfl λE e=>?_
 unfold zck zIj;conv in Z8 _ _=>reduce
 have n:=hBig;refine Xq (Xl ?_);refine Gw0 ?_;intros;rw[zhZ];refine Xz (WpA.loop (λx:Nat=>([(0,.fn (.yield E.lp) []),(1,.iptr 1 λj=>[encL 8 Xg b].getD j .undef),(3,.int .i64 ((x:Int)-1))],[],some x)) 0 (λx=>x<=b.length) (λx=>x) b.length (Wt _) ?_ rfl ?_)
 .rw[e];exact(Xa [] [] rfl Gin1_0 Gin1_0)
 .intro x g wf;clear wf;refine dcU zbJ.eq_1 ?_;simp only;refine Xq (Xq (Xl ?_));refine Gw0 ?_;intros;rw[zhZ]
  cases x with
  |zero=>refine Xs (t:=false) (by show Xo (decide _)=_;simp) (λh=>by cases h) (λ_=>Xl ?_);refine Gw0 ?_;intros;rfl
  |succ i=>
   refine Xs (t:=true) (by show Xo (decide _)=_;simp<;>omega) (λ_=>Xl ?_) (λh=>by cases h);refine Gw0 ?_;intros;rw[zhZ];have k:((((i+1:Nat):Int))-1)=(i:Int):=by omega
   have d:i<b.length:=by omega
   have m:(b.map Xg).getD i []=(b.getD i noSt).cells:=by rw[zj (f:=Xg) d];simp[Wu,d]
   simp only[k];refine Xq (Xz (Xq (WpA.region ?_)));refine WpAL.pre (pre:=[_,_,_,_,_,_]) rfl ?_;have c:∀s:St,[s.cells.getD 0 .undef,s.cells.getD 1 .undef,s.cells.getD 2 .undef,s.cells.getD 3 .undef,s.cells.getD 4 .undef,s.cells.getD 5 .undef,s.cells.getD 6 .undef,s.cells.getD 7 .undef]=s.cells:=XA;refine Gw5 @ub m c @uc @zrv ?_;intros;refine WpAL.yield (s':=i) rfl rfl ?_ (λ_=>WpAL.pre (pre:=[_]) rfl ?_) (WpAL.pre (pre:=[_]) rfl ?_)
   .intro x g;rcases Wn.1 g with h|h
    .rw[h];exact .int _ _
    .rcases Wn.1 h with h|h
     .rw[h];exact zGB _
     .cases h
   ·(refine Gw1 @zrv ?_;intros);refine WpAL.nil ?_;rw[zhZ];refine Xs (t:=false) rfl (λh=>by cases h) (λ_=>Xl ?_);refine Gw0 ?_;intros;rw[zyR,zhZ];refine Xl ?_;refine Gw0 ?_;intros;rw[zAZ];refine⟨i,by omega,by omega,?_,rfl⟩;rw[e];exact(Xa [] [] rfl Gin1_0 Gin1_0)
   ·(refine Gw1 @zrv ?_;intros);refine WpAL.nil ?_;rw[zhZ];refine Xs (t:=true) rfl (λ_=>Xl ?_) (λh=>by cases h);refine Gw0 ?_;intros;trivial
theorem zFQ{l}{at'}{ex}{v}{s}{b b'}(h:b=true->b'=true):zuX l at' ex v s b=true->zuX l at' ex v s b'=true:=by
 unfold zuX;simp only[Bool.or_eq_true];rintro(c|c)
 .left;split at c
  .cases c
  .rename_i d;rw[if_neg d];exact h c
 .exact .inr c
theorem zAT{l}{at'}{ex}{v}:∀{ss:List St}{b c:Bool},(b=true->c=true)->befV l at' ex v ss b=true->befV l at' ex v ss c=true
 |[],_,_,h=>h
 |s::ss,b,c,h=>zFQ (zAT (ss:=ss) h)
theorem zHU{g}{o o'}{b}(h:leB o o'):outV g o b=true->outV g o' b=true:=by unfold outV;simp only[W8];rintro⟨t,c,d⟩;exact⟨t,c,h t d⟩
theorem zp7(g)(l)(at')(ex)(v)(n):MonoF n (zk6 g l at' ex v):=⟨λo c b _ h=>zAT (zHU h)⟩
def zh1(n:Nat)(S:Nat->MS)(y:Int):List Bool:=(Wm n).map λb=>decide (y∈(S b).keys)
theorem zBO{n}{S}{y}:(zh1 n S y).length=n:=by simp[zh1]
theorem zmk{n}{S}{y}{b}(c:b<n):(zh1 n S y).getD b false=decide (y∈(S b).keys):=by simp[zh1,Wu,c]
theorem zGl{n}{S}{y}{k}{a}(d:k<n):zh1 n (updF S k a) y=(zh1 n S y).set k (decide (y∈a.keys)):=by
 refine Wao (by simp[zh1]) λi b c=>?_
 rw[Wak];simp only[zh1,List.getElem_map,WR,updF];by_cases h:i=k
 .subst h;rw[if_pos rfl,if_pos rfl]
 .rw[if_neg h,if_neg (λe=>h e.symm)]
def ztm(l:List Sgn)(b exit:List Int)(c:List St)(a:MS):MS:=c.foldr (befT l b exit) a
theorem zA5{l}{at'}{ex}{v}(c:0<=v):∀{b:List St}{a:MS},decide (v∈(ztm l at' (zey ex) b a).keys)=befV l at' ex v b (decide (v∈a.keys))
 |[],_=>rfl
 |
  s::b,a=>by
  show decide (v∈(befT l at' (zey ex) s (ztm l at' (zey ex) b a)).keys)=zuX l at' ex v s (befV l at' ex v b (decide (v∈a.keys)));rw[zJo c,zA5 c]
structure UnivC(U:List Int)(g:G)(l:List Sgn)(at':List Int)(exit:List Int)(n:Nat):Prop where
 uses:∀b∈g.blocks,∀s∈b.stmts,∀x∈zkQ s,x∈U
 more:∀b∈g.blocks,∀s∈b.stmts,∀x∈zoQ l at' exit s,x∈U
 pos:∀x∈U,0<=x
 len:U.length<=50000
 mlen:∀b∈g.blocks,∀s∈b.stmts,(nub (zoQ l at' exit s)).length<=n
 nlen:n<=1000
structure InU(U:List Int)(s:MS):Prop where
 ok:s.ok
 sub:∀x∈s.keys,x∈U
theorem InU.len{U}{s}(h:InU U s):s.2.length<=U.length:=by have:=Xn h.ok.keys h.sub;simpa using this
theorem zEx{U}{l}{at' exit}{n}(o:n<=1000):∀{ss:List St}{a:MS},(∀s∈ss,(∀x∈zkQ s,x∈U)/\(∀x∈zoQ l at' exit s,x∈U)/\(nub (zoQ l at' exit s)).length<=n/\zW s.e<=300)->InU U a->a.1+ss.length*1300<=900000->a.2.length+ss.length*1300<=900000 ->
  InU U (ztm l at' exit ss a)/\(ztm l at' exit ss a).1<=a.1+ss.length*1300/\(ztm l at' exit ss a).2.length<=a.2.length+ss.length*1300
 |[],a,_,h,_,_=>⟨h,by show a.1<=_;simp,by show a.2.length<=_;simp⟩
 |
  s::ss,a,hs,h,h1,h2=>by
  rw[Wf]at h1 h2;have k:a.1+(ss.length:Int)*1300<=898700:=by push_cast at h1;rw[Int.add_mul]at h1;omega
  have m:a.2.length+ss.length*1300<=898700:=by have e:(ss.length+1)*1300=ss.length*1300+1300:=WZ _ _;rw[e,<-Nat.add_assoc]at h2;exact Nat.le_of_add_le_add_right (b:=1300) h2
  have d:a.1+(ss.length:Int)*1300<=900000:=Int.le_trans k (by decide);have g:a.2.length+ss.length*1300<=900000:=Wq m (by decide);obtain⟨p,q,t,w⟩:=hs s (by simp);obtain⟨j,u,v⟩:=zEx o (ss:=ss) (a:=a) (λx c=>hs x (by simp[c])) h d g;have e:=zLs (l:=l) (at':=at') (exit:=exit) (s:=s) j.ok t (by omega) (by omega);show InU U (befT l at' exit s (ztm l at' exit ss a))/\(befT l at' exit s (ztm l at' exit ss a)).1<=_/\(befT l at' exit s (ztm l at' exit ss a)).2.length<=_;refine⟨⟨e.1,λx c=>?_⟩,by rw[Wf];omega,by rw[Wf];omega⟩;rcases(zEl x).1 c with ⟨c,_⟩|c|c
  .exact j.sub x c
  .exact p x c
  .exact q x c
structure LivS(U:List Int)(g:G)(l:List Sgn)(at':List Int)(ex:Bool)(S:Nat->MS):Prop where
 inU:∀b,b<g.blocks.length->InU U (S b)
 up:∀y,0<=y->upB g.blocks.length (zk6 g l at' ex y) (zh1 g.blocks.length S y)
 low:∀y,0<=y->leB (zh1 g.blocks.length S y) (zii g.blocks.length (zk6 g l at' ex y))
def muS(n m:Nat)(S:Nat->MS):Nat:=((Wm n).map λb=>m-(S b).2.length).sum
theorem zIB:∀{n:Nat}{f f':Nat->Nat}{k:Nat},k<n->(∀i,i≠k->f' i=f i)->f' k<f k->((Wm n).map f').sum<((Wm n).map f).sum
 |0,f,f',k,h,_,_=>by omega
 |
  n+1,f,f',k,h,h1,h2=>by
  rw[List.range_succ,Wh,Wh,XB,XB];simp only[We,Wg,List.sum_cons,List.sum_nil];by_cases b:k=n
  .subst b;have:(Wm k).map f'=(Wm k).map f:=WK λi c=>h1 i (by have:=WP.1 c;omega)
   rw[this];omega
  .have:=zIB (n:=n) (f:=f) (f':=f') (k:=k) (by omega) h1 h2;have:=h1 n (λe=>b e.symm);omega
theorem zHF(U)(g)(l)(at')(ex):LivS U g l at' ex (λ_=>(0,[])):=by
 have d:∀y i,(zh1 g.blocks.length (λ_=>((0:Int),([]:List (Int×Int)))) y).getD i false=false:=λy i=>by
  by_cases c:i<g.blocks.length
  .rw[zmk c];simp[MS.keys]
  .simp[Wu,zh1,c]
 exact⟨λb _=>⟨zzE,λx e=>by cases e⟩,λy _=>⟨zBO,λb _ h=>by rw[d]at h;cases h⟩,λy _ i h=>by rw[d]at h;cases h⟩
theorem zJX{U}{g}{l}{at'}{ex}{S}(h:LivS U g l at' ex S){k}(j:k<g.blocks.length){a}(t:InU U a)(d:∀y,0<=y->decide (y∈a.keys)=zk6 g l at' ex y (zh1 g.blocks.length S y) k)(m:∀x∈U,0<=x):
  (a.2.length=(S k).2.length->∀y,0<=y->zk6 g l at' ex y (zh1 g.blocks.length S y) k=(zh1 g.blocks.length S y).getD k false) /\
  (a.2.length≠(S k).2.length->LivS U g l at' ex (updF S k a)/\muS g.blocks.length U.length (updF S k a)<muS g.blocks.length U.length S):=by
 have e:∀y∈(S k).keys,y∈a.keys:=λy c=>by have o:=m y ((h.inU k j).sub y c);have:=(h.up y o).2 k j (by rw[zmk j];exact decide_eq_true c);rw[<-d y o]at this;exact of_decide_eq_true this
 have w:(S k).2.length<=a.2.length:=by have:=Xn (h.inU k j).ok.keys e;simpa [MS.keys]using this
 constructor
 .intro C y c;rw[<-d y c,zmk j];refine decide_eq_decide.2 ⟨λs=>?_,e y⟩;refine Xk λA=>?_
  have:=Xn (WL.2 ⟨A,(h.inU k j).ok.keys⟩) (show ∀x∈y::(S k).keys,x∈a.keys from λx q=>by
   rcases Wn.1 q with rfl|q
   .exact s
   .exact e x q)
  simp only[MS.keys,Wf,WE]at this;omega
 .intro B;have n:∀y,0<=y->zh1 g.blocks.length (updF S k a) y=zk5 (zk6 g l at' ex y) (zh1 g.blocks.length S y) k:=λy c=>by rw[zGl j,d y c];rfl
  refine⟨⟨λb p=>?_,λy c=>?_,λy c=>?_⟩,?_⟩
  .unfold updF;split
   .exact t
   .exact h.inU b p
  .rw[n y c];exact zzc (zp7 _ _ _ _ _ _) (h.up y c) j
  .rw[n y c];refine zBX (zp7 _ _ _ _ _ _) (h.up y c) j (λb p u=>?_) (h.low y c);rw[<-(zBD (zp7 g l at' ex y g.blocks.length)).2 b p];exact u
  .refine zIB j (λi v=>by simp only[updF,if_neg v]) ?_;have:=t.len;simp only[updF,if_true];omega
theorem zJM{U}{g}{l}{at'}{ex}{S}(h:LivS U g l at' ex S)(c:∀k,k<g.blocks.length->∀y,0<=y->zk6 g l at' ex y (zh1 g.blocks.length S y) k=(zh1 g.blocks.length S y).getD k false):
  ∀y,0<=y->∀b,b<g.blocks.length->decide (y∈(S b).keys)=(zii g.blocks.length (zk6 g l at' ex y)).getD b false:=λy d b e=>by
 rw[<-zGe (zp7 g l at' ex y g.blocks.length) zBO (λk j=>c k j y d) (h.low y d),zmk e]
def mpsI(F n i:Nat):List (List AV):=(Wm n).map λj=>if j<i then[.mp F (j+1)]else[.nilmp]
def zs1(i:Nat):Nat->List MC:=λj=>if j<i then setM 0 []else[]
def famI(n i:Nat):AObj:=.fam 3 (fi cm n (zs1 i) (λ_=>0))
theorem zJe{F n i}:(mpsI F n i).length=n:=by simp[mpsI]
theorem zGt{F n}:mpsI F n n=mps F n:=by
 unfold mpsI mps;refine WK λj b=>?_
 rw[if_pos (WP.1 b)]
theorem zF3{F n}:Wac n [AV.nilmp]=mpsI F n 0:=by
 apply Wao
 .simp[mpsI]
 .intro k b c;simp[mpsI]
theorem zHG{n}:famI n n=famS n (λ_=>(0,[])):=by
 unfold famI famS fi;congr 1;refine WK λj b=>?_
 unfold zs1;rw[if_pos (WP.1 b)]
theorem beqN{a b}(h:a≠b):Xr a b=false:=by
 cases c:Xr a b with
 |false=>rfl
 |true=>exact absurd (Nat.eq_of_beq_eq_true c) h
theorem zEo{t}{F i k a}(b:t.at F=some (F,0)):fsig t [(F,i+1,a)] F (k+1)=if k=i then some (a,0,0)else some (F,k+1,0):=by
 unfold fsig;simp only[fat];by_cases h:k=i
 .subst h;rw[if_pos rfl,XC,XC];rfl
 .rw[if_neg h,beqN (show i+1≠k+1 by omega),Wv];simp only[cond_false];unfold Tab.sig;rw[b]
theorem zGa{H HH}{σ}{D}{F n i a}(p:∀k,σ F (k+1)=if k=i then some (a,0,0)else some (F,k+1,0)):
  RowV H HH σ D ((mpsI F n i).set i [.mp a 0]) (mpsI F n (i+1)):=by
 refine⟨by simp[mpsI],λj s o=>?_⟩;unfold mpsI at o⊢;simp only[W9,Waa]at o;obtain⟨k,q,rfl⟩:=o;obtain⟨c,h⟩:=Wad.1 q;simp only[Wap]at c;rw[WR]at h;subst h;by_cases b:j=i
 .subst b;rw[if_pos (W3 j)];refine⟨[.mp a 0],by simp[c],rfl,λz x y d g=>?_⟩
  cases z with
  |succ z=>cases d
  |zero=>cases d;cases g;exact .mp _ _ _ _ (by rw[p,if_pos rfl])
 .by_cases m:j<i
  .rw[if_pos (by omega)];refine⟨[.mp F (j+1)],?_,rfl,λz x y d g=>?_⟩
   .rw[WV (λe=>b e.symm)];simp[c,m]
   .cases z with
    |succ z=>cases d
    |zero=>cases d;cases g;exact .mp _ _ _ _ (by rw[p,if_neg b])
  .rw[if_neg (by omega)];refine⟨[.nilmp],?_,rfl,λz x y d g=>?_⟩
   .rw[WV (λe=>b e.symm)];simp[c,m]
   .cases z with
    |succ z=>cases d
    |zero=>cases d;cases g;exact .nilmp _
theorem zGw{H:AH}{F n i k:Nat}(h:H.look F=some (famI n i))(b:k<n):H.get F (k+1)=some (.row 3 ((zs1 i k).map cm) 0):=by unfold AH.get;rw[h];simp only[W0,famI,AObj.part,zrn b,Ww]
theorem zJ7{H h:AH}{σ:Nat->Nat->Option (Nat×Nat×Nat)}{F n i a:Nat}(j:∀k,σ F (k+1)=if k=i then some (a,0,0)else some (F,k+1,0))(m:H.look F=some (famI n i))(o:H.get a 0=some (.row 3 [[.int .i64 0,.undef,.undef]] 0))(k:Nat)(p:List (List AV)×Nat)(g:(fi cm n (zs1 (i+1)) (λ_=>0))[k]?=some p) :
  match σ F (k+1)with
   |some (r,q,d)=>∃b,H.get r q=some (.row 3 b (p.2+d))/\RowV H h σ noQ b p.1
   |none=>p=([],0):=by
 rw[zwo]at g;split at g;case isFalse=>cases g
 rename_i s;cases g;rw[j];by_cases c:k=i
 .subst c;rw[if_pos rfl];refine⟨_,o,?_⟩;have:zs1 (k+1) k=setM 0 []:=if_pos (W3 k);rw[this];exact Xt (by simp only[zjy,zlP,and_true];rfl)
 .rw[if_neg c];refine⟨_,zGw m s,?_⟩
  have:zs1 (i+1) k=zs1 i k:=by
   unfold zs1;by_cases e:k<i
   .rw[if_pos e,if_pos (by omega)]
   .rw[if_neg e,if_neg (by omega)]
  rw[this];exact Xt (zy ziC)
theorem zGC{H h:AH}{σ:Nat->Nat->Option (Nat×Nat×Nat)}{F n i a:Nat}{S:Nat->MS}{b:MS}(m:∀k,σ F (k+1)=if k=i then some (a,0,0)else some (F,k+1,0))(o:H.look F=some (famS n S))(s:H.get a 0=some (.row 3 ((setM b.1 b.2).map cm) 0))(k:Nat)(p:List (List AV)×Nat)(g:(fi cm n (λj=>setM (updF S i b j).1 (updF S i b j).2) (λ_=>0))[k]?=some p) :
  match σ F (k+1)with
   |some (r,q,d)=>∃e,H.get r q=some (.row 3 e (p.2+d))/\RowV H h σ noQ e p.1
   |none=>p=([],0):=by
 rw[zwo]at g;split at g;case isFalse=>cases g
 rename_i t;cases g;rw[m];by_cases c:k=i
 .subst c;rw[if_pos rfl];refine⟨_,s,?_⟩;simp only[updF,if_true];exact Xt (zy ziC)
 .rw[if_neg c];refine⟨_,?_,Xt (zy ziC)⟩;simp only[updF,if_neg c];unfold AH.get;rw[o];simp only[W0,famS,AObj.part,zrn t,Ww]
theorem zEU{H HH}{σ}{D}{F n i a}(o:∀k,σ F (k+1)=if k=i then some (a,0,0)else some (F,k+1,0)):
  RowV H HH σ D ((mps F n).set i [.mp a 0]) (mps F n):=by
 refine⟨by simp[mps],λj q m=>?_⟩;unfold mps at m⊢;simp only[W9,Waa]at m;obtain⟨k,p,rfl⟩:=m;obtain⟨c,g⟩:=Wad.1 p;simp only[Wap]at c;rw[WR]at g;subst g;by_cases b:j=i
 .subst b;refine⟨[.mp a 0],by simp[c],rfl,λz x y d h=>?_⟩
  cases z with
  |succ z=>cases d
  |zero=>cases d;cases h;exact .mp _ _ _ _ (by rw[o,if_pos rfl])
 .refine⟨[.mp F (j+1)],?_,rfl,λz x y d h=>?_⟩
  .rw[WV (λe=>b e.symm)];simp[c]
  .cases z with
   |succ z=>cases d
   |zero=>cases d;cases h;exact .mp _ _ _ _ (by rw[o,if_neg b])
theorem zIe{H HH}{σ}{D}{F n}:RowV H HH σ D (Wac n [.nilmp]) (mpsI F n 0):=by
 rw[<-zF3];refine⟨rfl,λi e d=>⟨e,d,rfl,λj x y b c=>?_⟩⟩;obtain⟨_,rfl⟩:=Wad.1 d;rw[List.getElem_replicate]at b c;rw[b]at c;cases c
 cases j with
 |succ j=>cases b
 |zero=>cases b;exact .nilmp _
theorem zGH{n:Nat}(i:Nat)(p)(b:(fi cm n (zs1 0) (λ_=>0))[i]?=some p):p=([],0):=by
 rw[zwo]at b;split at b
 .cases b;rfl
 .cases b
theorem renP{ρ}{F n g}:AObj.ren ρ (.row 1 (mps F n) g)=.row 1 (mps (ρ F) n) g:=by
 simp only[AObj.ren,mps,WA];congr 1;refine WK λi _=>?_
 simp[Xp]
theorem zMB{n k:Nat}{S:Nat->MS}{H:AH}{F:Nat}(h:H.look F=some (famS n S))(b:k<n):H.get F (k+1)=some (.row 3 ((setM (S k).1 (S k).2).map cm) 0):=by unfold AH.get;rw[h];simp only[W0,famS,AObj.part,zrn b,Ww]
theorem zEz{r q}{c}{b}{H}{nx}(h:H.get r q=some (.row 3 ((setM c b).map cm) 0)):xopR .mlen [.mp r q] H nx=⟨b.length<=big,True,.int .i64 b.length,H,nx⟩:=by show zuM (.mp r q) H nx=_;unfold zuM;simp only;rw[h,zk];simp[enL]
theorem zsn(c)(g:c.length<=1000000):zq Z9 zbl [encL 8 Xg c] (·=.fn (.func zay) (zIj c)):=by
 refine fn_x zf0 rfl ?_;unfold zcJ;refine Gw1 @zcN.eq_1 ?_;intros;refine⟨_,.fn _ _ _ _ rfl λi a b d e=>?_,rfl⟩
 cases i with
 |zero=>cases d;cases e;exact .iptr _ _ _
 |succ i=>cases d
def lvH(n:Nat)(S:Nat->MS)(c:Int)(b:List TE):AH:=[(0,.row 3 (tabM c b) 0),(1,.row 1 [[.mp 0 0]] 0),(2,.row 1 (mps 3 n) 0),(3,famS n S)]
def lvK(b:Int)(c:List Bl)(exit:List Int)(n:Nat)(d:Bool):Kn:=[(3,encP 2 [.int .u32 b,encL 2 Xe c]),(4,.ptr 1 0 0 0 0),(5,.iptr 1 λj=>[za exit].getD j .undef),(7,.own 2 0 0 0 n),(9,.bool d)]
abbrev T4:Tab:=[(0,0,0),(1,1,0),(2,2,0),(3,3,0)]
theorem zzC{H HH}{σ}{D}(h:σ 0 0=some (0,0,0)):RowV H HH σ D [[.mp 0 0]] [[.mp 0 0]]:=by
 refine⟨rfl,λi e c=>⟨e,c,rfl,λj x y b d=>?_⟩⟩;rw[b]at d;cases d
 cases i with
 |succ i=>cases c
 |zero=>
  cases c
  cases j with
  |succ j=>cases b
  |zero=>cases b;exact .mp _ _ _ _ h
theorem zFI{K K2}{H}{nx n k}{c}{es}{S}{b}(d:H.get 0 0=some (.row 3 (tabM c es) 0))(e:H.get 1 0=some (.row 1 [[.mp 0 0]] 0))(g:H.get 2 0=some (.row 1 ((mps 3 n).set k [.mp 4 0]) 0))(h:H.look 3=some (famS n S))(j:H.get 4 0=some (.row 3 ((setM b.1 b.2).map cm) 0))(m:zAJ H (lvH n (updF S k b) c es) (fsig T4 [(3,k+1,4)]) K2 K):Ent 1 K H nx K2 (lvH n (updF S k b) c es) 4 :=
 XD T4 [(3,k+1,4)] rfl rfl rfl rfl rfl ⟨rfl,⟨_,d,zf⟩,rfl,⟨_,e,zzC rfl⟩,rfl,⟨_,g,zEU λ_=>zEo rfl⟩,rfl,λi p o=>zGC (λ_=>zEo rfl) h j i p o,trivial⟩ m
def lvI(n i:Nat)(c:Int)(b:List TE):AH:=[(0,.row 3 (tabM c b) 0),(1,.row 1 [[.mp 0 0]] 0),(2,.row 1 (mpsI 3 n i) 0),(3,famI n i)]
theorem zI5{n}{c}{es}:lvI n n c es=lvH n (λ_=>(0,[])) c es:=by unfold lvI lvH;rw[zGt,zHG]
theorem zHh{K K2}{H}{nx n i}{c}{es}(b:H.get 0 0=some (.row 3 (tabM c es) 0))(d:H.get 1 0=some (.row 1 [[.mp 0 0]] 0))(e:H.get 2 0=some (.row 1 ((mpsI 3 n i).set i [.mp 4 0]) 0))(g:H.look 3=some (famI n i))(h:H.get 4 0=some (.row 3 [[.int .i64 0,.undef,.undef]] 0))(k:zAJ H (lvI n (i+1) c es) (fsig T4 [(3,i+1,4)]) K2 K):Ent 1 K H nx K2 (lvI n (i+1) c es) 4 :=
 XD T4 [(3,i+1,4)] rfl rfl rfl rfl rfl ⟨rfl,⟨_,b,zf⟩,rfl,⟨_,d,zzC rfl⟩,rfl,⟨_,e,zGa λ_=>zEo rfl⟩,rfl,λj p m=>zJ7 (λ_=>zEo rfl) g h j p m,trivial⟩ k
theorem zFn{K K2}{H}{nx n}{c}{es}(b:H.get 0 0=some (.row 3 (tabM c es) 0))(d:H.get 1 0=some (.row 1 [[.mp 0 0]] 0))(e:H.get 3 0=some (.row 1 (Wac n [.nilmp]) 0))(g:zt9 H (lvI n 0 c es) [(0,0,0),(1,1,0),(2,3,0)] [] K2 K):Ent 1 K H nx K2 (lvI n 0 c es) 4 :=
 Xb [(0,0,0),(1,1,0),(2,3,0)] [] rfl rfl rfl ⟨rfl,⟨_,b,zf⟩,rfl,⟨_,d,zzC rfl⟩,rfl,⟨_,e,zIe⟩,rfl,zGH,trivial⟩ g
theorem zMr{g:G}{k:Nat}{S:Nat->MS}{a:MS}(h:k<g.blocks.length)(d:∀t∈edgB g k,t<g.blocks.length){y:Int}(e:y∈a.keys↔outY S (edgB g k) y):decide (y∈a.keys)=outV g (zh1 g.blocks.length S y) k:=by
 unfold outV;rw[Bool.eq_iff_iff,decide_eq_true_iff,e,W8];unfold outY;constructor
 .rintro⟨t,b,c⟩;exact⟨t,b,by rw[zmk (d t b)];exact decide_eq_true c⟩
 .rintro⟨t,b,c⟩;rw[zmk (d t b)]at c;exact⟨t,b,of_decide_eq_true c⟩
structure SizC(U:List Int)(g:G)(l:List Sgn)(at' exit:List Int)(n:Nat):Prop extends UnivC U g l at' exit n where
 ok:OkG g
 blk:g.blocks.length<=1000
 room:∀k,k<g.blocks.length->(edgB g k).length*U.length+(blkG g k).stmts.length*1300<=900000
 edg:∀k,k<g.blocks.length->(edgB g k).length<=1000
 sts:∀k,k<g.blocks.length->(blkG g k).stmts.length<=1000
 siz:∀b∈g.blocks,∀s∈b.stmts,zW s.e<=300/\s.cases.length<=100000000
 exl:exit.length<=n
 n12:12<=n
 arg:∀a,(zaz l at' a).args.length<=9223372036854775807
theorem Qz{p:Prop}(h:p:=by(try simp only[evWB,Nat.reduceBEq,Nat.reduceAdd,Nat.reduceSub,Nat.reduceLeDiff,Nat.reduceLT,implies_true,zk,za,famS])<;>(repeat' with_reducible apply And.intro)<;>first|(first|exact zf|exact zl;done)|exact fin8):p:=h
theorem QJ{c d p:Prop}(a0:c)(b:d)(h:c->d->p:=by intro a0 b;(try simp only[evWB,Nat.reduceBEq,Nat.reduceAdd,Nat.reduceSub,Nat.reduceLeDiff,Nat.reduceLT,implies_true,a0,b])<;>(repeat' with_reducible apply And.intro)<;>first|(exact zf;done)|exact fin8):p:=h a0 b
set_option maxHeartbeats 1000000 in
theorem lv_l5(l)(d)(p)(o)(b)(U)(m)(c)(es)(ht:TabS l d es)(q:SizC U ⟨o,b⟩ l d (zey p) m)(S0)(h0:LivS U ⟨o,b⟩ l d p S0){Q}(hfin:∀(S:Nat->MS)(D:Bool),LivS U ⟨o,b⟩ l d p S->(D=true->muS b.length U.length S<muS b.length U.length S0)->(D=false->S=S0/\∀j,j<b.length->∀y,0<=y->zk6 ⟨o,b⟩ l d p y (zh1 b.length S y) j=(zh1 b.length S y).getD j false)->Q .normal (lvK o b (zey p) b.length D++[(10,.int .i64 (0-1)),(34,.bool false)]) (lvH b.length S c es) 4){K}{H}{nx}(Z:Ent 1 K H nx (lvK o b (zey p) b.length false++[(10,.int .i64 ((b.length:Int)-1))]) (lvH b.length S0 c es) 4) :
  zoT Z9 1 zgz (zdH 4 Q) K H nx:=by
 have hB:=hBig;have hn:=q.blk;simp only at hn
 refine zd (λs:Nat×(Nat->MS)×Bool=>(lvK o b (zey p) b.length s.2.2++[(10,.int .i64 ((s.1:Int)-1))],lvH b.length s.2.1 c es)) 4
  (λs=>s.1<=b.length/\LivS U ⟨o,b⟩ l d p s.2.1/\(s.2.2=true->muS b.length U.length s.2.1<muS b.length U.length S0)/\(s.2.2=false->s.2.1=S0/\∀j,s.1<=j->j<b.length->∀y,0<=y->zk6 ⟨o,b⟩ l d p y (zh1 b.length S0 y) j=(zh1 b.length S0 y).getD j false)) (λs=>s.1) (b.length,S0,false)
  ⟨Wt _,h0,(λh=>by cases h),λ_=>⟨rfl,λj T A=>absurd T (Nat.not_le.2 A)⟩⟩ Z ?_
 rintro⟨k,S,D⟩ ⟨hk,I,B,C⟩ wf;simp only at hk I B C;clear wf;refine dcU zgz.eq_1 ?_;simp only[lvK,lvH,Wc,Wa]
 cases k with
 |zero=>
  refine Gw2 @dF @Int.natCast_zero ?_;intros
  exact hfin S D I B (λh=>by
   obtain⟨F,e2⟩:=C h;subst F
   exact⟨rfl,λj hj=>e2 j (Wo _) hj⟩)
 |succ k=>
  have n:k<b.length:=by omega
  have ek:((k+1:Nat):Int)-1=k:=by omega
  have gb:(b.map Xe).getD k []=b[k].cells:=zj (f:=Xe) n;have Y:blkG ⟨o,b⟩ k=b[k]:=zg8 (g:=⟨o,b⟩) n;have hEI:zaO b[k].stmts=(edgB ⟨o,b⟩ k).map λ(t:Nat)=>(t:Int):=zDF q.ok (g:=⟨o,b⟩) n
  have v:=zwc q.ok (g:=⟨o,b⟩) n;have L:=q.room k n;have hsts:=q.sts k n;rw[Y]at L hsts;have u:b[k]∈b:=Wx n;have hat:=ztR b[k] (λs M=>(q.siz _ u s M).2) b.length S (edgB ⟨o,b⟩ k) hEI v (q.edg k n) hn U.length (by omega) (λi hi=>⟨(I.inU i hi).ok,(I.inU i hi).len⟩);have hout:=λa (h:∀y,y∈a.keys↔outY S (edgB ⟨o,b⟩ k) y) (y:Int)=>zMr (g:=⟨o,b⟩) (k:=k) (S:=S) (a:=a) n v (h y)
  have htwo:[b[k].cells.getD 0 .undef,b[k].cells.getD 1 .undef]=b[k].cells:=by cases b[k];rfl
  refine Gw6 ek @dT gb @ub @zu htwo ?_;intros;have hvm:RowV (lvH b.length S c es) (atH b.length S) (Tab.sig [(0,2,0),(1,3,0)]) (inD []) (mps 3 b.length) (mps 1 b.length):=zEi λ_=>rfl
  refine zH [(0,2,0),(1,3,0)] 2 _ (hat) rfl rfl (Gin8_2 @atH.eq_1 @lvH.eq_1) (Gin8_2 @atH.eq_1 @lvH.eq_1) ?_;rintro _ _ _ ⟨rfl,rfl,a0,rfl,ha0,hl1,hl2,hmm⟩;simp only[atH,Wc,Wa];have gs:(b[k].cells.getD 1 .undef)=encL 8 Xg b[k].stmts:=by cases b[k];rfl
  have hbw:=zsn b[k].stmts (by omega);have to6:Tab.to [(0,2,0),(1,3,0)] 4 2=6:=rfl;have to3:Tab.to [(0,2,0),(1,3,0)] 4 1=3:=rfl
  (repeat first|simp(disch:=try exact dis1) only[evD,Xh,Xi,Xj,renM,renF,renP,Xp,to6,to3,AV.solid,AV.cells,gb,fldP,zu,gs]|with_reducible first|intro _|refine aJ ?_)
  refine zc (zb hbw rfl) ?_;refine Gw0 ?_;intros;generalize hss:b[k].stmts=ss at *
  have hA0:InU U a0:=⟨ha0,λy hy=>by
   obtain⟨t,T,A⟩:=(hmm y).1 hy
   exact(I.inU t (v t T)).sub y A⟩
  have J:∀s∈ss,(∀x∈zkQ s,x∈U)/\(∀x∈zoQ l d (zey p) s,x∈U)/\(nub (zoQ l d (zey p) s)).length<=m/\zW s.e<=300:=λs M=>by rw[<-hss]at M;exact⟨q.uses _ u s M,q.more _ u s M,q.mlen _ u s M,(q.siz _ u s M).1⟩
  have hb1:a0.1+(ss.length:Int)*1300<=900000:=by omega
  have hb2:a0.2.length+ss.length*1300<=900000:=by omega
  have V:∀s,InU U (ztm l d (zey p) (ss.drop s) a0)/\(ztm l d (zey p) (ss.drop s) a0).1<=900000/\(ztm l d (zey p) (ss.drop s) a0).2.length<=900000:=λs=>by
   have hd:(ss.drop s).length<=ss.length:=by rw[List.length_drop];exact Nat.sub_le _ _
   have hd2:(ss.drop s).length*1300<=ss.length*1300:=Wan _ hd;have hd3:((ss.drop s).length:Int)*1300<=(ss.length:Int)*1300:=by omega
   obtain⟨F,e2,e3⟩:=zEx q.nlen (ss:=ss.drop s) (a:=a0) (λx P=>J x (List.mem_of_mem_drop P)) hA0 (Int.le_trans (Int.add_le_add_left hd3 _) hb1) (Wq (Nat.add_le_add_left hd2 _) hb2);exact⟨F,by omega,by omega⟩
  refine zAY rfl (λc hc=>by rw[WO.1 hc];exact .iptr _ _) (zqw ss (by omega)) (λs x s' h=>by cases s with|zero=>cases h|succ s=>cases h;rfl) (lvK o b (zey p) b.length D++[(10,.int .i64 k),(11,.ptr 5 0 0 0 0)]) (λa:MS=>lvH b.length S c es++[(4,.row 3 ((setM a.1 a.2).map cm) 0),(5,.row 1 [[.mp 4 0]] 0)]) 6
   (λa s=>s<=ss.length/\a=ztm l d (zey p) (ss.drop s) a0) (λa e=>False) a0 (λa s h=>trivial) ⟨Wt _,by rw[List.drop_length];rfl⟩ ?_ ?_ ?_ (λa e h=>h.elim)
  .simp only[lvK,lvH,Wc,Wa];exact(Xb [(0,0,0),(1,1,0),(2,2,0),(3,3,0),(4,6,0),(5,7,0)] [] rfl rfl rfl Qz Qz)
  .rintro a s x s' ⟨T,A⟩ P wf;clear wf
   cases s with
   |zero=>cases P
   |succ s=>
   simp only[zIN,Wal,Prod.mk.injEq]at P;obtain⟨rfl,rfl⟩:=P;have O:s<ss.length:=by omega
   have hgs:ss.getD s noSt=ss[s]:=by simp[Wu,O]
   have hdr:ss.drop s=ss[s]::ss.drop (s+1):=WH O;have hnew:ztm l d (zey p) (ss.drop s) a0=befT l d (zey p) ss[s] a:=by rw[hdr,A];rfl
   obtain⟨R,q2,q3⟩:=V (s+1);rw[<-A]at R q2 q3;have hst:=J ss[s] (Wx O);have hnl:=q.nlen;have W:=zr9 a ss[s] l d (zey p) c es ht R.ok (by omega) m (by omega) q.exl q.n12 q.arg (by omega) (by omega);rw[hgs];rw[<-hnew]at W;have w:[ss[s].cells.getD 0 .undef,ss[s].cells.getD 1 .undef,ss[s].cells.getD 2 .undef,ss[s].cells.getD 3 .undef,ss[s].cells.getD 4 .undef,ss[s].cells.getD 5 .undef,ss[s].cells.getD 6 .undef,ss[s].cells.getD 7 .undef]=ss[s].cells:=XA _;simp only[zps,lvK,lvH,Wc,Wa];refine dcU zkd.eq_1 ?_;have hc8:ss[s].cells.length=8:=rfl;refine Gw2 @ub w ?_;intros;refine dcU zkJ.eq_1 ?_;refine Gw3 @ub @zu w ?_;intros;refine zH [(0,4,0),(1,0,0)] 2 _ W rfl rfl (QJ @zk @bfH.eq_1) (QJ @zk @bfH.eq_1) ?_;rintro _ _ _ ⟨rfl,rfl,rfl⟩;simp only[bfH];refine Gw2 @renM @zmN ?_;intros;exact⟨_,⟨by omega,rfl⟩,(Xb [(0,0,0),(1,1,0),(2,2,0),(3,3,0),(4,4,0),(5,5,0)] [] rfl rfl rfl Qz Qz)⟩
  .rintro a s ⟨T,A⟩ P;have hs0:s=0:=by cases s with|zero=>rfl|succ s=>cases P
   subst hs0;rw[W7]at A;simp only[lvK,lvH,Wc,Wa];refine Gw0 ?_;intros;refine dcU zkt.eq_1 ?_;obtain⟨R,q2,q3⟩:=V 0;rw[W7,<-A]at R q2 q3;have hal:=R.len;have hUl:=q.len;have hSl:=(I.inU k n).len;have m1:=λ(H:AH) (nx:Nat) (h:H.get 4 0=some (.row 3 ((setM a.1 a.2).map cm) 0))=>zEz (nx:=nx) h
   have m2:=λ(H:AH) (nx:Nat) (h:H.get 3 (k+1)=some (.row 3 ((setM (S k).1 (S k).2).map cm) 0))=>zEz (nx:=nx) h
   refine Gw0 ?_;intros;rw[m1 _ _ rfl]
   (repeat first|simp(disch:=try exact dis1) only[evD,Xh,Xi,Xj,zyU,zz0 n,Wab]|with_reducible first|intro _|refine aJ ?_)
   rw[m2 _ _ (zMB rfl n)];have X:∀y,0<=y->decide (y∈a.keys)=zk6 ⟨o,b⟩ l d p y (zh1 b.length S y) k:=λy hy=>by rw[A,zA5 hy,hout a0 hmm y];unfold zk6;rw[Y,hss]
   obtain⟨hs1,hs2⟩:=zJX (g:=⟨o,b⟩) I n R X q.pos;by_cases he:a.2.length=(S k).2.length
   ·(refine Qa ?_;intros);refine dcU zgl.eq_1 ?_;refine Gw0 ?_;intros;refine⟨(k,S,D),⟨by omega,I,B,λh=>?_⟩,W3 k,?_⟩
    .obtain⟨F,e2⟩:=C h;refine⟨F,λj hj1 hj2=>?_⟩;rcases Nat.lt_or_ge k j with hkj|hkj
     .exact e2 j hkj hj2
     .obtain rfl:j=k:=by simp only at hj1;omega
      rw[<-F];exact hs1 he
    .simp only[lvK,lvH,Wc,Wa];exact(Xb [(0,0,0),(1,1,0),(2,2,0),(3,3,0)] [] rfl rfl rfl Qz Qz)
   .obtain⟨hs3,N⟩:=hs2 he
    (repeat first|simp(disch:=try exact dis1) only[evD,Xh,Xi,Xj,dT,zyU,zz0 n,Wab]|with_reducible first|intro _|refine aJ ?_)
    refine dcU zgl.eq_1 ?_;refine Gw0 ?_;intros;refine⟨(k,updF S k a,true),⟨by omega,hs3,λ_=>?_,λh=>by cases h⟩,W3 k,?_⟩
    .simp only at N⊢
     cases D with
     |true=>exact Nat.lt_trans N (B rfl)
     |false=>obtain⟨F,_⟩:=C rfl;rw[<-F];exact N
    .exact zFI rfl rfl rfl rfl rfl ⟨zZ rfl,.ptr _ _ _ _ _ _ _ _ _ rfl rfl,.iptr _ _ _,.own _ _ _ 0 _ _ _ _ _ rfl rfl,.bool _ _,.int _ _ _,trivial⟩
end Go.Ab
