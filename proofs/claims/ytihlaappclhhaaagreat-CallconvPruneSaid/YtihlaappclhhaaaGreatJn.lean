/-
  Part 14 of the proof: how the calls of this program run, over values instead of memory, and what each function computes.
-/
import Derived.Test.YtihlaappclhhaaaGreatJm
set_option maxRecDepth 100000
set_option linter.unusedVariables false
set_option linter.unusedSimpArgs false
set_option linter.unnecessarySimpa false
set_option linter.unusedSectionVars false
open Go.Ab.Ent renaming tabB->Xa,keep->Xc,tab->Xx
open Go.Ab.AV renaming int->Xb,bool->Xp,ren->Xq
open Go.Ab.St renaming cells->Xd
open Go.Ab.Sgn renaming cells->Xe
open Go.Proofs.Tryz renaming prog->Xf
open Classical renaming byContradiction->Xg
open Go.Ab.WpA renaming pure->Xh,seq->Xn,cond->Xo,block->Xw
open Go.Ab.Bl renaming cells->Xi
open List.Nodup renaming length_le_of_subset->Xj
open Nat renaming reduceBEq->Xk,reduceAdd->Xl,reduceLeDiff->Xm,beq->Xv
open List renaming foldl_append->Xr,all_nil->Xs,all_cons->Xt,nodup_nil->Xu,sum_cons->Xy,sum_nil->Xz
open List renaming range→Wa,mem_cons→Wc,map_cons→Wg,getD→Wh,length_cons→Wi,getLast?_cons_cons→Wj,getElem_mem→Wk,mem_map→Wm,map_nil→Wn,take_length→Wp,length_take→Wq,map_append→Wr,nodup_cons→Ws,mem_filter→Wt,mem_append→Wu,mem_range→Wv,length_map→Ww,getElem_set→Wz,getElem_append_left→WA,getElem?_eq_getElem→WB,not_mem_nil→WC,map_map→WD,mem_singleton→WE,any_eq_true→WF,take_zero→WG,sum_append→WI,drop_eq_getElem_cons→WJ,mem_iff_getElem→WK,range_succ→WL,drop_of_length_le→WN,all_eq_true→WO,eq_nil_of_length_eq_zero→WP,findIdx?_cons→WQ,getD_cons_zero→WR,getD_cons_succ→WS,findIdx?_eq_some_iff_getElem→WU,findIdx?_eq_none_iff→WV,mem_of_getElem?→WX,map_congr_left→WY,filter_cons→WZ,length_filter_le→W0,take_succ_eq_append_getElem→W3,ext_getElem→W6,getLast?_nil→W8,getLast?_eq_none_iff→W9,length_eraseIdx→Waa
open Bool renaming and_eq_true→Wd,eq_false_iff→Wx,true_and→Wy,not_eq_true'→W7
open Nat renaming zero_le→We,le_trans→Wf,le_refl→Wo,succ_mul→WH,not_lt_zero→WM
open Option renaming map_some→Wl,map_eq_some_iff→W5
open Option.some renaming injEq→WW
namespace Go.Ab
open Go.RowKit Go.Proofs
def chV(l:List Sgn)(b:List Int)(s:St)(v:Int):Bool :=
 if s.op=5 then decide (v∈(zaJ l b s.tgt).res)||(decide (v=7)&&decide (v∈(zaJ l b s.tgt).sav))else decide (s.op=1\/s.op=3)&&decide (s.var=v)
def resS(b:List Int)(s:St):Bool := !(decide (s.op=5)&&(idxA b s.tgt).isNone)
def resB(c:List Int)(b:Bl):Bool:=b.stmts.all (resS c)
def resG(g:G)(b:List Int):Bool:=g.blocks.all (resB b)
theorem zwS(g)(at')(L:at'.length<=1000000)(B:g.blocks.length<=1000000)(w:∀b∈g.blocks,b.stmts.length<=1000000):
  zw Xf zmo [.agg g.cells,encL 1 cW at'] (·=.bool (resG g at')):=by
 refine fn_x zwI rfl ?_;refine dcU zpb.eq_1 ?_;have N:=hBig;have C:=λa=>zxe at' a L
 generalize y:resG g at'=R;unfold resG at y;obtain⟨F,q⟩:=g;simp only[G.cells]at y B w⊢;refine Gw1 @ub ?_;intros;refine zc (λb:Nat=>([(1,encL 1 cW at'),(2,encP 2 [.int .u32 F,encL 2 Xi q]),(5,.int .i64 b)],[])) 0 (λb=>b<=q.length/\(q.drop b).all (resB at')=R) (λb=>q.length-b) 0 ⟨We _,y⟩ (Xc rfl fin5) ?_;rintro b ⟨O,h⟩ wf;clear wf y;refine dcU zlX.eq_1 ?_;by_cases m:b<q.length;case neg=>rw[WN (by omega),Xs]at h;subst h;refine Qi ?_;intros;unfold zl4;refine Gw1 @zlc.eq_1 ?_;intros;exact bzO
 rw[WJ m,Xt]at h;have n:(q.map Xi).getD b []=Xi q[b]:=zk m;have v:=w _ (Wk m);generalize q[b]=J at n h v;obtain⟨bad,o⟩:=J;unfold resB at h;simp only[Xi]at n h v;refine Gw2 @dT @ub ?_;intros;refine zc (λk:Nat=>([(1,encL 1 cW at'),(2,encP 2 [.int .u32 F,encL 2 Xi q]),(5,.int .i64 b),(6,.int .i64 k)],[])) 0 (λk=>k<=o.length/\((o.drop k).all (resS at')&&(q.drop (b+1)).all (resB at'))=R) (λk=>o.length-k) 0 ⟨We _,h⟩ (Xc rfl fin5) ?_;rintro k ⟨P,c⟩ wf;clear wf h;refine dcU zlO.eq_1 ?_;by_cases u:k<o.length;case neg=>rw[WN (by omega),Xs,Wy]at c;refine Gw4 @dF @ub n @ud ?_;intros;refine dcU zlS.eq_1 ?_;refine Gw0 ?_;intros;exact⟨b+1,⟨m,c⟩,by omega,Xc rfl fin5⟩
 rw[WJ u,Xt]at c;have p:=zk (f:=Xd) (d:=[]) u;generalize o[k]=s at p c;unfold resS at c;obtain⟨op,var,D,next,K,x,e,M⟩:=s;simp only[Xd]at p c;have t:=C x;by_cases H:op=5
 .rw[decide_eq_true H,Wy]at c
  cases I:idxA at' x with
  |none=>
   rw[I]at t c;simp only[Option.isNone_none,Bool.not_true,Bool.false_and]at c;subst c;have A:decide ((-1:Int)<0)=true:=by decide
   refine Gw5 @dT @ub n p @ud ?_;intros;refine zg (ze t rfl) ?_
   (repeat first|simp(disch:=try exact dis1) only[evD,Xk,Xl,Xm,idxV,A,zlc]|with_reducible first|intro _|refine aJ ?_)
   exact bzO
  |some j=>
   rw[I]at t c;simp only[Option.isNone_some,Bool.not_false,Wy]at c;have A:decide (((j:Nat):Int)<0)=false:=by rw[decide_eq_false_iff_not];omega
   refine Gw5 @dT @ub n p @ud ?_;intros;refine zg (ze t rfl) ?_
   (repeat first|simp(disch:=try exact dis1) only[evD,Xk,Xl,Xm,idxV,A]|with_reducible first|intro _|refine aJ ?_)
   exact⟨k+1,⟨u,c⟩,by omega,Xc rfl fin5⟩
 .rw[decide_eq_false H,Bool.false_and,Bool.not_false,Wy]at c;refine Gw6 @dT @dF @ub n p @ud ?_;intros;exact⟨k+1,⟨u,c⟩,by omega,Xc rfl fin5⟩
def errC(g:G)(n:Int)(b:List Int):Int:=if n≠b.length then 2 else if zdJ g≠0 then zdJ g else if resG g b then 0 else 17
theorem zz3(g)(n)(b)(p:b.length<=1000000)(m:manyB g):zw Xf zrO [.agg g.cells,.int .i64 n,encL 1 cW b] (·=.int .i64 (errC g n b)):=by
 refine fn_x zBe rfl ?_;unfold zt2 errC;conv in Z8 _ _=>reduce
 have t:=hBig;have d:=zsj g m;have e:=zwS g b p m.blocks m.stmts;generalize zdJ g=c at d⊢;generalize resG g b=r at e⊢;obtain⟨q,s⟩:=g;simp only[G.cells]at d e⊢;by_cases j:n=b.length;case neg=>rw[if_pos j];have k:decide (n≠(b.length:Int))=true:=decide_eq_true j;refine Gw3 k @ub @ziY.eq_1 ?_;intros;exact izO
 rw[if_neg (λh=>h j)];have k:decide (n≠(b.length:Int))=false:=decide_eq_false (λh=>h j);refine Gw3 k @ub @zC ?_;intros;refine zg (ze d rfl) ?_;by_cases o:c=0;case neg=>rw[if_pos o];refine Gw2 @dT @ziY.eq_1 ?_;intros;exact izO
 rw[if_neg (λh=>h o)];refine Gw3 @dF @ub @zC ?_;intros;refine zg (ze e rfl) ?_
 cases r with
 |true=>refine Gw1 @ziY.eq_1 ?_;intros;exact izO
 |false=>refine Gw1 @ziY.eq_1 ?_;intros;exact izO
theorem zCs(a b:Sgn)(h:a.args.length<=big):zw Xf zmP [.agg a.cells,.agg b.cells] (·=.bool (decide (a.args=b.args/\a.res=b.res/\a.sav=b.sav))):=by
 refine fn_x zCl rfl ?_;refine dcU zwT.eq_1 ?_;have g:=hBig;simp only[Xe];have c:=Dm.R24_Lists_ok [a.args,a.res,a.sav] [b.args,b.res,b.sav];have d:∀l:List Int,(za l).solid=true:=λ_=>rfl
 have e:∀l:List Int,(za l).cells=[za l]:=λ_=>rfl
 refine Gw2 @ub @ua ?_;intros;refine zg (zaH (D:=allR) c (.cons (Dm.vw_LL (l:=[a.args,a.res,a.sav]) trivial rfl (by simp[big])) (.cons (Dm.vw_LL (l:=[b.args,b.res,b.sav]) trivial rfl (by simp[big])) .nil)) (.inl rfl)) ?_;refine Gw1 @zxa.eq_1 ?_;intros;refine⟨_,.bool _ _,congrArg Xp (decide_eq_decide.2 ?_)⟩;simp
def clobP(s:Sgn)(v:Nat):Bool:=decide ((v:Int)∈s.res) && !decide ((v:Int)∈s.sav)
def zFp(s:Sgn):List Int:=((Wa 12).filter (clobP s)).map λ(v:Nat)=>(v:Int)
def argP(g:G)(l:List Sgn)(b:List Int)(v:Nat):Bool:=(zhi g.blocks.length (zhU g l b false v)).getD 0 false
def chgP(g:G)(l:List Sgn)(c:List Int)(v:Nat):Bool:=(ordG g).any λb=>(blkG g b).stmts.any λs=>chV l c s v
def resP(g:G)(l:List Sgn)(b:List Int)(v:Nat):Bool:=chgP g l b v && !decide ((v:Int)∈savG g l b)
def sigG(g:G)(l:List Sgn)(b:List Int):Sgn:=⟨((Wa 12).filter (argP g l b)).map λ(v:Nat)=>(v:Int),((Wa 12).filter (resP g l b)).map λ(v:Nat)=>(v:Int),savG g l b⟩
theorem zwy:∀{l:List St},ziZ l=0->∀s∈l,s.check=0
 |[],_,s,h=>by cases h
 |
  x::l,h,s,c=>by
  rw[ziZ]at h;split at h
  .rename_i b;exact absurd h b
  .rename_i b;rcases Wc.1 c with rfl|c
   .exact Xg b
   .exact zwy h s c
theorem zvY:∀{l:List Bl},zmI l=0->∀b∈l,ziZ b.stmts=0
 |[],_,s,h=>by cases h
 |
  x::l,h,s,d=>by
  rw[zmI]at h;split at h
  .rename_i c;exact absurd h c
  .rename_i c;rcases Wc.1 d with rfl|d
   .exact Xg c
   .exact zvY h s d
theorem zwq:∀{l:List Ex},zkO l=0->∀e∈l,zmx e=0
 |[],_,s,h=>by cases h
 |
  x::l,h,s,c=>by
  rw[zkO]at h;split at h
  .rename_i b;exact absurd h b
  .rename_i b;rcases Wc.1 c with rfl|c
   .exact Xg b
   .exact zwq h s c
theorem zC6{e}(h:zmx e=0):zg7 e=true:=by
 unfold zmx at h;split at h
 .cases h
 .split at h
  .assumption
  .cases h
theorem zvC{g}(h:zdJ g=0):zyn g=0:=by
 unfold zdJ at h;split at h
 .exact absurd h (by decide)
 .exact h
theorem okS_of{s}(h:s.check=0)(n:zZ s.e<=100000):OkS s:=by
 unfold St.check zyE at h;split at h
 .cases h
 rename_i g;split at h
 .rename_i b;exact absurd h b
 rename_i b;split at h;case isFalse=>cases h
 rename_i d;have c:zkO s.e=0:=Xg b;have m:zat s.op=s.e.length:=Xg λk=>g (.inr k)
 refine⟨λh=>?_,λh=>?_,λe j=>zC6 (zwq c e j),n⟩
 .rw[h]at m;have:zat 1=1:=rfl;omega
 .unfold zG at d;rw[decide_eq_true_eq]at d;rcases h with h|h<;>(rw[h]at d;omega)
theorem zBj{g}(n:fewC g)(h:zdJ g=0):OkG g/\∀b∈g.blocks,∀s∈b.stmts,OkS s:=by
 have k:=zvC h;unfold zyn at k;split at k;case isFalse=>cases k
 rename_i e;rw[Wd,WO]at e;refine⟨⟨?_,λb d=>?_,λb d t o=>?_⟩,λb d s m=>okS_of (zwy (zvY k b d) s m) (Wf (n.size b d s m) (by decide))⟩
 .cases d:g.blocks with
  |nil=>rw[d]at e;simp at e
  |cons a l=>simp
 .have c:=e.2 b d;unfold zf3 at c;rw[Wd]at c;intro j;rw[WP j]at c;simp at c
 .have c:=e.2 b d;unfold zf3 at c;rw[Wd,Wd,WO]at c;have j:=c.2.2 t o;unfold inN at j;rw[decide_eq_true_eq]at j;exact j
def ofG(g:G)(l:List Sgn)(b:List Int):AV:=if errC g l.length b≠0 then .tup [.agg zbF.cells,.int .i64 (errC g l.length b)]else .tup [.agg (sigG g l b).cells,.int .i64 0]
theorem zhb{g:G}{l:List Sgn}{b:List Int}(h:errC g l.length b=0):l.length=b.length/\zdJ g=0/\resG g b=true:=by
 unfold errC at h;split at h
 .cases h
 rename_i e;split at h
 .rename_i c;exact absurd h c
 rename_i c;split at h
 .rename_i d;exact⟨by omega,Xg c,d⟩
 .cases h
structure TE where
 k:Int
 sg:Sgn
 b:Int
def cT(e:TE):List AV:=[.int .u32 e.k,.agg e.sg.cells,.int .i64 e.b]
def tabM(c:Int)(b:List TE):List (List AV):=[.int .i64 c,.undef,.undef]::b.map cT
def atT(b:List TE)(a:Int):Option Nat:=b.findIdx? λe=>decide (e.k=a)
def zrX(b:List TE)(a:Int):Option Sgn:=match atT b a with
 |some j=>(b[j]?).map (·.sg)
 |none=>none
theorem ztN{a:Int}:∀{es:List TE}{i:Nat},zdj (.int .u32 a) (es.map cT) i=some (match atT es a with
  |some j=>some (i+j,.agg (es.getD j ⟨0,zbF,0⟩).sg.cells)
  |none=>none)
 |[],i=>rfl
 |
  e::es,i=>by
  unfold atT;rw[WQ];by_cases h:a=e.k
  .rw[if_pos (decide_eq_true h.symm)];simp only[Wg,cT,zdj,ztt,if_true,decide_eq_true h,Nat.add_zero,WR]
  .rw[if_neg (by simp;exact λe=>h e.symm)];have b:zdj (.int .u32 a) ((e::es).map cT) i=zdj (.int .u32 a) (es.map cT) (i+1):=by simp only[Wg,cT,zdj,ztt,if_true,decide_eq_false h]
   rw[b,ztN];unfold atT
   cases es.findIdx? (λe=>decide (e.k=a))with
   |none=>rfl
   |some j=>simp only[Wl,WS];rw[show i+1+j=i+(j+1) by omega]
theorem zvP{es}{a}{j}(h:atT es a=some j):∃g:j<es.length,es[j].k=a/\∀i (b:i<j),(es[i]'(by omega)).k≠a:=by obtain⟨c,d,e⟩:=WU.1 h;exact⟨c,of_decide_eq_true d,λi b=>by have:=e i b;simpa using this⟩
theorem zzG{es}{a}{j}(e:j<es.length)(c:es[j].k=a)(d:∀i (b:i<j),(es[i]'(by omega)).k≠a):atT es a=some j :=
 WU.2 ⟨e,decide_eq_true c,λi b=>by simpa using d i b⟩
theorem zEu{es}{a}(h:∀i (b:i<es.length),es[i].k≠a):atT es a=none :=
 WV.2 λx c=>by obtain⟨i,b,rfl⟩:=WK.1 c;simpa using h i b
theorem zvR{es}{a}(h:atT es a=none):∀i (b:i<es.length),es[i].k≠a:=λi b=>by have:=WV.1 h es[i] (Wk b);simpa using this
theorem zIZ{es}{a}{j}(h:atT es a=some j)(s)(b x):zrX (es.set j ⟨a,s,b⟩) x=if x=a then some s else zrX es x:=by
 obtain⟨v,t,y⟩:=zvP h
 have c:∀i (d:i<(es.set j ⟨a,s,b⟩).length),(es.set j ⟨a,s,b⟩)[i].k=(es[i]'(by simpa using d)).k:=λi d=>by
  rw[Wz];split
  .rename_i e;subst e;exact t.symm
  .rfl
 have o:atT (es.set j ⟨a,s,b⟩) x=atT es x:=by
  cases m:atT es x with
  |some i=>obtain⟨d,n,u⟩:=zvP m;exact zzG (by simpa using d) (by rw[c];exact n) (λw p=>by rw[c];exact u w p)
  |none=>exact zEu λi d=>by rw[c];exact zvR m i (by simpa using d)
 unfold zrX;rw[o];by_cases g:x=a
 .subst g;rw[if_pos rfl,h];simp[List.getElem?_set_self v]
 .rw[if_neg g]
  cases m:atT es x with
  |none=>rfl
  |some i=>
   have q:j≠i:=λe=>by subst e;obtain⟨d,n,_⟩:=zvP m;exact g (n.symm.trans t)
   simp only;rw[List.getElem?_set_ne q]
theorem zJb{es}{a}(h:atT es a=none)(s)(b x):zrX (es++[⟨a,s,b⟩]) x=if x=a then some s else zrX es x:=by
 have m:=zvR h;unfold zrX;by_cases c:x=a
 .subst c;rw[if_pos rfl];have:atT (es++[⟨x,s,b⟩]) x=some es.length:=zzG (by simp) (by simp) (λi d=>by rw[WA d];exact m i d);rw[this];simp
 .rw[if_neg c]
  cases k:atT es x with
  |some i=>obtain⟨d,n,o⟩:=zvP k;have:atT (es++[⟨a,s,b⟩]) x=some i:=zzG (by simp;omega) (by rw[WA d];exact n) (λq j=>by rw[WA (by omega)];exact o q j);rw[this];simp only;rw[List.getElem?_append_left d]
  |none=>
   have p:=zvR k
   have:atT (es++[⟨a,s,b⟩]) x=none:=zEu λi d=>by
    by_cases g:i<es.length
    .rw[WA g];exact p i g
    .rw[List.getElem_append_right (by omega)];simp;exact λe=>c e.symm
   rw[this]
def TabS(l:List Sgn)(b:List Int)(c:List TE):Prop:=∀a,zrX c a=(idxA b a).map λk=>l.getD k zbF
theorem ztg{l:List Sgn}{c:List Int}{d:List TE}(h:TabS l c d)(a:Int):(match atT d a with
  |some j=>(d.getD j ⟨0,zbF,0⟩).sg
  |none=>zbF)=zaJ l c a:=by
 have b:=h a;unfold zrX at b;unfold zaJ
 cases g:atT d a with
 |none=>
  rw[g]at b
  cases e:idxA c a with
  |none=>rfl
  |some k=>rw[e]at b;cases b
 |some j=>
  obtain⟨m,_,_⟩:=zvP g;rw[g]at b;simp only[WB m,Wl]at b
  cases e:idxA c a with
  |none=>rw[e]at b;cases b
  |some k=>rw[e]at b;simp only[Wl,WW]at b;simp only[Wh,WB m,Option.getD_some];exact b
theorem zHm{l}{at'}{es}(h:TabS l at' es)(a):(atT es a).isSome=(idxA at' a).isSome:=by
 have b:=h a;unfold zrX at b
 cases c:atT es a with
 |none=>
  rw[c]at b
  cases d:idxA at' a with
  |none=>rfl
  |some k=>rw[d]at b;cases b
 |some j=>
  obtain⟨e,_,_⟩:=zvP c;rw[c]at b;simp only[WB e,Wl]at b
  cases d:idxA at' a with
  |none=>rw[d]at b;cases b
  |some k=>rfl
theorem zMz(e):∀a∈cT e,a.flat=true:=λa b=>by unfold cT at b;simp only[Wc,WC,or_false]at b;rcases b with rfl|rfl|rfl<;>rfl
theorem zdg(c)(g):∀l∈tabM c g,∀a∈l,a.flat=true:=λl b a d=>by
 unfold tabM at b;rcases Wc.1 b with rfl|b
 .simp only[Wc,WC,or_false]at d;rcases d with rfl|rfl|rfl<;>rfl
 .obtain⟨e,_,rfl⟩:=Wm.1 b;exact zMz e a d
theorem zIC{H HH}{σ}{D}{b}(h:∀l∈b,∀a∈l,a.flat=true):RowV H HH σ D b b :=
 ⟨rfl,λi c g=>⟨c,g,rfl,λj x y d e=>by
  rw[d]at e;cases e
  exact zM (h c (WX g) x (WX d))⟩⟩
theorem zb{H HH}{σ}{D}{c}{es}:RowV H HH σ D (tabM c es) (tabM c es):=zIC (zdg c es)
theorem renC(ρ)(e):(cT e).map (Xq ρ)=cT e:=by simp only[cT,Wg,Wn,Xq,Xe,za,encL]
theorem zdP{ρ}{c}{es}{g}:AObj.ren ρ (.row 3 (tabM c es) g)=.row 3 (tabM c es) g:=by simp only[AObj.ren,tabM,Wg,Wn,Xq,WD];congr 2;exact WY λe _=>renC ρ e
theorem uu:type_of% @tabM.eq_1:=@tabM.eq_1
theorem zdS(l)(g)(R:g.length<=1000000)(Q:l.length=g.length):z7 Xf zbq [encL 3 Xe l,encL 1 cW g] [] 0
  (λv H N=>v=.mp 0 0/\N=1/\∃c es,H=[(0,.row 3 (tabM c es) 0)]/\TabS l g es):=by
 refine zS (fn_x zqc rfl ?_);refine dcU zj3.eq_1 ?_;have P:=hBig;refine Gw0 ?_;intros
 refine zc (λs:Nat×Int×List TE=>([(0,encL 3 Xe l),(1,encL 1 cW g),(5,.mp 0 0),(6,.int .i64 ((s.1:Int)-1))],[(0,.row 3 (tabM s.2.1 s.2.2) 0)])) 1
  (λs=>s.1<=g.length/\0<=s.2.1/\s.2.1+s.1<=g.length/\∀a,zrX s.2.2 a=((g.drop s.1).findIdx? λx=>decide (x=a)).map λk=>l.getD (s.1+k) zbF) (λs=>s.1) (g.length,0,[]) ⟨Wo _,Int.le_refl _,by simp,λa=>by simp[zrX,atT]⟩ ?_ ?_
 .exact Xc rfl fin5
 rintro⟨k,c,es⟩ ⟨M,y,L,t⟩ wf;simp only at M y L t;clear wf;refine dcU zhA.eq_1 ?_
 cases k with
 |zero=>refine Qa ?_;intros;unfold zhK;refine Gw1 @zjC.eq_1 ?_;intros;refine⟨_,_,_,(Xc rfl fin5),rfl,rfl,c,es,rfl,λa=>?_⟩;rw[t a,List.drop_zero];simp only[Nat.zero_add];rfl
 |succ m=>
 have A:m<g.length:=by omega
 have K:((((m+1:Nat):Int))-1)=(m:Int):=by omega
 have O:IntKind.i64.wrap ((m:Int)-1)=(m:Int)-1:=zBm (by omega) (by omega);have w:decide ((0:Int)<=(m:Int))=true:=by rw[decide_eq_true_eq];omega
 have F:(g.map cW).getD m []=[.int .u32 g[m]]:=zk (f:=cW) (d:=[]) A;have p:m<l.length:=by omega
 have I:(l.map Xe).getD m []=[za l[m].args,za l[m].res,za l[m].sav]:=zk (f:=Xe) (d:=[]) p;simp only[K];have o:=ztN (a:=g[m]) (es:=es) (i:=0)
 have B:∀q,(∀x,zrX q x=if x=g[m]then some l[m]else zrX es x)->∀a,zrX q a=((g.drop m).findIdx? λx=>decide (x=a)).map λk=>l.getD (m+k) zbF:=λq h a=>by
  rw[h a,WJ A,WQ];by_cases D:a=g[m]
  .rw[if_pos D,if_pos (decide_eq_true D.symm)];simp[Wh,p]
  .rw[if_neg D,if_neg (by simp;exact λe=>D e.symm),t a]
   cases(g.drop (m+1)).findIdx? λx=>decide (x=a)with
   |none=>rfl
   |some j=>simp only[Wl];rw[show m+1+j=m+(j+1) by omega]
 cases n:atT es g[m]with
 |some j=>
  rw[n]at o;have u:=B _ (zIZ n l[m] (es.getD j ⟨0,zbF,0⟩).b);refine Gw6 w F I @ud @uu o ?_;intros;obtain⟨J,_,_⟩:=zvP n;have C:(es.map cT).set j [.int .u32 g[m],.agg [za l[m].args,za l[m].res,za l[m].sav],((es.map cT).getD j []).getD 2 .undef]=(es.set j ⟨g[m],l[m],(es.getD j ⟨0,zbF,0⟩).b⟩).map cT:=by rw[List.map_set];congr 1;rw[zk (f:=cT) J];simp[cT,Xe,Wh,J]
  refine⟨(m,c,es.set j ⟨g[m],l[m],(es.getD j ⟨0,zbF,0⟩).b⟩),⟨by simp only;omega,y,by simp only;omega,u⟩,by simp only;omega,?_⟩;simp only[tabM,<-C];exact Xc rfl fin5
 |none=>rw[n]at o;have u:=B _ (zJb n l[m] c);refine Gw6 w F I @ud @uu o ?_;intros;refine⟨(m,c+1,es++[⟨g[m],l[m],c⟩]),⟨by simp only;omega,by simp only;omega,by simp only;omega,u⟩,by simp only;omega,?_⟩;simp only[tabM,Wr,Wg,Wn,cT,Xe];exact Xc rfl fin5
def del1(s:MS)(v:Int):MS:=(s.1,s.2.filter λp=>p.1 != v)
def delL(s:MS)(l:List Int):MS:=l.foldl del1 s
theorem zHp{s:MS}{l:List Int}{i:Nat}(h:i<l.length):delL s (l.take (i+1))=del1 (delL s (l.take i)) l[i]:=by unfold delL;rw[List.take_add_one,WB h,Xr];rfl
theorem zBZ{s}{v}(h:v∉s.2.map (·.1)):del1 s v=s:=by unfold del1;rw[List.filter_eq_self.2 λp b=>?_];simp only[bne_iff_ne,ne_eq];exact λe=>h (Wm.2 ⟨p,b,e⟩)
theorem zuc{v}:∀ {b:List (Int×Int)}{j:Nat},(b.map (·.1)).Nodup->(h:j<b.length)->b[j].1=v->b.eraseIdx j=b.filter λp=>p.1 != v
 |
  p::b,0,hn,_,c=>by
  simp only[Wg,Ws]at hn;simp only[List.getElem_cons_zero]at c;have k:=zBZ (s:=((0:Int),b)) (v:=v) (by rw[<-c];exact hn.1);have m:b.filter (λp=>p.1 != v)=b:=congrArg Prod.snd k;rw[List.eraseIdx_cons_zero,WZ,c,m];simp
 |
  p::b,j+1,hn,hj,c=>by
  simp only[Wg,Ws]at hn;simp only[List.getElem_cons_succ]at c;have d:j<b.length:=by simpa using hj
  have g:p.1≠v:=λe=>hn.1 (Wm.2 ⟨b[j],Wk d,by rw[c,e]⟩)
  rw[List.eraseIdx_cons_succ,WZ,zuc hn.2 d c];simp[g]
theorem SetS.filter{c}{ps}(h:SetS c ps)(f):SetS c (ps.filter f):=by have b:(ps.filter f).Sublist ps:=List.filter_sublist;exact⟨h.keys.sublist (b.map _),h.borns.sublist (b.map _),λp d=>h.lt p (b.mem d),h.top,Wf b.length_le h.len⟩
theorem zB5:∀{l:List Int}{s:MS},s.ok->(delL s l).ok/\(delL s l).1=s.1/\(delL s l).2.length<=s.2.length
 |[],s,h=>⟨h,rfl,Wo _⟩
 |
  v::l,s,h=>by
  obtain⟨b,c,d⟩:=zB5 (l:=l) (s:=del1 s v) (SetS.filter h _);exact⟨b,c,Wf d (W0 _ _)⟩
theorem zEo{y}:∀{l:List Int}{s:MS},y∈(delL s l).keys↔y∈s.keys/\y∉l
 |[],s=>by simp[delL]
 |
  v::l,s=>by
  show y∈(delL (del1 s v) l).keys↔_;rw[zEo]
  have:y∈(del1 s v).keys↔y∈s.keys/\y≠v:=by
   simp only[MS.keys,del1,Wm,Wt,bne_iff_ne,ne_eq];constructor
   .rintro⟨p,⟨b,c⟩,rfl⟩;exact⟨⟨p,b,rfl⟩,c⟩
   .rintro⟨⟨p,b,rfl⟩,c⟩;exact⟨p,⟨b,c⟩,rfl⟩
  rw[this,Wc,not_or,and_assoc]
theorem zBn{α β:Type}{f:α->β}:∀{l:List α}{j:Nat},(l.map f).eraseIdx j=(l.eraseIdx j).map f
 |[],_=>rfl
 |_::_,0=>rfl
 |a::l,j+1=>congrArg (f a::·) (zBn (l:=l) (j:=j))
theorem zHt{ps}{j}:((enL ps).map cm).eraseIdx j=(enL (ps.eraseIdx j)).map cm:=by unfold enL;rw[WD,WD,zBn]
theorem zw5(s):(zjd s).length<=zZ s.e:=by
 have:∀(l:List Ex)(a:List Int),(zw4 a l).length<=a.length+zZ l:=by
  intro l
  induction l with
  |nil=>intro a;rw[zw4,zZ];simp
  |cons x l ih=>intro a;rw[zw4,zZ];have c:=ih (ze5 a (zga x));have d:=zp5 (a:=a) (b:=zga x);have g:=zoS x;omega
 have:=this s.e [];show(zw4 [] s.e).length<=_;simpa using this
def inG(x:Int):Bool:=decide (0<=x/\x<12)
def nub:List Int->List Int
 |[]=>[]
 |x::l=>x::(nub l).filter λy=>decide (y≠x)
theorem zGX{y}:∀{l:List Int},y∈nub l↔y∈l
 |[]=>Iff.rfl
 |
  x::l=>by
  rw[nub,Wc,Wt,zGX,Wc,decide_eq_true_eq];by_cases h:y=x<;>simp[h]
theorem zBo:∀(l:List Int),(nub l).Nodup
 |[]=>Xu
 |x::l=>Ws.2 ⟨λh=>absurd rfl (of_decide_eq_true (Wt.1 h).2),(zBo l).filter _⟩
theorem zHH:∀(l:List Int),(nub l).length<=l.length
 |[]=>Wo _
 |
  x::l=>by
  rw[nub,Wi,Wi];exact Nat.succ_le_succ (Wf (W0 _ _) (zHH l))
theorem zrz{x}:∀{l:List Int}{s:MS},x∈s.keys->addL s (l.filter λy=>decide (y≠x))=addL s l
 |[],s,_=>rfl
 |
  y::l,s,h=>by
  by_cases b:y=x
  .subst b;rw[List.filter_cons_of_neg (by simp),zrz h];show _=addL (add1 s y) l;rw[show add1 s y=s from if_pos h]
  .rw[List.filter_cons_of_pos (by simp[b])];show addL (add1 s y) _=addL (add1 s y) l;refine zrz ?_;rw[zvW];split
   .exact h
   .exact Wu.2 (.inl h)
theorem zzO:∀{l:List Int}{s:MS},addL s (nub l)=addL s l
 |[],s=>rfl
 |
  x::l,s=>by
  show addL (add1 s x) ((nub l).filter λy=>decide (y≠x))=addL (add1 s x) l;rw[zrz,zzO];rw[zvW];split
  .assumption
  .exact Wu.2 (.inr (WE.2 rfl))
theorem zyz{l}{s}:s.2.length<=(addL s l).2.length/\(addL s l).1<=s.1+(nub l).length/\(addL s l).2.length<=s.2.length+(nub l).length:=by rw[<-zzO];exact zeJ
theorem zGM{l:List Int}{s:MS}(h:s.ok)(b:s.1+(nub l).length<=1000000)(c:s.2.length+(nub l).length<=1000000):(addL s l).ok:=by rw[<-zzO];exact znw h b c
theorem zII(l:List Int):(nub (l.filter inG)).length<=12:=by
 have:=Xj (zBo (l.filter inG)) (l₂:=(Wa 12).map λ(v:Nat)=>(v:Int)) λx b=>by have c:=of_decide_eq_true (Wt.1 (zGX.1 b)).2;exact Wm.2 ⟨x.toNat,Wv.2 (by omega),by omega⟩
 simpa using this
def zlo(l:List Sgn)(b exit:List Int)(s:St):List Int:=if s.op=5 then(zaJ l b s.tgt).args.filter inG else if s.op=9 then exit else[]
def befT(l:List Sgn)(b exit:List Int)(s:St)(a:MS):MS:=addL (addL (delL a (znl s)) (zjd s)) (zlo l b exit s)
theorem zIX{l}{at' exit}{s}{n}(c:exit.length<=n)(b:12<=n):(nub (zlo l at' exit s)).length<=n:=by
 unfold zlo;split
 .exact Wf (zII _) b
 .split
  .exact Wf (zHH _) c
  .exact We _
theorem zLO{l:List Sgn}{at' exit:List Int}{s:St}{a:MS}{n:Nat}(h:a.ok)(p:(nub (zlo l at' exit s)).length<=n)(m:a.1+zZ s.e+n<=1000000)(o:a.2.length+zZ s.e+n<=1000000):
  (befT l at' exit s a).ok/\(befT l at' exit s a).1<=a.1+zZ s.e+n/\(befT l at' exit s a).2.length<=a.2.length+zZ s.e+n:=by
 obtain⟨b,g,j⟩:=zB5 (l:=znl s) h;have q:=zw5 s;have t:=zeJ (l:=zjd s) (s:=delL a (znl s));have d:=znw (l:=zjd s) b (by omega) (by omega);unfold befT;have k:=zyz (l:=zlo l at' exit s) (s:=addL (delL a (znl s)) (zjd s));have c:=zGM (l:=zlo l at' exit s) d (by omega) (by omega);exact⟨c,by omega,by omega⟩
theorem zEG{l}{at' exit}{s}{a}(y):y∈(befT l at' exit s a).keys↔(y∈a.keys/\y∉znl s)\/y∈zjd s\/y∈zlo l at' exit s:=by unfold befT;rw[zlM,zlM,zEo,or_assoc]
def zax(b:Bool):List Int:=if b then(Wa 12).map (λ(v:Nat)=>(v:Int))else[]
theorem zBH{b}{v}(d:0<=v):v∈zax b↔b=true/\v<12:=by
 unfold zax;cases b
 .simp
 .simp only[if_true,Wm,Wv,true_and];constructor
  .rintro⟨n,c,rfl⟩;omega
  .intro h;exact⟨v.toNat,by omega,by omega⟩
theorem zBk{y}:∀{l:List Ex},y∈zeo l↔∃e∈l,y∈occX e
 |[]=>by rw[zeo];simp
 |
  x::l=>by
  rw[zeo,Wu,zBk];simp
theorem zJC{l}{at'}{ex}{s}{a}{v}(j:0<=v):decide (v∈(befT l at' (zax ex) s a).keys)=zrx l at' ex v s (decide (v∈a.keys)):=by
 have m:v∈zjd s↔∃e∈s.e,v∈zga e:=by
  unfold zjd;rw[zsb,zBk];simp only[WC,false_or];constructor
  .rintro⟨e,g,h⟩;exact⟨e,g,(zm3 e).2 h⟩
  .rintro⟨e,g,h⟩;exact⟨e,g,(zm3 e).1 h⟩
 have k:v∈zlo l at' (zax ex) s↔(if s.op=5 then decide (v<12)&&decide (v∈(zaJ l at' s.tgt).args)else decide (s.op=9)&&ex&&decide (v<12))=true:=by
  unfold zlo;split
  .rw[Wt];unfold inG;simp only[decide_eq_true_eq,Wd];constructor
   .rintro⟨b,c⟩;exact⟨c.2,b⟩
   .rintro⟨b,c⟩;exact⟨c,j,b⟩
  .split
   .rename_i d;rw[zBH j];simp[d]
   .rename_i d;simp[d]
 have hd:v∈znl s↔(s.op=1\/s.op=3)/\s.var=v:=by
  unfold znl;split
  .rename_i h;simp[h,eq_comm]
  .rename_i h;simp[h]
 unfold zrx zFh;rw[Bool.eq_iff_iff,decide_eq_true_eq,zEG,m,k,hd];simp only[Bool.or_eq_true,WF,decide_eq_true_eq];by_cases h:(s.op=1\/s.op=3)/\s.var=v
 .rw[if_pos h];simp[h]
 .rw[if_neg h];simp[h]
theorem zsM{ps}{j}{v}(d:j<ps.length)(h:ps[j].1=v):((enL ps).map cm).set j [.int .i64 v,.bool true,(((enL ps).map cm).getD j []).getD 2 .undef]=(enL ps).map cm:=by
 have b:j<(enL ps).length:=by simpa [enL]using d
 have c:((enL ps).map cm).getD j []=[.int .i64 ps[j].1,.bool true,.int .i64 ps[j].2]:=by rw[zk (f:=cm) b];simp[enL,cm]
 rw[c];simp only[WS,WR,<-h];have:[Xb .i64 ps[j].1,.bool true,.int .i64 ps[j].2]=((enL ps).map cm)[j]'(by simpa using b):=by simp[enL,cm]
 rw[this];exact List.set_getElem_self _
def bfH(a:MS)(c:Int)(b:List TE):AH:=[(0,.row 3 ((setM a.1 a.2).map cm) 0),(1,.row 3 (tabM c b) 0)]
theorem zGY{s:MS}{l:List Int}{p:Int->Bool}{i:Nat}(h:i<l.length):addL s ((l.take (i+1)).filter p)=if p l[i]then add1 (addL s ((l.take i).filter p)) l[i]else addL s ((l.take i).filter p):=by
 rw[W3 h,List.filter_append];unfold addL;rw[Xr];by_cases b:p l[i]=true
 .rw[if_pos b];simp[b]
 .rw[if_neg b];simp[b]
theorem QB{p:Prop}(h:p:=by(try simp only[evWB,Nat.reduceBEq,Nat.reduceAdd,Nat.reduceSub,Nat.reduceLeDiff,Nat.reduceLT,implies_true,zd,za,St.cells])<;>(repeat' with_reducible apply And.intro)<;>first|(first|exact zb|exact zj;done)|exact fin6):p:=h
theorem QG{d e g j p:Prop}(a0:d)(b:e)(c:g)(a3:j)(h:d->e->g->j->p:=by intro a0 b c a3;(try simp only[evWB,Nat.reduceBEq,Nat.reduceAdd,Nat.reduceSub,Nat.reduceLeDiff,Nat.reduceLT,implies_true,a0,b,c,a3])<;>(repeat' with_reducible apply And.intro)<;>first|(first|exact zb|exact zj;done)|exact fin6):p:=h a0 b c a3
theorem QH{d e g j k p:Prop}(a0:d)(b:e)(c:g)(a3:j)(a4:k)(h:d->e->g->j->k->p:=by intro a0 b c a3 a4;(try simp only[evWB,Nat.reduceBEq,Nat.reduceAdd,Nat.reduceSub,Nat.reduceLeDiff,Nat.reduceLT,implies_true,a0,b,c,a3,a4])<;>(repeat' with_reducible apply And.intro)<;>first|(first|exact zb|exact zj;done)|exact fin6):p:=h a0 b c a3 a4
theorem zhe(a:MS)(s:St)(l:List Sgn)(w exit:List Int)(c:Int)(es:List TE)(ht:TabS l w es)(ha:a.ok)(hsz:zZ s.e<=100000)(n:Nat)(hn:n<=100000)(hx:exit.length<=n)(h12:12<=n)(hc:∀a,(zaJ l w a).args.length<=9223372036854775807)(h1:a.1+zZ s.e+n<=1000000)(h2:a.2.length+zZ s.e+n<=1000000) :
  z7 Xf zbB [.mp 0 0,.agg s.cells,.mp 1 0,za exit] (bfH a c es) 2
  (λv H nx=>v=.tup []/\H=bfH (befT l w exit s a) c es/\nx=2):=by
 refine zS (fn_x zki rfl ?_);refine dcU ze3.eq_1 ?_;have hB:=hBig;have J:=zov s;have N:=zuI s hsz;have hu:=zw5 s;have hb:befT l w exit s a=addL (addL (delL a (znl s)) (zjd s)) (zlo l w exit s):=rfl;rw[hb];have T:zlo l w exit s=if s.op=5 then(zaJ l w s.tgt).args.filter inG else if s.op=9 then exit else[]:=rfl
 rw[T];have B:=ztg ht s.tgt;have R:=hc s.tgt;generalize zaJ l w s.tgt=O at B R⊢;have y:=ztN (a:=s.tgt) (es:=es) (i:=0);generalize znl s=x at J⊢;generalize zjd s=t at N hu⊢;have U:=λi=>zB5 (l:=x.take i) ha
 obtain⟨op,var,L,next,W,V,e,cs⟩:=s;simp only at h1 h2 hu B y⊢;unfold bfH;refine Gw2 @uc @ua ?_;intros;refine zg (ze J rfl) ?_;refine Gw1 @ua ?_;intros
 refine zc (λi:Nat=>([(0,.mp 0 0),(2,.mp 1 0),(3,za exit),(5,encP 8 (Xd ⟨op,var,L,next,W,V,e,cs⟩)),(17,za x),(18,.int .i64 x.length),(19,.int .i64 i)],[(0,.row 3 ((setM (delL a (x.take i)).1 (delL a (x.take i)).2).map cm) 0),(1,.row 3 (tabM c es) 0)])) 2
  (λi=>i<=x.length) (λi=>x.length-i) 0 (We _) (by rw[WG,show delL a []=a from rfl];exact(Xa [(0,0,0),(1,1,0)] [] rfl rfl rfl QB QB)) ?_
 rintro i hi wf;clear wf;refine dcU zd4.eq_1 ?_;by_cases h:i<x.length
 case pos=>
  have k:(x.map λn=>[Xb .i64 n]).getD i []=[.int .i64 x[i]]:=zk (f:=λn=>[Xb .i64 n]) h;have g:=zHp (s:=a) h;obtain⟨P,Z,g3⟩:=U i;generalize delL a (x.take i)=b at P Z g3 g⊢;obtain⟨o,m⟩:=b;by_cases u:x[i]∈m.map (·.1)
  .obtain⟨j,S,I,F⟩:=zft u;have D:del1 (o,m) x[i]=(o,m.eraseIdx j):=by unfold del1;rw[zuc P.keys S I]
   rw[D]at g
   (repeat first|simp(disch:=try exact dis1) only[evD,Xk,Xl,Xm,dT,k,za,zd,evM,zAl,F,mdTo,zHt]|with_reducible first|intro _|refine aJ ?_)
   exact⟨i+1,h,by omega,(Xa [(0,0,0),(1,1,0)] [] rfl rfl rfl (QG @zd @ua @uc g) (QG @zd @ua @uc g))⟩
  .have F:=zeb u;have D:del1 (o,m) x[i]=(o,m):=zBZ u;rw[D]at g
   (repeat first|simp(disch:=try exact dis1) only[evD,Xk,Xl,Xm,dT,k,za,zd,evM,zAl,F,mdTo]|with_reducible first|intro _|refine aJ ?_)
   exact⟨i+1,h,by omega,(Xa [(0,0,0),(1,1,0)] [] rfl rfl rfl (QG @zd @ua @uc g) (QG @zd @ua @uc g))⟩
 obtain⟨P,Z,g3⟩:=U x.length;rw[Wp]at P Z g3;rw[show i=x.length by omega,Wp];generalize delL a x=b at P Z g3⊢;clear U J;refine Qa ?_;intros;refine dcU zd9.eq_1 ?_;refine Gw3 @uk @ua @uc ?_;intros;refine zg (ze N rfl) ?_;refine Gw1 @ua ?_;intros
 refine zc (λi:Nat=>([(0,.mp 0 0),(2,.mp 1 0),(3,za exit),(5,encP 8 (Xd ⟨op,var,L,next,W,V,e,cs⟩)),(27,za t),(28,.int .i64 t.length),(29,.int .i64 i)],[(0,.row 3 ((setM (addL b (t.take i)).1 (addL b (t.take i)).2).map cm) 0),(1,.row 3 (tabM c es) 0)])) 2
  (λi=>i<=t.length) (λi=>t.length-i) 0 (We _) (by rw[WG,show addL b []=b from rfl];exact(Xa [(0,0,0),(1,1,0)] [] rfl rfl rfl QB QB)) ?_
 rintro i hi wf;clear wf;refine dcU zd8.eq_1 ?_;by_cases h:i<t.length
 case pos=>
  have k:(t.map λn=>[Xb .i64 n]).getD i []=[.int .i64 t[i]]:=zk (f:=λn=>[Xb .i64 n]) h;have g:=zku (s:=b) h;have q:=zeJ (l:=t.take i) (s:=b);rw[Wq]at q;have M:=znw (l:=t.take i) P (by rw[Wq];omega) (by rw[Wq];omega);generalize addL b (t.take i)=d at M q g⊢;obtain⟨o,m⟩:=d;have C:=M.top;simp only at q C;by_cases u:t[i]∈m.map (·.1)
  .obtain⟨j,S,I,F⟩:=zft u;have D:add1 (o,m) t[i]=(o,m):=if_pos u;rw[D]at g;have K:=zsM S I;refine Gw6 @dT k @ua @zd F K ?_;intros;exact⟨i+1,h,by omega,(Xa [(0,0,0),(1,1,0)] [] rfl rfl rfl (QG @zd @ua @uc g) (QG @zd @ua @uc g))⟩
  .have F:=zeb u;have D:add1 (o,m) t[i]=(o+1,m++[(t[i],o)]):=if_neg u;rw[D]at g;refine Gw5 @dT k @ua @zd F ?_;intros;exact⟨i+1,h,by omega,(Xa [(0,0,0),(1,1,0)] [] rfl rfl rfl (QH @zd @ua @uc g @zgs) (QH @zd @ua @uc g @zgs))⟩
 have hb1:=zeJ (l:=t) (s:=b);have Q:=znw (l:=t) P (by omega) (by omega);rw[show i=t.length by omega,Wp];generalize addL b t=d at hb1 Q⊢;refine Qa ?_;intros;refine dcU zd6.eq_1 ?_;by_cases h5:op=5
 .rw[if_pos h5];cases Y:atT es V
  case' none=>rw[Y]at B y;simp only at B y;subst B;(refine Gw7 @dT @dF @ub @uu y @uc @ua ?_;intros;try with_reducible exact trivial)
  case' some j=>rw[Y]at B y;simp only at B y;rw[B]at y;(refine Gw8 @dT @dF @ub @uu y @Sgn.cells.eq_1 @uc @ua ?_;intros;try with_reducible exact trivial)
  case' none=>have X:zbF.args=[]:=rfl
  case' some j=>have X:O.args=O.args:=rfl
  case' none=>generalize hAA:zbF.args=A at X R⊢
  case' some j=>generalize hAA:O.args=A at X R⊢
  all_goals
   refine zc (λi:Nat=>([(0,.mp 0 0),(44,za A),(45,.int .i64 A.length),(46,.int .i64 i)],[(0,.row 3 ((setM (addL d ((A.take i).filter inG)).1 (addL d ((A.take i).filter inG)).2).map cm) 0),(1,.row 3 (tabM c es) 0)])) 2 (λi=>i<=A.length) (λi=>A.length-i) 0 (We _) (by rw[WG,List.filter_nil,show addL d []=d from rfl];exact(Xa [(0,0,0),(1,1,0)] [] rfl rfl rfl (QG @zd @ua @uc X) (QG @zd @ua @uc X))) ?_;rintro i hi wf;clear wf;refine dcU zd3.eq_1 ?_;by_cases h:i<A.length
   case pos=>
    have k:(A.map λn=>[Xb .i64 n]).getD i []=[.int .i64 A[i]]:=zk (f:=λn=>[Xb .i64 n]) h;have g:=zGY (s:=d) (p:=inG) h;have hfl:=zII (A.take i);have q:=zyz (l:=(A.take i).filter inG) (s:=d);have M:=zGM (l:=(A.take i).filter inG) Q (by omega) (by omega);generalize addL d ((A.take i).filter inG)=f at M q g⊢;by_cases hin0:0<=A[i];case neg=>rw[if_neg (by unfold inG;simp;omega)]at g;refine Gw4 @dT @dF k @ua ?_;intros;exact⟨i+1,h,by omega,(Xa [(0,0,0),(1,1,0)] [] rfl rfl rfl (QG @zd @ua @uc g) (QG @zd @ua @uc g))⟩
    by_cases hin:A[i]<12;case neg=>rw[if_neg (by unfold inG;simp;omega)]at g;refine Gw4 @dT @dF k @ua ?_;intros;exact⟨i+1,h,by omega,(Xa [(0,0,0),(1,1,0)] [] rfl rfl rfl (QG @zd @ua @uc g) (QG @zd @ua @uc g))⟩
    rw[if_pos (by unfold inG;simp;omega)]at g;obtain⟨o,m⟩:=f;have C:=M.top;simp only at q C;by_cases u:A[i]∈m.map (·.1)
    .obtain⟨j,S,I,F⟩:=zft u;have D:add1 (o,m) A[i]=(o,m):=if_pos u;rw[D]at g;have K:=zsM S I;refine Gw6 @dT k @ua @zd F K ?_;intros;exact⟨i+1,h,by omega,(Xa [(0,0,0),(1,1,0)] [] rfl rfl rfl (QG @zd @ua @uc g) (QG @zd @ua @uc g))⟩
    .have F:=zeb u;have D:add1 (o,m) A[i]=(o+1,m++[(A[i],o)]):=if_neg u;rw[D]at g;refine Gw5 @dT k @ua @zd F ?_;intros;exact⟨i+1,h,by omega,(Xa [(0,0,0),(1,1,0)] [] rfl rfl rfl (QH @zd @ua @uc g @zgs) (QH @zd @ua @uc g @zgs))⟩
   rw[show i=A.length by omega,Wp];refine Gw2 @dF @zbu.eq_1 ?_;intros;exact⟨_,_,_,(Xa [(0,0,0),(1,1,0)] [] rfl rfl rfl QB QB),rfl,rfl,rfl⟩
 rw[if_neg h5];by_cases h9:op=9
 .rw[if_pos h9];refine Gw5 @dT @dF @ub @uc @ua ?_;intros;refine zc (λi:Nat=>([(0,.mp 0 0),(61,za exit),(62,.int .i64 exit.length),(63,.int .i64 i)],[(0,.row 3 ((setM (addL d (exit.take i)).1 (addL d (exit.take i)).2).map cm) 0),(1,.row 3 (tabM c es) 0)])) 2 (λi=>i<=exit.length) (λi=>exit.length-i) 0 (We _) (by rw[WG,show addL d []=d from rfl];exact(Xa [(0,0,0),(1,1,0)] [] rfl rfl rfl QB QB)) ?_;rintro i hi wf;clear wf;refine dcU zed.eq_1 ?_;by_cases h:i<exit.length
  case pos=>
   have k:(exit.map λn=>[Xb .i64 n]).getD i []=[.int .i64 exit[i]]:=zk (f:=λn=>[Xb .i64 n]) h;have g:=zku (s:=d) h;have q:=zeJ (l:=exit.take i) (s:=d);rw[Wq]at q;have M:=znw (l:=exit.take i) Q (by rw[Wq];omega) (by rw[Wq];omega);generalize addL d (exit.take i)=f at M q g⊢;obtain⟨o,m⟩:=f;have C:=M.top;simp only at q C;by_cases u:exit[i]∈m.map (·.1)
   .obtain⟨j,S,I,F⟩:=zft u;have D:add1 (o,m) exit[i]=(o,m):=if_pos u;rw[D]at g;have K:=zsM S I;refine Gw6 @dT k @ua @zd F K ?_;intros;exact⟨i+1,h,by omega,(Xa [(0,0,0),(1,1,0)] [] rfl rfl rfl (QG @zd @ua @uc g) (QG @zd @ua @uc g))⟩
   .have F:=zeb u;have D:add1 (o,m) exit[i]=(o+1,m++[(exit[i],o)]):=if_neg u;rw[D]at g;refine Gw5 @dT k @ua @zd F ?_;intros;exact⟨i+1,h,by omega,(Xa [(0,0,0),(1,1,0)] [] rfl rfl rfl (QH @zd @ua @uc g @zgs) (QH @zd @ua @uc g @zgs))⟩
  rw[show i=exit.length by omega,Wp];refine Gw2 @dF @zbu.eq_1 ?_;intros;exact⟨_,_,_,(Xa [(0,0,0),(1,1,0)] [] rfl rfl rfl QB QB),rfl,rfl,rfl⟩
 .rw[if_neg h9];refine Gw6 @dT @dF @ub @uc @ua @zbu.eq_1 ?_;intros;exact⟨_,_,_,(Xa [(0,0,0),(1,1,0)] [] rfl rfl rfl QB QB),rfl,rfl,rfl⟩
def mps(F n:Nat):List (List AV):=(Wa n).map λi=>[.mp F (i+1)]
theorem zs6{F n}:(mps F n).length=n:=by simp[mps]
theorem ztM{F n i}(h:i<n):(mps F n).getD i []=[.mp F (i+1)]:=by simp[mps,List.getD_eq_getElem?_getD,h]
theorem zkf{H HH}{σ}{D}{F F' n}(h:∀i,σ F' (i+1)=some (F,i+1,0)):RowV H HH σ D (mps F n) (mps F' n):=by
 refine⟨by simp[mps],λi g b=>?_⟩;unfold mps at b⊢;simp only[List.getElem?_map,W5]at b⊢;obtain⟨k,e,rfl⟩:=b;refine⟨_,⟨k,e,rfl⟩,rfl,λj x y c d=>?_⟩
 cases j with
 |succ j=>cases c
 |zero=>cases c;cases d;exact .mp _ _ _ _ (h k)
theorem zIY{s}{l}{v}:addL s (l++[v])=add1 (addL s l) v:=by unfold addL;rw[Xr];rfl
def atH(n:Nat)(S:Nat->MS):AH:=[(0,.row 1 (mps 1 n) 0),(1,famS n S)]
def outY(S:Nat->MS)(E:List Nat)(y:Int):Prop:=∃t∈E,y∈(S t).keys
theorem Qv{p:Prop}(h:p:=by(try simp only[evWB,Nat.reduceBEq,Nat.reduceAdd,Nat.reduceSub,Nat.reduceLeDiff,Nat.reduceLT,implies_true,zd,famS,za,addL,List.map_nil,List.foldl_nil])<;>exact fin8):p:=h
theorem uf:type_of% @famS.eq_1:=@famS.eq_1
theorem ziE(b:Bl)(hcs:∀s∈b.stmts,s.cases.length<=100000000)(n:Nat)(S:Nat->MS)(E:List Nat)(hE:zar b.stmts=E.map λ(t:Nat)=>(t:Int))(hEn:∀t∈E,t<n)(hEl:E.length<=1000)(hnn:n<=1000)(U:Nat)(hEU:E.length*U<=900000)(hS:∀i,i<n->(S i).ok/\(S i).2.length<=U):
  z7 Xf zaj [.agg b.cells,.own 0 0 0 0 n] (atH n S) 2
  (λv H nx=>v=.mp 2 0/\nx=3/\∃a:MS,H=atH n S++[(2,.row 3 ((setM a.1 a.2).map cm) 0)]/\a.ok/\a.1<=((E.length*U:Nat):Int)/\a.2.length<=E.length*U/\∀y,y∈a.keys↔outY S E y):=by
 refine zS (fn_x zts rfl ?_);refine dcU zmU.eq_1 ?_;have hB:=hBig;have D:=zjb b hcs;rw[hE]at D;obtain⟨bad,bst⟩:=b;simp only[Xi,atH]at D⊢;refine Gw4 @ub @zC @uf @ua ?_;intros;refine zg (ze D rfl) ?_;refine Gw2 @ua @m9M ?_;intros;generalize hts:E.map (λ(t:Nat)=>(t:Int))=N at D⊢
 refine zc (λs:Nat×MS=>([(1,.own 0 0 0 0 n),(5,.mp 2 0),(11,za N),(12,.int .i64 E.length),(13,.int .i64 s.1)],[(0,.row 1 (mps 1 n) 0),(1,famS n S),(2,.row 3 ((setM s.2.1 s.2.2).map cm) 0)])) 3
  (λs=>s.1<=E.length/\s.2.ok/\s.2.1<=((s.1*U:Nat):Int)/\s.2.2.length<=s.1*U/\∀y,y∈s.2.keys↔outY S (E.take s.1) y) (λs=>E.length-s.1) (0,(0,[])) ⟨We _,zzD,by simp,by simp,λy=>by simp[MS.keys,outY]⟩ (Xa [(0,0,0),(1,1,0),(2,2,0)] [] rfl rfl rfl (Gin8_3 @zd @uf @ua) (Gin8_3 @zd @uf @ua)) ?_
 rintro⟨j,s⟩ ⟨hj,w,Y,hs2,C⟩ wf;simp only at hj w Y hs2 C;clear wf;refine dcU zj2.eq_1 ?_;by_cases u:j<E.length
 case neg=>
  obtain rfl:j=E.length:=by omega
  rw[Wp]at C;refine Qa ?_;intros;unfold zjY;refine Gw1 @zng.eq_1 ?_;intros;exact⟨_,_,_,(Xa [(0,0,0),(1,1,0),(2,2,0)] [] rfl rfl rfl (Gin8_2 @zd @uf) (Gin8_2 @zd @uf)),rfl,rfl,s,rfl,w,Y,hs2,C⟩
 have ge:(N.map λn=>[Xb .i64 n]).getD j []=[.int .i64 (E[j]:Int)]:=by rw[<-hts,WD,zk (f:=_) u];rfl
 have A:=hEn _ (Wk u)
 have R:∀y,outY S (E.take (j+1)) y↔outY S (E.take j) y\/y∈(S E[j]).keys:=λy=>by
  unfold outY;rw[W3 u];simp only[Wu,WE];constructor
  .rintro⟨t,h|rfl,h2⟩
   .exact .inl ⟨t,h,h2⟩
   .exact .inr h2
  .rintro(⟨t,h,h2⟩|h)
   .exact⟨t,.inl h,h2⟩
   .exact⟨_,.inr rfl,h⟩
 generalize E[j]=t at ge A R;obtain⟨hSt,hSU⟩:=hS t A;have hlts:j<N.length:=by rw[<-hts,Ww];exact u
 have hjU:(j+1)*U<=900000:=Wf (Nat.mul_le_mul_right U (show j+1<=E.length by omega)) hEU;rw[WH]at hjU;have hg:∀T:AH,AH.get ((0,.row 1 (mps 1 n) 0)::(1,famS n S)::T) 1 (t+1)=some (.row 3 ((setM (S t).1 (S t).2).map cm) 0):=λT=>by unfold AH.get famS;simp only[AH.look,zcA,cond_true,cond_false,show Xv 0 1=false from rfl,show Xv 1 1=true from rfl,Option.bind_some,AObj.part,zre A,Wl]
 have hg2:=hg [];unfold famS at hg;obtain⟨c,hc⟩:∃c,(S t).1=c:=⟨_,rfl⟩;obtain⟨ps,o⟩:∃ps,(S t).2=ps:=⟨_,rfl⟩;have m:SetS c ps:=by rw[<-hc,<-o];exact hSt
 have hct:∀y,y∈(S t).keys↔y∈ps.map (·.1):=λy=>by rw[<-o];rfl
 rw[o]at hSU
 (repeat first|simp(disch:=try exact dis1) only[evD,Xk,Xl,Xm,dT,ge,za,Int.toNat_natCast,ztM A,zs6,famS,evM,zre A,hc,o,zd,zB1]|with_reducible first|intro _|refine aJ ?_)
 refine zc (λsel:List (Int×Int)=>([(1,.own 0 0 0 0 n),(5,.mp 2 0),(11,za N),(12,.int .i64 E.length),(13,.int .i64 j),(21,.it 3)],[(0,.row 1 (mps 1 n) 0),(1,famS n S),(2,.row 3 ((setM (addL s (sel.map (·.1))).1 (addL s (sel.map (·.1))).2).map cm) 0),(3,.row 1 ([.mp 1 (t+1)]::[.int .i64 c]::[.int .i64 c]::sel.map λp=>[.int .i64 p.2]) 0)])) 4
  (λsel=>sel.Nodup/\∀p∈sel,p∈ps) (λsel=>ps.length-sel.length) [] ⟨Xu,λp h=>by cases h⟩ (Xa [(0,0,0),(1,1,0),(2,2,0),(3,3,0)] [] rfl rfl rfl Qv Qv) ?_
 rintro sel ⟨B,k⟩ wf;clear wf;have hpn:ps.Nodup:=zpf m.keys;have hsl:sel.length<=ps.length:=Xj B k;have I:=zeJ (l:=sel.map (·.1)) (s:=s);rw[Ww]at I;have F:=znw (l:=sel.map (·.1)) w (by rw[Ww];omega) (by rw[Ww];omega);have W:=λy=>zlM (y:=y) (l:=sel.map (·.1)) (s:=s)
 have hsn:=λv=>zIY (s:=s) (l:=sel.map (·.1)) (v:=v)
 generalize addL s (sel.map (·.1))=d at I F W hsn⊢;refine dcU zjL.eq_1 ?_;simp only[famS];refine Gw0 ?_;intros;refine zEY (ps:=ps) (sel:=sel) (c:=c) rfl (by rw[hg];rw[hc,o]) (by omega) m.lt m.borns k (λP=>?_) (λp hp X=>?_)
 .have J:=zEK B hpn k P;refine Gw0 ?_;intros;unfold zjF;refine Gw0 ?_;intros;refine⟨(j+1,d),⟨u,F,by simp only;rw[WH];omega,by simp only;rw[WH];omega,λy=>?_⟩,by simp only;omega,(Xa [(0,0,0),(1,1,0),(2,2,0)] [] rfl rfl rfl (Gin8_3 @zd @uf @ua) (Gin8_3 @zd @uf @ua))⟩;simp only;rw[W,C,R,hct];have:y∈sel.map (·.1)↔y∈ps.map (·.1):=(J.map _).mem_iff;rw[this]
 .have Q:=λ(H:AH) (nx:Nat) (hr) (M)=>zEH (H:=H) (nx:=nx) (r:=3) (rm:=1) (qm:=t+1) (c:=c) (since:=c) (sel:=sel) (p:=p) hr M m.borns hp
  refine Gw0 ?_;intros;rw[Q _ _ rfl (by rw[hg];rw[hc,o])];have Z:=hsn p.1;have htop:=F.top;obtain⟨O,qs⟩:=d;simp only at htop I
  have g:∀(K:Kn)(H:AH)(nx:Nat),Ent 2 K H nx [(1,.own 0 0 0 0 n),(5,.mp 2 0),(11,za N),(12,.int .i64 E.length),(13,.int .i64 j),(21,.it 3)] [(0,.row 1 (mps 1 n) 0),(1,famS n S),(2,.row 3 ((setM (addL s ((sel++[p]).map (·.1))).1 (addL s ((sel++[p]).map (·.1))).2).map cm) 0),(3,.row 1 ([.mp 1 (t+1)]::[.int .i64 c]::[.int .i64 c]::(sel++[p]).map λp=>[.int .i64 p.2]) 0)] 4 ->
    ∃L:List (Int×Int),(L.Nodup/\∀p∈L,p∈ps)/\ps.length-L.length<ps.length-sel.length/\Ent 2 K H nx [(1,.own 0 0 0 0 n),(5,.mp 2 0),(11,za N),(12,.int .i64 E.length),(13,.int .i64 j),(21,.it 3)] [(0,.row 1 (mps 1 n) 0),(1,famS n S),(2,.row 3 ((setM (addL s (L.map (·.1))).1 (addL s (L.map (·.1))).2).map cm) 0),(3,.row 1 ([.mp 1 (t+1)]::[.int .i64 c]::[.int .i64 c]::L.map λp=>[.int .i64 p.2]) 0)] 4:=λK H nx hE=>by
   refine⟨sel++[p],⟨?_,?_⟩,?_,hE⟩
   .rw[List.nodup_append];exact⟨B,by simp,λa q b hb e=>X (by rw[WE]at hb;rw[<-hb,<-e];exact q)⟩
   .intro a q;rcases Wu.1 q with q|q
    .exact k a q
    .rw[WE]at q;rw[q];exact hp
   .have:sel.length<ps.length:=by
     have:=Xj (Ws.2 ⟨X,B⟩) (show ∀a∈p::sel,a∈ps from λa q=>by
      rcases Wc.1 q with rfl|q
      .exact hp
      .exact k a q)
     simp only[Wi]at this;omega
    rw[List.length_append,List.length_singleton];omega
  have V:(sel++[p]).map (λx:Int×Int=>x.1)=sel.map (·.1)++[p.1]:=by simp
  rw[V,Z]at g;by_cases M:p.1∈qs.map (·.1)
  .obtain⟨i,hi,hie,hf⟩:=zft M;rw[show add1 (O,qs) p.1=(O,qs)from if_pos M]at g;have hov:=zsM hi hie;refine Gw3 @zd hf hov ?_;intros;exact g _ _ _ (Xa [(0,0,0),(1,1,0),(2,2,0),(3,3,0)] [] rfl rfl rfl (Gin8_6 @zd @uf @ua @m9P @m9C @m9N) (Gin8_6 @zd @uf @ua @m9P @m9C @m9N))
  .have hf:=zeb M;rw[show add1 (O,qs) p.1=(O+1,qs++[(p.1,O)])from if_neg M]at g;refine Gw2 @zd hf ?_;intros;exact g _ _ _ (Xa [(0,0,0),(1,1,0),(2,2,0),(3,3,0)] [] rfl rfl rfl (Gin8_7 @zd @uf @ua @zgs @m9P @m9C @m9N) (Gin8_7 @zd @uf @ua @zgs @m9P @m9C @m9N))
def noSt:St:=⟨0,0,0,0,0,0,[],[]⟩
def zB3(b:List St):Nat->Option (List AV×Nat)
 |0=>none
 |i+1=>some ([.int .i64 (i:Int),.agg (b.getD i noSt).cells],i)
def zIv(b:List St):List AV:=[.iptr 1 λj=>[encL 8 Xd b].getD j .undef]
theorem zGU(s:St):AV.Below 0 (.agg s.cells):=by
 obtain⟨op,var,b,next,d,g,e,h⟩:=s;refine .agg _ λa c=>?_
 simp only[Xd,Wc,WC,or_false]at c;rcases c with rfl|rfl|rfl|rfl|rfl|rfl|rfl|rfl
 all_goals first|exact .int _ _|exact .sl _ _ _
theorem zfW(b:List St)(o:b.length<=1000000):ItOk Xf zay (zIv b) [] 0 (zB3 b) (λ_=>True) b.length (λs _ _=>match s with|some s=>zB3 b s=none|none=>True):=by
 refine zKn zfA rfl rfl λE e=>?_
 unfold zcs zIv;conv in Z8 _ _=>reduce
 have n:=hBig;refine Xn (Xh ?_);refine Gw0 ?_;intros;rw[zix];refine Xw (WpA.loop (λx:Nat=>([(0,.fn (.yield E.lp) []),(1,.iptr 1 λj=>[encL 8 Xd b].getD j .undef),(3,.int .i64 ((x:Int)-1))],[],some x)) 0 (λx=>x<=b.length) (λx=>x) b.length (Wo _) ?_ rfl ?_)
 .rw[e];exact(Xx [] [] rfl Gin1_0 Gin1_0)
 .intro x g wf;clear wf;refine dcU zbQ.eq_1 ?_;simp only;refine Xn (Xn (Xh ?_));refine Gw0 ?_;intros;rw[zix]
  cases x with
  |zero=>refine Xo (t:=false) (by show Xp (decide _)=_;simp) (λh=>by cases h) (λ_=>Xh ?_);refine Gw0 ?_;intros;rfl
  |succ i=>
   refine Xo (t:=true) (by show Xp (decide _)=_;simp<;>omega) (λ_=>Xh ?_) (λh=>by cases h);refine Gw0 ?_;intros;rw[zix];have k:((((i+1:Nat):Int))-1)=(i:Int):=by omega
   have d:i<b.length:=by omega
   have m:(b.map Xd).getD i []=(b.getD i noSt).cells:=by rw[zk (f:=Xd) d];simp[Wh,d]
   simp only[k];refine Xn (Xw (Xn (WpA.region ?_)));refine WpAL.pre (pre:=[_,_,_,_,_,_]) rfl ?_;have c:∀s:St,[s.cells.getD 0 .undef,s.cells.getD 1 .undef,s.cells.getD 2 .undef,s.cells.getD 3 .undef,s.cells.getD 4 .undef,s.cells.getD 5 .undef,s.cells.getD 6 .undef,s.cells.getD 7 .undef]=s.cells:=St.eight;refine Gw5 @ub m c @ud @zrm ?_;intros;refine WpAL.yield (s':=i) rfl rfl ?_ (λ_=>WpAL.pre (pre:=[_]) rfl ?_) (WpAL.pre (pre:=[_]) rfl ?_)
   .intro x g;rcases Wc.1 g with h|h
    .rw[h];exact .int _ _
    .rcases Wc.1 h with h|h
     .rw[h];exact zGU _
     .cases h
   ·(refine Gw1 @zrm ?_;intros);refine WpAL.nil ?_;rw[zix];refine Xo (t:=false) rfl (λh=>by cases h) (λ_=>Xh ?_);refine Gw0 ?_;intros;rw[zyV,zix];refine Xh ?_;refine Gw0 ?_;intros;rw[zA2];refine⟨i,by omega,by omega,?_,rfl⟩;rw[e];exact(Xx [] [] rfl Gin1_0 Gin1_0)
   ·(refine Gw1 @zrm ?_;intros);refine WpAL.nil ?_;rw[zix];refine Xo (t:=true) rfl (λ_=>Xh ?_) (λh=>by cases h);refine Gw0 ?_;intros;trivial
theorem zyI{l}{at'}{ex}{v}{s}{b b'}(h:b=true->b'=true):zrx l at' ex v s b=true->zrx l at' ex v s b'=true:=by
 unfold zrx;simp only[Bool.or_eq_true];rintro(c|c)
 .left;split at c
  .cases c
  .rename_i d;rw[if_neg d];exact h c
 .exact .inr c
theorem zwe{l}{at'}{ex}{v}:∀{ss:List St}{b c:Bool},(b=true->c=true)->befV l at' ex v ss b=true->befV l at' ex v ss c=true
 |[],_,_,h=>h
 |s::ss,b,c,h=>zyI (zwe (ss:=ss) h)
theorem zsD{g}{o o'}{b}(h:leB o o'):outV g o b=true->outV g o' b=true:=by unfold outV;simp only[WF];rintro⟨t,c,d⟩;exact⟨t,c,h t d⟩
theorem zkj(g)(l)(at')(ex)(v)(n):MonoF n (zhU g l at' ex v):=⟨λo c b _ h=>zwe (zsD h)⟩
def zfe(n:Nat)(S:Nat->MS)(y:Int):List Bool:=(Wa n).map λb=>decide (y∈(S b).keys)
theorem zpK{n}{S}{y}:(zfe n S y).length=n:=by simp[zfe]
theorem zkt{n}{S}{y}{b}(c:b<n):(zfe n S y).getD b false=decide (y∈(S b).keys):=by simp[zfe,Wh,c]
theorem zGD{n}{S}{y}{k}{a}(d:k<n):zfe n (updF S k a) y=(zfe n S y).set k (decide (y∈a.keys)):=by
 refine W6 (by simp[zfe]) λi b c=>?_
 rw[Wz];simp only[zfe,List.getElem_map,List.getElem_range,updF];by_cases h:i=k
 .subst h;rw[if_pos rfl,if_pos rfl]
 .rw[if_neg h,if_neg (λe=>h e.symm)]
def zib(l:List Sgn)(b exit:List Int)(c:List St)(a:MS):MS:=c.foldr (befT l b exit) a
theorem zss{l}{at'}{ex}{v}(c:0<=v):∀{b:List St}{a:MS},decide (v∈(zib l at' (zax ex) b a).keys)=befV l at' ex v b (decide (v∈a.keys))
 |[],_=>rfl
 |
  s::b,a=>by
  show decide (v∈(befT l at' (zax ex) s (zib l at' (zax ex) b a)).keys)=zrx l at' ex v s (befV l at' ex v b (decide (v∈a.keys)));rw[zJC c,zss c]
structure UnivC(U:List Int)(g:G)(l:List Sgn)(at':List Int)(exit:List Int)(n:Nat):Prop where
 uses:∀b∈g.blocks,∀s∈b.stmts,∀x∈zjd s,x∈U
 more:∀b∈g.blocks,∀s∈b.stmts,∀x∈zlo l at' exit s,x∈U
 pos:∀x∈U,0<=x
 len:U.length<=50000
 mlen:∀b∈g.blocks,∀s∈b.stmts,(nub (zlo l at' exit s)).length<=n
 nlen:n<=1000
structure InU(U:List Int)(s:MS):Prop where
 ok:s.ok
 sub:∀x∈s.keys,x∈U
theorem InU.len{U}{s}(h:InU U s):s.2.length<=U.length:=by have:=Xj h.ok.keys h.sub;simpa using this
theorem zvc{U}{l}{at' exit}{n}(o:n<=1000):∀{ss:List St}{a:MS},(∀s∈ss,(∀x∈zjd s,x∈U)/\(∀x∈zlo l at' exit s,x∈U)/\(nub (zlo l at' exit s)).length<=n/\zZ s.e<=300)->InU U a->a.1+ss.length*1300<=900000->a.2.length+ss.length*1300<=900000 ->
  InU U (zib l at' exit ss a)/\(zib l at' exit ss a).1<=a.1+ss.length*1300/\(zib l at' exit ss a).2.length<=a.2.length+ss.length*1300
 |[],a,_,h,_,_=>⟨h,by show a.1<=_;simp,by show a.2.length<=_;simp⟩
 |
  s::ss,a,hs,h,h1,h2=>by
  rw[Wi]at h1 h2;have k:a.1+(ss.length:Int)*1300<=898700:=by push_cast at h1;rw[Int.add_mul]at h1;omega
  have m:a.2.length+ss.length*1300<=898700:=by have e:(ss.length+1)*1300=ss.length*1300+1300:=WH _ _;rw[e,<-Nat.add_assoc]at h2;exact Nat.le_of_add_le_add_right (b:=1300) h2
  have d:a.1+(ss.length:Int)*1300<=900000:=Int.le_trans k (by decide);have g:a.2.length+ss.length*1300<=900000:=Wf m (by decide);obtain⟨p,q,t,w⟩:=hs s (by simp);obtain⟨j,u,v⟩:=zvc o (ss:=ss) (a:=a) (λx c=>hs x (by simp[c])) h d g;have e:=zLO (l:=l) (at':=at') (exit:=exit) (s:=s) j.ok t (by omega) (by omega);show InU U (befT l at' exit s (zib l at' exit ss a))/\(befT l at' exit s (zib l at' exit ss a)).1<=_/\(befT l at' exit s (zib l at' exit ss a)).2.length<=_;refine⟨⟨e.1,λx c=>?_⟩,by rw[Wi];omega,by rw[Wi];omega⟩;rcases(zEG x).1 c with ⟨c,_⟩|c|c
  .exact j.sub x c
  .exact p x c
  .exact q x c
structure LivS(U:List Int)(g:G)(l:List Sgn)(at':List Int)(ex:Bool)(S:Nat->MS):Prop where
 inU:∀b,b<g.blocks.length->InU U (S b)
 up:∀y,0<=y->upB g.blocks.length (zhU g l at' ex y) (zfe g.blocks.length S y)
 low:∀y,0<=y->leB (zfe g.blocks.length S y) (zhi g.blocks.length (zhU g l at' ex y))
def muS(n m:Nat)(S:Nat->MS):Nat:=((Wa n).map λb=>m-(S b).2.length).sum
theorem zIP:∀{n:Nat}{f f':Nat->Nat}{k:Nat},k<n->(∀i,i≠k->f' i=f i)->f' k<f k->((Wa n).map f').sum<((Wa n).map f).sum
 |0,f,f',k,h,_,_=>by omega
 |
  n+1,f,f',k,h,h1,h2=>by
  rw[WL,Wr,Wr,WI,WI];simp only[Wg,Wn,Xy,Xz];by_cases b:k=n
  .subst b;have:(Wa k).map f'=(Wa k).map f:=WY λi c=>h1 i (by have:=Wv.1 c;omega)
   rw[this];omega
  .have:=zIP (n:=n) (f:=f) (f':=f') (k:=k) (by omega) h1 h2;have:=h1 n (λe=>b e.symm);omega
theorem zBf(U)(g)(l)(at')(ex):LivS U g l at' ex (λ_=>(0,[])):=by
 have d:∀y i,(zfe g.blocks.length (λ_=>((0:Int),([]:List (Int×Int)))) y).getD i false=false:=λy i=>by
  by_cases c:i<g.blocks.length
  .rw[zkt c];simp[MS.keys]
  .simp[Wh,zfe,c]
 exact⟨λb _=>⟨zzD,λx e=>by cases e⟩,λy _=>⟨zpK,λb _ h=>by rw[d]at h;cases h⟩,λy _ i h=>by rw[d]at h;cases h⟩
theorem zEm{U}{g}{l}{at'}{ex}{S}(h:LivS U g l at' ex S){k}(j:k<g.blocks.length){a}(t:InU U a)(d:∀y,0<=y->decide (y∈a.keys)=zhU g l at' ex y (zfe g.blocks.length S y) k)(m:∀x∈U,0<=x):
  (a.2.length=(S k).2.length->∀y,0<=y->zhU g l at' ex y (zfe g.blocks.length S y) k=(zfe g.blocks.length S y).getD k false) /\
  (a.2.length≠(S k).2.length->LivS U g l at' ex (updF S k a)/\muS g.blocks.length U.length (updF S k a)<muS g.blocks.length U.length S):=by
 have e:∀y∈(S k).keys,y∈a.keys:=λy c=>by have o:=m y ((h.inU k j).sub y c);have:=(h.up y o).2 k j (by rw[zkt j];exact decide_eq_true c);rw[<-d y o]at this;exact of_decide_eq_true this
 have w:(S k).2.length<=a.2.length:=by have:=Xj (h.inU k j).ok.keys e;simpa [MS.keys]using this
 constructor
 .intro C y c;rw[<-d y c,zkt j];refine decide_eq_decide.2 ⟨λs=>?_,e y⟩;refine Xg λA=>?_
  have:=Xj (Ws.2 ⟨A,(h.inU k j).ok.keys⟩) (show ∀x∈y::(S k).keys,x∈a.keys from λx q=>by
   rcases Wc.1 q with rfl|q
   .exact s
   .exact e x q)
  simp only[MS.keys,Wi,Ww]at this;omega
 .intro B;have n:∀y,0<=y->zfe g.blocks.length (updF S k a) y=zlr (zhU g l at' ex y) (zfe g.blocks.length S y) k:=λy c=>by rw[zGD j,d y c];rfl
  refine⟨⟨λb p=>?_,λy c=>?_,λy c=>?_⟩,?_⟩
  .unfold updF;split
   .exact t
   .exact h.inU b p
  .rw[n y c];exact zze (zkj _ _ _ _ _ _) (h.up y c) j
  .rw[n y c];refine zB4 (zkj _ _ _ _ _ _) (h.up y c) j (λb p u=>?_) (h.low y c);rw[<-(zwZ (zkj g l at' ex y g.blocks.length)).2 b p];exact u
  .refine zIP j (λi v=>by simp only[updF,if_neg v]) ?_;have:=t.len;simp only[updF,if_true];omega
theorem zEh{U}{g}{l}{at'}{ex}{S}(h:LivS U g l at' ex S)(c:∀k,k<g.blocks.length->∀y,0<=y->zhU g l at' ex y (zfe g.blocks.length S y) k=(zfe g.blocks.length S y).getD k false):
  ∀y,0<=y->∀b,b<g.blocks.length->decide (y∈(S b).keys)=(zhi g.blocks.length (zhU g l at' ex y)).getD b false:=λy d b e=>by
 rw[<-zGx (zkj g l at' ex y g.blocks.length) zpK (λk j=>c k j y d) (h.low y d),zkt e]
mutual
def zsa:Ex->Bool
 |.mk op _ _ _ l=>decide (op=18)||zAf l
def zAf:List Ex->Bool
 |[]=>false
 |e::l=>zsa e||zAf l
end
abbrev EV:=Int->Bool
abbrev LeE(a b:EV):Prop:=∀v,a v=true->b v=true
theorem LeE.refl(a):LeE a a:=λ_ h=>h
def zE7(s:St):Ex:=s.e.getD 0 (.mk 0 0 0 0 [])
def remP(s:St)(a:EV):Bool:=decide (s.op=1)&&(!zsa (zE7 s) && !a s.var)
theorem zvD{s}{a b}(h:LeE a b)(c:remP s b=true):remP s a=true:=by unfold remP at c⊢;simp only[Wd,W7,decide_eq_true_eq]at c⊢;refine⟨c.1,c.2.1,Wx.2 λd=>?_⟩;rw[h _ d]at c;exact absurd c.2.2 (by decide)
theorem zDy{s}{a}(h:remP s a=true):s.op=1/\a s.var=false:=by unfold remP at h;simp only[Wd,W7,decide_eq_true_eq]at h;exact⟨h.1,h.2.2⟩
section
variable (l:List Sgn) (at':List Int)
def bef(b:List St)(e:EV):EV:=λv=>befV l at' true v b (e v)
theorem zEC{ss}{a b}(h:LeE a b):LeE (bef l at' ss a) (bef l at' ss b):=λv=>zwe (h v)
theorem zFe{s}{a b}(h:LeE a b)(j:s.op=1)(g:a s.var=false):LeE a (λv=>zrx l at' true v s (b v)):=λv d=>by
 have c:s.var≠v:=by rintro rfl;rw[g]at d;cases d
 show zrx l at' true v s (b v)=true;unfold zrx;rw[if_neg (λe=>c e.2),h v d,Bool.true_or]
inductive SubP(e:EV):List St->List St->Prop
 |nil:SubP e [] []
 |keep {s:St}{x y:List St}:SubP e x y->SubP e (s::x) (s::y)
 |drop {s:St}{x y:List St}:SubP e x y->remP s (bef l at' x e)=true->SubP e x (s::y)
theorem SubP.refl{e}:∀{x:List St},SubP l at' e x x
 |[]=>.nil
 |_::_=>.keep SubP.refl
variable {l:List Sgn}{at':List Int}
theorem SubP.sub{e}{x y}(h:SubP l at' e x y):x.Sublist y:=by
 induction h with
 |nil=>exact List.Sublist.slnil
 |keep _ b=>exact b.cons_cons _
 |drop _ _ b=>exact b.cons _
theorem SubP.begin{e e1 e2}{x y}(h:SubP l at' e x y)(d:LeE e1 e)(g:LeE e1 e2):LeE (bef l at' x e1) (bef l at' y e2):=by
 induction h with
 |nil=>exact g
 |keep _ b=>exact λv=>zyI (b v)
 |@drop s x y _ hr b=>obtain⟨k,c⟩:=zDy hr;refine zFe l at' b k (Wx.2 λj=>?_);rw[zEC l at' d _ j]at c;cases c
theorem SubP.trans{e e2}{x y z}(h:SubP l at' e x y)(k:SubP l at' e2 y z)(d:LeE e e2):SubP l at' e x z:=by
 induction k generalizing x with
 |nil=>exact h
 |keep _ b=>
  cases h with
  |keep h=>exact .keep (b h)
  |drop h c=>exact .drop (b h) c
 |drop g c b=>exact .drop (b h) (zvD (h.begin (LeE.refl _) d) c)
theorem SubP.last{e}{x y}(h:SubP l at' e x y)(b:∀s,y.getLast?=some s->s.op≠1):x.getLast?=y.getLast? := by
 induction h with
 |nil=>rfl
 |@keep s x y h ih=>
  cases h with
  |nil=>rfl
  |@keep s2 x y h=>have:=ih (λt c=>b t (by rw[Wj];exact c));rw[Wj,Wj];exact this
  |@drop s2 x y h hr=>
   have:=ih (λt c=>b t (by rw[Wj];exact c));rw[Wj,<-this]
   cases x with
   |nil=>rw[W8]at this;exact absurd (W9.1 this.symm) (by simp)
   |cons t x=>rw[Wj]
 |@drop s x y h hr ih=>
  cases y with
  |nil=>exact absurd (zDy hr).1 (b s rfl)
  |cons t y=>rw[Wj];exact ih (λu d=>b u (by rw[Wj];exact d))
theorem SubP.endsOk{e}{x y}(h:SubP l at' e x y)(b:Go.Ab.endsOk y=true):Go.Ab.endsOk x=true/\(y≠[]->x≠[]):=by
 induction h with
 |nil=>exact⟨rfl,λh=>h⟩
 |@keep s x y h ih=>
  rw[Go.Ab.endsOk,Wd,beq_iff_eq]at b;obtain⟨c,d⟩:=ih b.2;refine⟨?_,λ_=>by simp⟩;rw[Go.Ab.endsOk,c,Bool.and_true,beq_iff_eq,b.1]
  cases y with
  |nil=>cases h;rfl
  |cons t y=>
   cases x with
   |nil=>exact absurd rfl (d (by simp))
   |cons u x=>rfl
 |@drop s x y h hr ih=>
  rw[Go.Ab.endsOk,Wd,beq_iff_eq]at b;obtain⟨c,d⟩:=ih b.2;refine⟨c,λ_=>?_⟩;have g:zmF s=false:=by unfold zmF;rw[(zDy hr).1];rfl
  rw[g]at b;refine d ?_;rintro rfl;cases b.1
inductive PSw(l:List Sgn)(at':List Int)(e:EV):List St->List St->Prop
 |nil:PSw l at' e [] []
 |keep {s:St}{x y:List St}:PSw l at' e x y->PSw l at' e (s::x) (s::y)
 |drop {s:St}{x y:List St}:PSw l at' e x y->remP s (bef l at' y e)=true->PSw l at' e x (s::y)
theorem PSw.refl{e}:∀{x:List St},PSw l at' e x x
 |[]=>.nil
 |_::_=>.keep PSw.refl
theorem PSw.subP{e ee}{x y}(h:PSw l at' e x y)(c:LeE ee e):SubP l at' ee x y:=by
 induction h with
 |nil=>exact .nil
 |keep _ b=>exact .keep b
 |drop _ d b=>exact .drop b (zvD (b.begin (LeE.refl _) c) d)
def zIT(l:List Sgn)(at':List Int)(e:EV):List St->Prop
 |[]=>True
 |s::b=>remP s (bef l at' b e)=false/\zIT l at' e b
theorem PSw.done{e ee}{x y z}(k:PSw l at' e z y)(h:SubP l at' ee x y)(b:zIT l at' ee x)(d:LeE ee e):SubP l at' ee x z:=by
 induction k generalizing x with
 |nil=>exact h
 |keep _ ih=>
  cases h with
  |keep h=>exact .keep (ih h b.2)
  |drop h c=>exact .drop (ih h b) c
 |drop _ c ih=>
  cases h with
  |keep h=>have:=zvD (h.begin (LeE.refl _) d) c;rw[b.1]at this;cases this
  |drop h _=>exact ih h b
def LI(l:List Sgn)(at':List Int)(g:G)(v:Int):List Bool:=zhi g.blocks.length (zhU g l at' true v)
def LO(l:List Sgn)(at':List Int)(g:G)(b:Nat):EV:=λv=>outV g (LI l at' g v) b
theorem zLl{g}{v}{b}(c:b<g.blocks.length):(LI l at' g v).getD b false=bef l at' (blkG g b).stmts (LO l at' g b) v:=by rw[LI,<-(zwZ (zkj g l at' true v g.blocks.length)).2 b c];rfl
def okEnds(g:G):Prop:=∀b∈g.blocks,b.stmts≠[]/\∀s,b.stmts.getLast?=some s->s.op≠1
structure SubG(E:Nat->EV)(l:List Sgn)(at':List Int)(x y:G):Prop where
 addr:x.addr=y.addr
 len:x.blocks.length=y.blocks.length
 blk:∀i (h1:i<x.blocks.length) (h2:i<y.blocks.length),x.blocks[i].addr=y.blocks[i].addr/\SubP l at' (E i) x.blocks[i].stmts y.blocks[i].stmts
theorem zEg{x y}{i}(b:i<x.blocks.length)(c:i<y.blocks.length)(h:x.blocks[i].stmts.getLast?=y.blocks[i].stmts.getLast?):edgB x i=edgB y i:=by unfold edgB;rw[zaR b,zaR c];unfold zar;rw[h]
theorem SubG.live{E}{x y}(h:SubG E l at' x y)(D:okEnds y)(w:∀i (e:EV),LeE e (LO l at' x i)->LeE e (LO l at' y i)->LeE e (E i)):∀v,leB (LI l at' x v) (LI l at' y v):=by
 have B:∀v,(LI l at' x v).length=x.blocks.length:=λv=>ztG _ _
 let I:Int->List Bool:=λv=>(Wa x.blocks.length).map λi=>(LI l at' x v).getD i false&&(LI l at' y v).getD i false
 have n:∀v i,(I v).getD i false=true->(LI l at' x v).getD i false=true/\(LI l at' y v).getD i false=true:=λv i d=>by
  by_cases j:i<x.blocks.length
  .have e:(I v).getD i false=((LI l at' x v).getD i false&&(LI l at' y v).getD i false):=by simp[I,Wh,j]
   rw[e,Wd]at d;exact d
  .have e:(I v).getD i false=false:=by simp[I,Wh,j]
   rw[e]at d;cases d
 have m:∀v,leB (LI l at' x v) (I v):=λv=>zyQ (zkj x l at' true v x.blocks.length) λb j A=>by
  have c:b<y.blocks.length:=by have:=h.len;omega
  obtain⟨_,s⟩:=h.blk b j c;have C:=D _ (Wk c);have p:=zEg j c (s.last C.2);have e:(I v).getD b false=((LI l at' x v).getD b false&&(LI l at' y v).getD b false):=by simp[I,Wh,j]
  have t:LeE (λv=>outV x (I v) b) (LO l at' x b):=λv=>zsD λi d=>(n v i d).1
  have u:LeE (λv=>outV x (I v) b) (LO l at' y b):=λv q=>by unfold outV at q;rw[p]at q;exact zsD (g:=y) (o:=I v) (λi d=>(n v i d).2) q
  have k:bef l at' x.blocks[b].stmts (λv=>outV x (I v) b) v=true:=by rw[<-zaR j];exact A
  rw[e,Wd];constructor
  .rw[zLl j,zaR j];exact zEC l at' t v k
  .rw[zLl c,zaR c];exact s.begin (w b _ t u) u v k
 exact λv i d=>(n v i (m v i d)).2
theorem SubG.out{E}{x y}(h:SubG E l at' x y)(k:okEnds y)(m:∀i (e:EV),LeE e (LO l at' x i)->LeE e (LO l at' y i)->LeE e (E i)){i}(j:i<x.blocks.length):LeE (LO l at' x i) (LO l at' y i):=λv n=>by
 have b:i<y.blocks.length:=by have:=h.len;omega
 have d:=zEg j b ((h.blk i j b).2.last (k _ (Wk b)).2);have c:outV x (LI l at' x v) i=true:=n;unfold outV at c;rw[d]at c;exact zsD (g:=y) (h.live k m v) c
theorem SubG.ends{E}{x y}(h:SubG E l at' x y)(n:okEnds y):okEnds x:=by
 intro b k;obtain⟨i,m,rfl⟩:=WK.1 k;have c:i<y.blocks.length:=by have:=h.len;omega
 obtain⟨_,j⟩:=h.blk i m c;have e:=n _ (Wk c);have d:=j.last e.2;refine⟨?_,by rw[d];exact e.2⟩;intro g;rw[g,W8]at d;exact e.1 (W9.1 d.symm)
abbrev RelP(l:List Sgn)(at':List Int)(x y:G):Prop:=SubG (LO l at' x) l at' x y
theorem RelP.refl(x):RelP l at' x x:=⟨rfl,rfl,λ_ _ _=>⟨rfl,SubP.refl l at'⟩⟩
theorem RelP.le{x y}(h:RelP l at' x y)(d:okEnds y){i}(c:i<x.blocks.length):LeE (LO l at' x i) (LO l at' y i):=h.out d (λ_ _ b _=>b) c
theorem RelP.trans{x y z}(h:RelP l at' x y)(k:RelP l at' y z)(e:okEnds z):RelP l at' x z :=
 ⟨h.addr.trans k.addr,h.len.trans k.len,λi c d=>by
  have b:i<y.blocks.length:=by have:=h.len;omega
  exact⟨(h.blk i c b).1.trans (k.blk i b d).1,(h.blk i c b).2.trans (k.blk i b d).2 (h.le (k.ends e) c)⟩⟩
structure StepP(l:List Sgn)(at':List Int)(z y:G):Prop where
 addr:z.addr=y.addr
 len:z.blocks.length=y.blocks.length
 blk:∀i (h1:i<z.blocks.length) (h2:i<y.blocks.length),z.blocks[i].addr=y.blocks[i].addr/\PSw l at' (LO l at' y i) z.blocks[i].stmts y.blocks[i].stmts
theorem StepP.rel{z y}(h:StepP l at' z y)(e:okEnds y):RelP l at' z y:=by have d:SubG (LO l at' y) l at' z y:=⟨h.addr,h.len,λi c b=>⟨(h.blk i c b).1,(h.blk i c b).2.subP (LeE.refl _)⟩⟩;exact⟨h.addr,h.len,λi c b=>⟨(h.blk i c b).1,(h.blk i c b).2.subP (d.out e (λ_ _ _ b=>b) c)⟩⟩
def zCN(l:List Sgn)(at':List Int)(x:G):Prop:=∀i (h:i<x.blocks.length),zIT l at' (LO l at' x i) x.blocks[i].stmts
theorem RelP.step{x y z}(h:RelP l at' x y)(e:zCN l at' x)(k:StepP l at' z y)(g:okEnds y):RelP l at' x z :=
 ⟨h.addr.trans k.addr.symm,h.len.trans k.len.symm,λi b d=>by
  have c:i<y.blocks.length:=by have:=h.len;omega
  exact⟨(h.blk i b c).1.trans (k.blk i d c).1.symm,(k.blk i d c).2.done (h.blk i b c).2 (e i b) (h.le g b)⟩⟩
inductive Steps(l:List Sgn)(at':List Int):G->G->Prop
 |refl (y:G):Steps l at' y y
 |more {y z x:G}:StepP l at' z y->Steps l at' x z->Steps l at' x y
theorem Steps.rel{x y}(h:Steps l at' x y)(b:okEnds y):RelP l at' x y:=by
 induction h with
 |refl=>exact RelP.refl _
 |more h1 _ ih=>have c:=h1.rel b;exact(ih (c.ends b)).trans c b
theorem Steps.done{a x y}(h:Steps l at' x y)(d:RelP l at' a y)(hd:zCN l at' a)(b:okEnds y):RelP l at' a x:=by
 induction h with
 |refl=>exact d
 |more c _ e=>exact e (d.step hd c b) ((c.rel b).ends b)
theorem zKj{α:Type}{a b:List α}(h:a.Sublist b)(k:b.Sublist a):a=b:=h.eq_of_length (Nat.le_antisymm h.length_le k.length_le)
theorem zFv{a b y:G}(k:Steps l at' a y)(m:Steps l at' b y)(s:zCN l at' a)(t:zCN l at' b)(e:okEnds y):a=b:=by
 have g:=m.done (k.rel e) s e;have C:=k.done (m.rel e) t e;obtain⟨p,h⟩:=a;obtain⟨q,j⟩:=b;have v:p=q:=g.addr;have x:h=j:=W6 g.len λi n o=>by have c:=g.blk i n o;have D:=C.blk i o n;have d:=zKj c.2.sub D.2.sub;simp only at c d;generalize h[i]=u at c d;generalize j[i]=w at c d;obtain⟨F,H⟩:=u;obtain⟨I,J⟩:=w;have A:F=I:=c.1;have B:H=J:=d;rw[A,B]
 rw[v,x]
end
section
variable {l:List Sgn}{at':List Int}
def ze1(l:List Sgn)(at':List Int)(e:EV):List St->List St
 |[]=>[]
 |s::b=>if remP s (bef l at' b e)=true then ze1 l at' e b else s::ze1 l at' e b
theorem zkk{e}:∀{ss:List St},PSw l at' e (ze1 l at' e ss) ss
 |[]=>.nil
 |
  s::ss=>by
  unfold ze1;split
  .rename_i h;exact .drop zkk h
  .exact .keep zkk
theorem zqa{e}{ss}:(ze1 l at' e ss).length<=ss.length:=(zkk.subP (LeE.refl e)).sub.length_le
theorem zxT{e}{ss}:(ze1 l at' e ss).Sublist ss:=(zkk.subP (LeE.refl e)).sub
theorem zvU{e}:∀{ss:List St},ze1 l at' e ss=ss->zIT l at' e ss
 |[],_=>trivial
 |
  s::ss,h=>by
  unfold ze1 at h;split at h
  .have:=zqa (l:=l) (at':=at') (e:=e) (ss:=ss);rw[h]at this;simp only[Wi]at this;omega
  .rename_i b;simp only[List.cons.injEq,true_and]at h;exact⟨Wx.2 b,zvU h⟩
def zfk(l:List Sgn)(at':List Int)(g:G)(i:Nat):List St:=ze1 l at' (LO l at' g i) (blkG g i).stmts
def zun(l:List Sgn)(at':List Int)(g:G)(i:Nat):Bl:=⟨(blkG g i).addr,zfk l at' g i⟩
def zhv(l:List Sgn)(at':List Int)(g:G):G:=⟨g.addr,(Wa g.blocks.length).map (zun l at' g)⟩
theorem zmT{g}:(zhv l at' g).blocks.length=g.blocks.length:=by simp[zhv]
theorem zyb{g}{i}(h:i<(zhv l at' g).blocks.length):(zhv l at' g).blocks[i]=zun l at' g i:=by simp[zhv]
theorem zwF{g}:StepP l at' (zhv l at' g) g:=⟨rfl,zmT,λi c b=>by
 rw[zyb c];refine⟨by show(blkG g i).addr=_;rw[zaR b],?_⟩;show PSw l at' _ (zfk l at' g i) _;unfold zfk;rw[zaR b]
 exact zkk⟩
def cntG(g:G):Nat:=((Wa g.blocks.length).map λi=>(blkG g i).stmts.length).sum
theorem zDk:∀{n:Nat}{f f':Nat->Nat},(∀k,k<n->f' k<=f k)->((Wa n).map f').sum<=((Wa n).map f).sum/\((∃k,k<n/\f' k<f k)->((Wa n).map f').sum<((Wa n).map f).sum)
 |0,_,_,_=>⟨Wo _,λ⟨k,h,_⟩=>absurd h (WM k)⟩
 |
  n+1,f,f',h=>by
  obtain⟨g,d⟩:=zDk (n:=n) (f:=f) (f':=f') λk e=>h k (by omega)
  have j:=h n (Nat.lt_succ_self n);rw[WL,Wr,Wr,WI,WI];simp only[Wg,Wn,Xy,Xz];refine⟨by omega,λ⟨k,e,c⟩=>?_⟩;by_cases b:k=n
  .subst b;omega
  .have:=d ⟨k,by omega,c⟩;omega
def chgN(l:List Sgn)(at':List Int)(g:G)(k:Nat):Bool:=(Wa k).any λi=>decide ((zfk l at' g i).length<(blkG g i).stmts.length)
theorem zGu{g}{k}:chgN l at' g (k+1)=(chgN l at' g k||decide ((zfk l at' g k).length<(blkG g k).stmts.length)):=by unfold chgN;rw[WL,List.any_append];simp
def zm8(l:List Sgn)(at':List Int):Nat->G->G
 |0,g=>g
 |n+1,g=>if chgN l at' g g.blocks.length=true then zm8 l at' n (zhv l at' g)else g
theorem zz8{g}{i}(h:i<g.blocks.length):blkG (zhv l at' g) i=zun l at' g i:=by rw[zaR (by rw[zmT];exact h),zyb]
theorem zvB{g}(h:chgN l at' g g.blocks.length=true):cntG (zhv l at' g)<cntG g:=by
 unfold cntG;rw[zmT];refine(zDk λk d=>?_).2 ?_
 .rw[zz8 d];exact zqa
 .obtain⟨i,b,c⟩:=WF.1 h;rw[Wv]at b;refine⟨i,b,?_⟩;rw[zz8 b];exact of_decide_eq_true c
theorem zF9{g}(h:chgN l at' g g.blocks.length=false):zCN l at' g:=by
 intro i d;have c:¬(zfk l at' g i).length<(blkG g i).stmts.length:=λb=>by rw[show chgN l at' g g.blocks.length=true from WF.2 ⟨i,Wv.2 d,decide_eq_true b⟩]at h;cases h
 unfold zfk at c;rw[zaR d]at c;have:=zxT (l:=l) (at':=at') (e:=LO l at' g i) (ss:=g.blocks[i].stmts);exact zvU (this.eq_of_length (by have:=this.length_le;omega))
theorem zvj:∀{n:Nat}{g:G},cntG g<n->Steps l at' (zm8 l at' n g) g/\zCN l at' (zm8 l at' n g)
 |0,g,h=>absurd h (WM _)
 |
  n+1,g,h=>by
  unfold zm8;by_cases b:chgN l at' g g.blocks.length=true
  .rw[if_pos b];have e:=zvB b;obtain⟨c,d⟩:=zvj (n:=n) (g:=zhv l at' g) (by omega);exact⟨.more zwF c,d⟩
  .rw[if_neg b];exact⟨.refl _,zF9 (Wx.2 b)⟩
def zo4(l:List Sgn)(at':List Int)(e:EV):List St->Option Nat
 |[]=>none
 |s::b=>if remP s (bef l at' b e)=true then some 0 else(zo4 l at' e b).map (·+1)
theorem znR{e}:∀{b:List St}{k:Nat},zo4 l at' e b=some k->PSw l at' e (b.eraseIdx k) b/\k<b.length
 |[],k,h=>by cases h
 |
  s::b,k,h=>by
  unfold zo4 at h;split at h
  .rename_i g;cases h;exact⟨.drop PSw.refl g,by simp⟩
  .obtain⟨j,d,rfl⟩:=W5.1 h;obtain⟨c,m⟩:=znR d;exact⟨.keep c,by simp only[Wi];omega⟩
theorem zwp{e}:∀{b:List St},zo4 l at' e b=none->zIT l at' e b
 |[],_=>trivial
 |
  s::b,h=>by
  unfold zo4 at h;split at h
  .cases h
  .rename_i c;exact⟨Wx.2 c,zwp (Option.map_eq_none_iff.1 h)⟩
def rmG(g:G)(b k:Nat):G:=⟨g.addr,g.blocks.set b ⟨(blkG g b).addr,(blkG g b).stmts.eraseIdx k⟩⟩
def zgp(l:List Sgn)(at':List Int)(g:G):Nat->Nat->Option (Nat×Nat)
 |0,_=>none
 |
  n+1,b=>match zo4 l at' (LO l at' g b) (blkG g b).stmts with
  |some k=>some (b,k)
  |none=>zgp l at' g n (b+1)
def zxA(l:List Sgn)(at':List Int)(g:G):Option (Nat×Nat):=zgp l at' g g.blocks.length 0
theorem zn5{g}:∀{n b:Nat}{r:Nat×Nat},zgp l at' g n b=some r->r.1<b+n/\zo4 l at' (LO l at' g r.1) (blkG g r.1).stmts=some r.2
 |0,b,r,h=>by cases h
 |
  n+1,b,r,h=>by
  unfold zgp at h;split at h
  .rename_i k d;cases h;exact⟨by simp only;omega,d⟩
  .obtain⟨e,c⟩:=zn5 h;exact⟨by omega,c⟩
theorem zsX{g}:∀{n b:Nat},zgp l at' g n b=none->∀i,b<=i->i<b+n->zo4 l at' (LO l at' g i) (blkG g i).stmts=none
 |0,b,_,i,c,d=>by omega
 |
  n+1,b,h,i,c,d=>by
  unfold zgp at h;split at h
  .cases h
  .rename_i j;by_cases e:i=b
   .subst e;exact j
   .exact zsX h i (by omega) (by omega)
theorem zEv{g}{b k}(n:b<g.blocks.length)(h:zo4 l at' (LO l at' g b) (blkG g b).stmts=some k):StepP l at' (rmG g b k) g:=⟨rfl,by simp[rmG],λi m j=>by
 have e:(rmG g b k).blocks[i]=if b=i then⟨(blkG g b).addr,(blkG g b).stmts.eraseIdx k⟩else g.blocks[i]:=by simp only[rmG,Wz]
 rw[e];by_cases c:b=i
 .subst c;rw[if_pos rfl];have d:=(znR h).1;rw[zaR j]at d⊢;exact⟨rfl,d⟩
 .rw[if_neg c]
  exact⟨rfl,PSw.refl⟩⟩
theorem zLD{g}{b k}(d:b<g.blocks.length)(m:k<(blkG g b).stmts.length):cntG (rmG g b k)<cntG g:=by
 have j:(rmG g b k).blocks.length=g.blocks.length:=by simp[rmG]
 have e:∀i,i<g.blocks.length->blkG (rmG g b k) i=if b=i then⟨(blkG g b).addr,(blkG g b).stmts.eraseIdx k⟩else blkG g i:=λi c=>by rw[zaR (by rw[j];exact c),zaR c];simp only[rmG,Wz]
 unfold cntG;rw[j];refine(zDk λi c=>?_).2 ⟨b,d,?_⟩
 .rw[e i c];split
  .rename_i h;subst h;simp only[Waa];split<;>omega
  .exact Wo _
 .rw[e b d,if_pos rfl];simp only[Waa];rw[if_pos m];omega
def zqT(l:List Sgn)(at':List Int):Nat->G->G
 |0,g=>g
 |
  n+1,g=>match zxA l at' g with
  |none=>g
  |some r=>zqT l at' n (rmG g r.1 r.2)
theorem zvT:∀{n:Nat}{g:G},cntG g<n->Steps l at' (zqT l at' n g) g/\zCN l at' (zqT l at' n g)
 |0,g,h=>absurd h (WM _)
 |
  n+1,g,h=>by
  unfold zqT
  cases hd:zxA l at' g with
  |none=>exact⟨.refl _,λi (d:i<g.blocks.length)=>by
    have:=zsX hd i (We _) (by omega);rw[zaR d]at this
    exact zwp this⟩
  |some r=>
   obtain⟨k,b⟩:=zn5 hd;have c:r.1<g.blocks.length:=by omega
   have m:=zLD c (znR b).2;obtain⟨e,j⟩:=zvT (n:=n) (g:=rmG g r.1 r.2) (by omega);exact⟨.more (zEv c b) e,j⟩
theorem zLh{g}(d:okEnds g){n m}(c:cntG g<n)(b:cntG g<m):zm8 l at' n g=zqT l at' m g :=
 zFv (zvj c).1 (zvT b).1 (zvj c).2 (zvT b).2 d
end
structure PruG(g:G):Prop where
 few:fewC g
 ok:OkG g
 sts:∀b∈g.blocks,∀s∈b.stmts,OkS s
 ends:∀b∈g.blocks,endsOk b.stmts=true
theorem zw9:∀{b:List St},endsOk b=true->∀s,b.getLast?=some s->s.op≠1
 |[],_,s,h=>by cases h
 |
  [x],h,s,hs=>by
  simp only[List.getLast?_singleton,WW]at hs;subst hs;rw[endsOk,Wd,beq_iff_eq]at h;have:=h.1;intro c;unfold zmF at this;rw[c]at this;cases this
 |
  x::y::b,h,s,hs=>by
  rw[endsOk,Wd]at h;rw[Wj]at hs;exact zw9 h.2 s hs
theorem PruG.okEnds{g:G}(h:PruG g):okEnds g:=λb c=>⟨λe=>h.ok.ends b c (by rw[e];rfl),zw9 (h.ends b c)⟩
theorem PruG.step{l:List Sgn}{m:List Int}{z y:G}(h:PruG y)(k:StepP l m z y):PruG z:=by
 have o:∀b∈z.blocks,∃c∈y.blocks,SubP l m (λ_=>false) b.stmts c.stmts:=λb o=>by
  obtain⟨i,x,rfl⟩:=WK.1 o;have n:i<y.blocks.length:=by have:=k.len;omega
  exact⟨_,Wk n,(k.blk i x n).2.subP λv B=>by cases B⟩
 refine⟨⟨by rw[k.len];exact h.few.blocks,λb g=>?_,λb g s j=>?_,λb g s j=>?_,λb g s j=>?_⟩,⟨by rw[k.len];exact h.ok.pos,λb g=>?_,λb g t p=>?_⟩,λb g s j=>?_,λb g=>?_⟩;all_goals obtain⟨c,e,d⟩:=o b g
 .exact Wf d.sub.length_le (h.few.stmts c e)
 .exact h.few.cases c e s (d.sub.mem j)
 .exact h.few.size c e s (d.sub.mem j)
 .exact h.few.exprs c e s (d.sub.mem j)
 .have q:=(h.okEnds c e);have u:=(d.endsOk (h.ends c e)).2 q.1;intro w;exact u (WP w)
 .have A:=d.last (h.okEnds c e).2;rw[k.len];refine h.ok.tgt c e t ?_;unfold zar at p⊢;rw[<-A];exact p
 .exact h.sts c e s (d.sub.mem j)
 .exact(d.endsOk (h.ends c e)).1
end Go.Ab
