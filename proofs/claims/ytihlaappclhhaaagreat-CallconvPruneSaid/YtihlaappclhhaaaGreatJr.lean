/-
  Part 18 of the proof: how the calls of this program run, over values instead of memory, and what each function computes.
-/
import Derived.KernelRfl
import Derived.Test.YtihlaappclhhaaaGreatJq
set_option maxRecDepth 100000
set_option linter.unusedVariables false
set_option linter.unusedSimpArgs false
set_option linter.unnecessarySimpa false
set_option linter.unusedSectionVars false
open Go.Ab.St renaming cells->Xa
open Go.Ab.Bl renaming cells->Xb
open Go.Ab.Sgn renaming cells->Xc
open Nat renaming reduceBEq->Xd,reduceAdd->Xe,reduceLeDiff->Xg,zero_add->Xo,reduceSub->Xp,reduceLT->Xq
open Go.Ab.Ent renaming keep->Xf,tab->Xj,tabB->Xl
open Go.Ab.AV renaming agg->Xh,int->Xi,sl->Xk,ren->Xm,tup->Xn,flat->Xr
open Go.Proofs.Tryz renaming prog->Z9
open And renaming intro→Wa
open Nat renaming zero_le→Wc,le_trans→Ws,le_refl→Wu,lt_succ_self→Wy
open Bool renaming true_and→Wd,false_and→We,and_true→Wl,and_false→Wm,and_eq_true→Wo,eq_false_iff→WA,false_eq_true→WB
open List renaming take_of_length_le→Wf,getElem_mem→Wg,getD_cons_zero→Wh,length_cons→Wi,length_take→Wj,getD_cons_succ→Wk,length_nil→Wn,all_eq_true→Wp,replicate→Wq,getD_eq_getElem?_getD→Wr,length_drop→Wt,map_cons→Wv,map_nil→Ww,length_map→Wx,take_succ_eq_append_getElem→Wz,mem_iff_getElem→WC,getElem_take→WD
namespace Go.Ab
open Go.RowKit Go.Proofs
def zDB:Option (Nat×Nat)->AV
 |none=>.tup [.int .i64 (-1),.int .i64 (-1)]
 |some r=>.tup [.int .i64 r.1,.int .i64 r.2]
def zuo(l:List Sgn)(c:List Int)(g:G)(b k:Nat):Option (Nat×Nat) :=
 match zo4 l c (LO l c g b) ((blkG g b).stmts.drop k)with
 |some j=>some (b,k+j)
 |none=>zgp l c g (g.blocks.length-(b+1)) (b+1)
theorem zB7{l}{at'}{g}{b}(h:b<g.blocks.length):zgp l at' g (g.blocks.length-b) b=zuo l at' g b 0:=by unfold zuo;rw[show g.blocks.length-b=(g.blocks.length-(b+1))+1 by omega,zgp];simp only[List.drop_zero,Xo];rfl
theorem zFw{l}{at'}{g}{b k}(h:(blkG g b).stmts.length<=k):zuo l at' g b k=zgp l at' g (g.blocks.length-(b+1)) (b+1):=by unfold zuo;rw[List.drop_of_length_le h];rfl
theorem zCW{l}{at'}{g}{b k}(h:k<(blkG g b).stmts.length):
  zuo l at' g b k=if remP (blkG g b).stmts[k] (bef l at' ((blkG g b).stmts.drop (k+1)) (LO l at' g b))=true then some (b,k)else zuo l at' g b (k+1):=by
 unfold zuo;rw[List.drop_eq_getElem_cons h,zo4];split
 .rename_i j c;split at c
  .cases c;rename_i d;rw[if_pos d];rfl
  .rename_i d;rw[if_neg d];obtain⟨i,e,rfl⟩:=Option.map_eq_some_iff.1 c;rw[e];simp only[Option.some.injEq,Prod.mk.injEq,true_and];omega
 .rename_i c;split at c
  .cases c
  .rename_i d;rw[if_neg d,Option.map_eq_none_iff.1 c]
theorem zIr{α:Type}{s:Nat}{f:α->List AV}{l:List α}{k:Nat}(h:k<l.length):
  (Xk s ((l.length:Int)-((k:Int)+1)).toNat λi j=>((l.map f).getD (((k:Int)+1).toNat+i) []).getD j .undef)=encL s f (l.drop (k+1)):=by
 unfold encL;rw[show((l.length:Int)-((k:Int)+1)).toNat=(l.drop (k+1)).length by rw[Wt];omega];congr 1;funext i j;rw[show(((k:Int)+1).toNat+i)=k+1+i by omega,List.map_drop];simp only[Wr,List.getElem?_drop]
theorem zL8{α:Type}{s:Nat}{f:α->List AV}{l:List α}{k:Nat}{H:AH}(g:∀a∈l,(f a).length=s)(h:k<=l.length):
  zec s (Xk s ((k:Int)-0).toNat λi j=>((l.map f).getD ((0:Int).toNat+i) []).getD j .undef) H=some ((l.take k).map f):=by
 rw[<-zfD (H:=H) (f:=f) (l:=l.take k) (sz:=s) λa c=>g a (List.mem_of_mem_take c)];unfold zec encL;simp only[zcA,cond_true];have e:((k:Int)-0).toNat=(l.take k).length:=by rw[Wj];omega
 rw[e];congr 1;refine List.map_congr_left λi d=>?_
 have b:=List.mem_range.1 d;rw[Wj]at b;congr 1;funext j;rw[show((0:Int).toNat+i)=i by simp,List.map_take];simp only[Wr];rw[List.getElem?_take_of_lt (by omega)]
theorem zCY(g)(F:PruG g)(l)(m)(Y:m.length<=1000000)(X:l.length=m.length):
  zw Z9 zp7 [.agg g.cells,encL 3 Xc l,encL 1 cW m] (·=zDB (zxA l m g)):=by
 refine fn_x zC3 rfl ?_;refine dcU zvO.eq_1 ?_;have hB:=hBig;have hn8:=F.few.blocks;have P:g.cells=[.int .u32 g.addr,encL 2 Xb g.blocks]:=rfl;generalize W:zxA l m g=R;have c0:∀l:List AV,(Xh l).cells=l:=λ_=>rfl
 have s0:∀l:List AV,(Xh l).solid=true:=λ_=>rfl
 refine Gw2 P @ub ?_;intros;refine zc (λb:Nat=>([(1,encL 3 Xc l),(2,encL 1 cW m),(3,encP 2 [.int .u32 g.addr,encL 2 Xb g.blocks]),(8,.int .i64 b)],[])) 0 (λb=>b<=g.blocks.length/\zgp l m g (g.blocks.length-b) b=R) (λb=>g.blocks.length-b) 0 ⟨Wc _,W⟩ (Xf rfl fin5) ?_;rintro b ⟨hb,h⟩ wf;clear wf W;refine dcU zqX.eq_1 ?_;by_cases n:b<g.blocks.length
 case neg=>
  obtain rfl:b=g.blocks.length:=by omega
  rw[Nat.sub_self,zgp]at h;subst h;refine Qi ?_;intros;refine dcU zqJ.eq_1 ?_;refine Gw1 @zrE.eq_1 ?_;intros
  exact⟨_,.tup _ _ _ rfl (λi a b u I=>match i with
   |0=>by cases u;cases I;exact .int _ _ _
   |1=>by cases u;cases I;exact .int _ _ _
   |i+2=>by cases u),rfl⟩
 rw[zB7 n]at h;have O:(g.blocks.map Xb).getD b []=(blkG g b).cells:=by rw[zaR n];exact zk n
 have A:blkG g b∈g.blocks:=by rw[zaR n];exact Wg n
 have hsl:=F.few.stmts _ A;have b1:(blkG g b).cells.getD 1 .undef=encL 8 Xa (blkG g b).stmts:=rfl;have K:(blkG g b).cells.length=2:=rfl;have w:[Xi .u32 g.addr,encL 2 Xb g.blocks]=g.cells:=rfl;refine Gw5 @dT @ub O b1 K ?_;intros;refine zc (λk:Nat=>([(1,encL 3 Xc l),(2,encL 1 cW m),(3,encP 2 [.int .u32 g.addr,encL 2 Xb g.blocks]),(8,.int .i64 b),(9,encL 8 Xa (blkG g b).stmts),(10,.int .i64 k)],[])) 0 (λk=>k<=(blkG g b).stmts.length/\zuo l m g b k=R) (λk=>(blkG g b).stmts.length-k) 0 ⟨Wc _,h⟩ (Xf rfl fin5) ?_;clear h;rintro k ⟨hk,h⟩ wf;clear wf;refine dcU zqZ.eq_1 ?_;by_cases t:k<(blkG g b).stmts.length;case neg=>rw[zFw (by omega)]at h;refine Qi ?_;intros;refine dcU zqR.eq_1 ?_;refine Gw0 ?_;intros;exact⟨b+1,⟨n,h⟩,by omega,Xf rfl fin5⟩
 rw[zCW t]at h;have p:=zk (f:=Xa) (d:=[]) t;have T:=Wg t;have H:=F.sts _ A _ T;have q:=λ(v:Int) (c:Bool)=>zsc ((blkG g b).stmts.drop (k+1)) v c l m true (λs hs=>(F.sts _ A _ (List.mem_of_mem_drop hs)).size) (by rw[Wt];omega) Y X
 have B:=λ(v:Int)=>zzh g F.few F.ok v l m true Y X
 have y:=λ(o:List Bool) (ho:o.length=g.blocks.length)=>zqY g F.few F.ok b n o ho
 generalize (blkG g b).stmts[k]=s at h p H;obtain⟨op,var,V,next,els,tgt,e,cs⟩:=s;have C:=H.asg;have J:=H.size;simp only[Xa]at p C J;unfold remP zE7 at h;simp only at h;by_cases u:op=1;case neg=>rw[decide_eq_false u,We,if_neg (by decide)]at h;have L:decide (op≠1)=true:=decide_eq_true u;refine Gw5 L @dT @dF @ub p ?_;intros;exact⟨k+1,⟨t,h⟩,by omega,Xf rfl fin5⟩
 subst u
 cases e with
 |nil=>exact absurd rfl (C rfl)
 |cons x e=>
 have hxs:zbn x<=100000:=by rw[zZ]at J;omega
 have S:=zBu _ x (Wu _);simp only[Wh,decide_true,Wd]at h;have gx:((encX x::List.map encX e).getD (Int.toNat 0) [])=encX x:=rfl;have L:decide ((1:Int)≠1)=false:=rfl;refine Gw8 L @dT @dF @ub p gx @zam @zab ?_;intros;refine zg (ze S (flX rfl)) ?_
 cases D:zsa x with
 |true=>rw[D]at h;simp only[Bool.not_true,We,WB,if_false]at h;refine Gw0 ?_;intros;exact⟨k+1,⟨t,h⟩,by omega,Xf rfl fin5⟩
 |false=>
 rw[D]at h;simp only[Bool.not_false,Wd]at h;have B:=B var;have Q:(zhi g.blocks.length (zhU g l m true var)).length=g.blocks.length:=ztG _ _;have y:=y _ Q;have q:=q var (outV g (zhi g.blocks.length (zhU g l m true var)) b);have N:bef l m ((blkG g b).stmts.drop (k+1)) (LO l m g b) var=befV l m true var ((blkG g b).stmts.drop (k+1)) (outV g (zhi g.blocks.length (zhU g l m true var)) b):=rfl;rw[N]at h;generalize zhi g.blocks.length (zhU g l m true var)=o at B y q h;generalize outV g o b=ov at y q h;generalize befV l m true var ((blkG g b).stmts.drop (k+1)) ov=Z at q h;have M:[g.cells.getD 0 .undef,g.cells.getD 1 .undef]=g.cells:=rfl;have U:(Xk 8 (((blkG g b).stmts.length:Int)-((k:Int)+1)).toNat λi j=>(((blkG g b).stmts.map Xa).getD (((k:Int)+1).toNat+i) []).getD j .undef)=encL 8 Xa ((blkG g b).stmts.drop (k+1)):=zIr (by omega);refine Gw6 @ub p @zC @zgJ w M ?_;intros;refine zF (ze B rfl) ?_;refine Gw6 @ub p @zC @zgJ w M ?_;intros;refine zF (ze y rfl) ?_;refine Gw7 @ub p @zC @zgJ w M U ?_;intros;refine zF (ze q rfl) ?_
 cases Z with
 |true=>simp only[Bool.not_true,WB,if_false]at h;refine Gw0 ?_;intros;exact⟨k+1,⟨t,h⟩,by omega,Xf rfl fin5⟩
 |false=>
  simp only[Bool.not_false,if_true]at h;subst h;refine Gw1 @zrE.eq_1 ?_;intros
  exact⟨_,.tup _ _ _ rfl (λi a b u I=>match i with
   |0=>by cases u;cases I;exact .int _ _ _
   |1=>by cases u;cases I;exact .int _ _ _
   |i+2=>by cases u),rfl⟩
def pruA(l:List Sgn)(b:List Int)(g:G):AV:=if errC g l.length b≠0 then .tup [.agg (G.cells ⟨0,[]⟩),.int .i64 (errC g l.length b)]else .tup [.agg (zm8 l b (cntG g+1) g).cells,.int .i64 0]
theorem PruG.of{g:G}(d:fewC g){l:List Sgn}{b:List Int}(c:errC g l.length b=0):PruG g :=
 ⟨d,(zBj d (zhb c).2.1).1,(zBj d (zhb c).2.1).2,zvw (zhb c).2.1⟩
def upI(i:Nat):List Int:=(List.range i).map λ(v:Nat)=>(v:Int)
theorem zKV{i}:((upI i).map cI).take i++[[.int .i64 i]]=(upI (i+1)).map cI:=by rw[Wf (by simp[upI])];unfold upI;rw[List.range_succ];simp[cI]
theorem zMj{i}:(upI i).length=i:=by simp[upI]
theorem zH5{H H2}{σ}{D}{t}(b:D 3 0)(h:H.get 3 0=some (.row 1 ((zax true).map cI) 12)):Vw H H2 σ D t (.own 3 0 12 0 12) (za (zax true)) :=
 zbv (l:=zax true) b h (by decide)
theorem zLq{H H2}{σ}{D}{t}{r q g}{l}(b:D r q)(d:H.get r q=some (.row 2 (l.map Xb) g))(c:l.length<=big):Vw H H2 σ D t (.own r q g 0 l.length) (encL 2 Xb l) :=
 zhg b d c λ_ _ _ _=>zcL (zfB rfl)
theorem Qba{p:Prop}(h:p:=by(try simp only[evWB,Nat.reduceBEq,Nat.reduceAdd,Nat.reduceSub,Nat.reduceLeDiff,Nat.reduceLT,implies_true])<;>(repeat' with_reducible apply And.intro)<;>first|(first|exact zb|exact zj|exact RowV.of_flat (zdg _ _)|exact zM rfl;done)|exact fin8):p:=h
theorem Qbb{p:Prop}(h:p:=by(try simp only[evWB,Nat.reduceBEq,Nat.reduceAdd,Nat.reduceSub,Nat.reduceLeDiff,Nat.reduceLT,implies_true])<;>(repeat' with_reducible apply And.intro)<;>first|(first|exact zb|exact RowV.of_flat (zT rfl);done)|exact fin8):p:=h
theorem Qbc{p:Prop}(h:p:=by(try simp only[evWB,Nat.reduceBEq,Nat.reduceAdd,Nat.reduceSub,Nat.reduceLeDiff,Nat.reduceLT,implies_true])<;>(repeat' with_reducible apply And.intro)<;>first|(first|exact zb|exact RowV.of_flat zao|exact zH5 rfl rfl;done)|exact fin8):p:=h
theorem Qbd{p:Prop}(h:p:=by(try simp only[evWB,Nat.reduceBEq,Nat.reduceAdd,Nat.reduceSub,Nat.reduceLeDiff,Nat.reduceLT,implies_true])<;>(repeat' with_reducible apply And.intro)<;>first|(first|exact zb|exact RowV.of_flat zao|exact zM rfl;done)|exact fin8):p:=h
theorem Qbe{d e g p:Prop}(a0:d)(b:e)(c:g)(h:d->e->g->p:=by intro a0 b c;(try simp only[evWB,Nat.reduceBEq,Nat.reduceAdd,Nat.reduceSub,Nat.reduceLeDiff,Nat.reduceLT,implies_true,a0,b,c])<;>(repeat' with_reducible apply And.intro)<;>first|(first|exact zb|exact RowV.of_flat zao|exact zM rfl;done)|exact fin8):p:=h a0 b c
theorem Qbf{b p:Prop}(a0:b)(h:b->p:=by intro a0;(try simp only[evWB,Nat.reduceBEq,Nat.reduceAdd,Nat.reduceSub,Nat.reduceLeDiff,Nat.reduceLT,implies_true,a0])<;>(repeat' with_reducible apply And.intro)<;>first|(first|exact zb|exact RowV.of_flat zao|exact zkf λ_=>rfl|exact zM rfl;done)|exact fin8):p:=h a0
set_option maxHeartbeats 2000000 in
theorem ztA(g)(I:fewC g)(l)(at')(hl:at'.length<=1000000)(hll:l.length<=1000000)(ha:∀a,(zaJ l at' a).args.length<=9223372036854775807):
  zw Z9 zbl [.agg g.cells,encL 3 Xc l,encL 1 cW at'] (·=pruA l at' g):=by
 refine fn_x zs1 rfl ?_;unfold znb pruA;conv in Z8 _ _=>reduce
 have hB:=hBig;have L:=zmZ g I l at' hl hll;have v:=λ(u:errC g l.length at'=0)=>PruG.of I u
 have M:=λ(u:errC g l.length at'=0)=>(zhb u).1
 generalize errC g l.length at'=er at L v M⊢;have hcg:=zoQ g (Ws I.blocks (by decide)) (λb hb=>⟨Ws (I.stmts b hb) (by decide),λs W=>⟨Ws (I.size b hb s W) (by decide),Ws (I.cases b hb s W) (by decide)⟩⟩);have hgc:g.cells=[.int .u32 g.addr,encL 2 Xb g.blocks]:=rfl;have R:[g.cells.getD 0 .undef,g.cells.getD 1 .undef]=g.cells:=rfl;have T:g.cells.length=2:=rfl;have B:∀l:List AV,(Xh l).cells=l:=λ_=>rfl
 have F:∀l:List AV,(Xh l).solid=true:=λ_=>rfl
 have A:∀(H:AH)(x:AV)(y:G)(n:Int),Frz H x (.agg y.cells)->∃a,Frz H (.tup [x,.int .i64 n]) a/\a=.tup [.agg y.cells,.int .i64 n]:=λH x y n hx=>⟨.tup [.agg y.cells,.int .i64 n],.tup _ _ _ rfl (λi a b e p=>match i with
  |0=>by cases e;cases p;exact hx
  |1=>by cases e;cases p;exact .int _ _ _
  |i+2=>by cases e),rfl⟩
 have Q:∀H:AH,Frz H (.agg [.int .u32 0,.nilsl]) (.agg (G.cells ⟨0,[]⟩)):=λH=>.agg _ _ _ rfl (λi a b e p=>match i with
  |0=>by cases e;cases p;exact .int _ _ _
  |1=>by cases e;cases p;exact .nil0 _ _ _
  |i+2=>by cases e)
 refine Gw6 R T B F @ub @zC ?_;intros;refine zg (ze L rfl) ?_;by_cases u:er=0;case neg=>rw[if_pos u];refine Gw6 @dT R T B F @zio.eq_1 ?_;intros;exact A _ _ ⟨0,[]⟩ _ (Q _)
 rw[if_neg (λh=>h u)];subst u;have v:=v rfl;have hnt:=zdS l at' hl (M rfl);refine Gw7 @dF R T B F @ub @zC ?_;intros;refine zx [] 0 _ hnt rfl rfl Qba Qba ?_;rintro _ _ _ ⟨rfl,rfl,c,J,rfl,ht⟩;refine Qk ?_;intros;refine zc (λi:Nat=>([(3,.ptr 0 0 0 0 0),(6,.ptr 1 0 0 0 0),(9,.mp 2 0),(10,.own 3 0 i 0 i),(28,.int .i64 i)],[(0,.row 2 [g.cells] 0),(1,.row 2 [[.int .u32 0,.nilsl]] 0),(2,.row 3 (tabM c J) 0),(3,.row 1 ((upI i).map cI) i)])) 4 (λi=>i<=12) (λi=>12-i) 0 (by omega) (Xl [(0,0,0),(1,1,0),(2,2,0),(3,3,0)] [] rfl rfl rfl Qbb Qbb) ?_;intro i U wf;refine dcU zjT.eq_1 ?_;by_cases hil:i<12
 ·(refine Gw2 @dT @zMj ?_;intros);rw[zKV];exact⟨i+1,by omega,by omega,(Xl [(0,0,0),(1,1,0),(2,2,0),(3,3,0)] [] rfl rfl rfl Qbb Qbb)⟩
 obtain rfl:i=12:=by omega
 rw[show upI 12=zax true from rfl];clear hil U wf;refine Qa ?_;intros;refine dcU zjN.eq_1 ?_;refine Gw4 R T @ub @zC ?_;intros;refine zx [] 0 _ hcg rfl rfl Qba Qba ?_;rintro _ _ _ ⟨rfl,rfl,rfl⟩
 (repeat first|simp(disch:=try exact dis1) only[evD,Xd,Xe,Xg,zFJ,zdP,Xm,fldP,zC,Wv,Ww,B,F]|with_reducible first|intro _|refine aJ ?_)
 refine zc (λs:G×Bool=>([(3,.ptr 0 0 0 0 0),(6,.ptr 1 0 0 0 0),(9,.mp 2 0),(10,za (zax true)),(12,.bool s.2)],[(0,.row 2 [[.int .u32 s.1.addr,.own 3 0 0 0 s.1.blocks.length]] 0),(1,.row 2 [[.int .u32 0,.nilsl]] 0),(2,.row 3 (tabM c J) 0),(3,.row 2 (s.1.blocks.map Xb) 0)])) 4 (λs=>RoundP l at' (zm8 l at' (cntG g+1) g) s.1 s.2) (λs=>2*cntG s.1+(if s.2=true then 1 else 0)) (g,true) (RoundP.start v)
  (Xl [(0,0,0),(1,1,0),(2,2,0),(3,4,0)] [3] rfl rfl rfl Qbc Qbc) ?_
 rintro⟨z,ch⟩ m wf;clear wf;simp only at m;refine dcU zjH.eq_1 ?_
 cases ch with
 |false=>
  have hzR:=m.fin rfl;refine Gw0 ?_;intros;refine dcU zjJ.eq_1 ?_;refine Gw3 @ub @zC @zio.eq_1 ?_;intros;rw[<-hzR]
  exact A _ _ _ _ (.agg _ _ _ rfl (λi a b e p=>match i with
   |0=>by cases e;cases p;exact .int _ _ _
   |1=>by cases e;cases p;exact zLq trivial rfl (by have:=m.ok.few.blocks;omega)
   |i+2=>by cases e))
 |true=>
  refine Gw2 @ub @zC ?_;intros;have j:=zCV m.ok.few m.ok.ok m.ok.sts l at' true ha;refine zx [(0,2,0),(1,3,0)] 2 _ (zte z l at' true (allU z) 900 c J ht j) rfl rfl Qbd Qbd ?_;rintro _ _ _ ⟨S,rfl,rfl,rfl,K⟩;simp only[zEc]
  (repeat first|simp(disch:=try exact dis1) only[evD,Xd,Xe,Xg,zFJ,zdP,renM,renF,renP,Xm,fldP,zC]|with_reducible first|intro _|refine aJ ?_)
  have hn8:=m.ok.few.blocks;refine zc (λk:Nat=>([(3,.ptr 0 0 0 0 0),(6,.ptr 1 0 0 0 0),(9,.mp 2 0),(10,za (zax true)),(12,.bool (chgN l at' z k)),(13,.own 4 0 0 0 z.blocks.length),(44,.own 3 0 0 0 z.blocks.length),(45,.int .i64 z.blocks.length),(46,.int .i64 k)],[(0,.row 2 [[.int .u32 z.addr,.own 3 0 0 0 z.blocks.length]] 0),(1,.row 2 [[.int .u32 0,.nilsl]] 0),(2,.row 3 (tabM c J) 0),(3,.row 2 ((mixG l at' z k).map Xb) 0),(4,.row 1 (mps 5 z.blocks.length) 0),(5,famS z.blocks.length S)])) 6 (λk=>k<=z.blocks.length) (λk=>z.blocks.length-k) 0 (by omega) (by rw[zJ2];exact(Xl [(0,0,0),(1,1,0),(2,2,0),(3,3,0),(4,6,0),(5,7,0)] [] rfl rfl rfl (Qbe @zd @ua @uf) (Qbe @zd @ua @uf))) ?_;intro k hk wf;clear wf;refine dcU zji.eq_1 ?_;by_cases d:k<z.blocks.length
  .have hgb:=zLQ (l:=l) (at':=at') d;have w:=zMN (l:=l) (at':=at') d;have D:((mixG l at' z k).map Xb).set k (Xb ⟨(blkG z k).addr,zfk l at' z k⟩)=(mixG l at' z (k+1)).map Xb:=w;have hdi:decide (((zfk l at' z k).length:Int)<((blkG z k).stmts.length:Int))=decide ((zfk l at' z k).length<(blkG z k).stmts.length):=decide_eq_decide.2 (by omega);have O:=zzo (l:=l) (at':=at') (g:=z) (k:=k);have Y:=zrq j.ok d;have N:blkG z k∈z.blocks:=by rw[zaR d];exact Wg d
   have Z:zar (blkG z k).stmts=(edgB z k).map λ(t:Nat)=>(t:Int):=by rw[zaR d];exact zu4 j.ok d
   have hroom:=j.room k d;have hat:=ziE (blkG z k) (λs W=>(j.siz _ N s W).2) z.blocks.length S (edgB z k) Z Y (j.edg k d) (by omega) (allU z).length (by omega) (λi U=>⟨(K.inU i U).ok,(K.inU i U).len⟩);have o:=λ(a:MS) (u:a.ok) (e:a.1<=(((edgB z k).length*(allU z).length:Nat):Int)) (p:a.2.length<=(edgB z k).length*(allU z).length) (V:∀y,y∈a.keys↔outY S (edgB z k) y)=>ztq (blkG z k).addr (blkG z k).stmts l at' (allU z) 900 a (zMl m.ok ha K d u e p V) (by rw[zEx K m.ok.sts d Y V];exact zJl m.ok d) c J ht
   have hsa:=λ(a:MS) (V:∀y,y∈a.keys↔outY S (edgB z k) y)=>zEx (l:=l) (at':=at') K m.ok.sts d Y V
   have C:=zGu (l:=l) (at':=at') (g:=z) (k:=k);have b2:[(blkG z k).cells.getD 0 .undef,(blkG z k).cells.getD 1 .undef]=(blkG z k).cells:=rfl;have q:(blkG z k).cells.length=2:=rfl;have n2:[(Xb ⟨(blkG z k).addr,zfk l at' z k⟩).getD 0 .undef,(Xb ⟨(blkG z k).addr,zfk l at' z k⟩).getD 1 .undef]=(zun l at' z k).cells:=rfl;have nr:∀ρ:Nat->Nat,List.map (Xm ρ) (Xb ⟨(blkG z k).addr,zfk l at' z k⟩)=Xb ⟨(blkG z k).addr,zfk l at' z k⟩:=λ_=>by simp only[Xb,Wv,Ww,Xm,encL]
   have nl2:(Xb ⟨(blkG z k).addr,zfk l at' z k⟩).length=2:=rfl;have n1:(Xb ⟨(blkG z k).addr,zfk l at' z k⟩).getD 1 .undef=encL 8 Xa (zfk l at' z k):=rfl;have b1:(blkG z k).cells.getD 1 .undef=encL 8 Xa (blkG z k).stmts:=rfl;have X:(zun l at' z k).cells.length=2:=rfl;refine Gw7 @dT O hgb b2 q @ub @zC ?_;intros
   (repeat' with_reducible apply Wa)
   all_goals(refine zx [(0,4,0),(1,5,0)] 2 _ hat rfl rfl (Qbf @atH.eq_1) (Qbf @atH.eq_1) ?_)
   all_goals(rintro _ _ _ ⟨rfl,rfl,a,rfl,ha0,hl1,hl2,P⟩;simp only[atH,List.cons_append,List.nil_append])
   all_goals(have o:=o a ha0 hl1 hl2 P;rw[hsa a P]at o)
   all_goals(repeat first|simp(disch:=try exact dis1) only[evD,Xd,Xe,Xg,renM,renF,renP,zFJ,zdP,Xm,b2,q,B,F,fldP,zC]|with_reducible first|intro _|refine aJ ?_)
   (repeat' with_reducible apply Wa)
   all_goals first
    |(show zCR _ _ [_,.mp 9 0,_,_] _ _ _;refine zx [(0,9,0),(1,2,0)] 2 _ o rfl rfl (Qbf @zd) (Qbf @zd) ?_)
    |(refine zx [(0,10,0),(1,2,0)] 2 _ o rfl rfl (Qbf @zd) (Qbf @zd) ?_)
   all_goals(rintro _ _ _ ⟨rfl,rfl,rfl⟩)
   all_goals(repeat first|simp(disch:=try exact dis1) only[evD,Xd,Xe,Xg,renM,renF,renP,zFJ,zdP,Xm,nr,b2,q,B,F,fldP,zC]|with_reducible first|intro _|refine aJ ?_)
   all_goals(rcases Bool.eq_false_or_eq_true (chgN l at' z k)with hc|hc)
   all_goals(repeat first|simp(disch:=try exact dis1) only[evD,Xd,Xe,Xg,hc,nr,n2,nl2,n1,b1,X,O,w,dT,dF,zFJ,b2,q,B,F,fldP,zC]|with_reducible first|intro _|refine aJ ?_)
   all_goals(rw[hc]at C;simp only[Bool.true_or,Bool.false_or]at C)
   all_goals(refine⟨k+1,by omega,by omega,?_⟩)
   all_goals(rw[D,C];try rw[hdi])
   all_goals exact(Xl [(0,0,0),(1,1,0),(2,2,0),(3,3,0),(4,4,0),(5,5,0)] [] rfl rfl rfl (Qbe @zd @ua @uf) (Qbe @zd @ua @uf))
  .obtain rfl:k=z.blocks.length:=by omega
   refine Qa ?_;intros;refine⟨(zhv l at' z,chgN l at' z z.blocks.length),m.next,RoundP.less,?_⟩;have e1:(zhv l at' z).blocks.length=z.blocks.length:=zmT;have e2:(zhv l at' z).addr=z.addr:=rfl;simp only[e1,e2];rw[<-zKM];exact(Xl [(0,0,0),(1,1,0),(2,2,0),(3,3,0)] [] rfl rfl rfl (Qbe @zd @ua @uf) (Qbe @zd @ua @uf))
structure RoundR(l:List Sgn)(at':List Int)(R z:G)(b k:Int):Prop where
 ok:PruG z
 at_:Xn [.int .i64 b,.int .i64 k]=zDB (zxA l at' z)
 more:∃m,cntG z<m/\zqT l at' m z=R
theorem zEL{l}{at'}{g}:∃b k:Int,Xn [.int .i64 b,.int .i64 k]=zDB (zxA l at' g):=by
 cases zxA l at' g with
 |none=>exact⟨_,_,rfl⟩
 |some r=>exact⟨_,_,rfl⟩
theorem RoundR.next{l}{at'}{R z}{b k}(h:RoundR l at' R z b k):
  (b = -1/\z=R)\/∃g n:Nat,b=g/\k=n/\g<z.blocks.length/\n<(blkG z g).stmts.length/\cntG (rmG z g n)<cntG z/\∀c d:Int,Xn [.int .i64 c,.int .i64 d]=zDB (zxA l at' (rmG z g n))->RoundR l at' R (rmG z g n) c d:=by
 obtain⟨m,y,j⟩:=h.more;have e:=h.at_
 cases m with
 |zero=>omega
 |succ m=>
 unfold zqT at j
 cases hd:zxA l at' z with
 |none=>
  rw[hd]at e j;unfold zDB at e;injection e with e
  injection e with p o
  injection p with _ q
  exact .inl ⟨q,j⟩
 |some r=>
  rw[hd]at e j;unfold zDB at e;injection e with e
  injection e with p o
  injection o with o _
  injection p with _ q
  injection o with _ w
  obtain⟨A,u⟩:=zn5 hd;have t:r.1<z.blocks.length:=by omega
  have v:=(znR u).2;have x:=zLD t v;exact .inr ⟨r.1,r.2,q,w,t,v,x,λc d s=>⟨h.ok.step (zEv t u),s,⟨m,by omega,j⟩⟩⟩
theorem zER{H e:AH}{σ:Nat->Nat->Option (Nat×Nat×Nat)}{z:G}{r γ:Nat}{t:Bool}(h:H.get r 0=some (.row 2 (z.blocks.map Xb) γ))(g:z.blocks.length<=big):Vw H e σ allR t (.agg [.int .u32 z.addr,.own r 0 γ 0 z.blocks.length]) (.agg z.cells) :=
 .agg _ _ _ rfl (λi a b c d=>match i with
  |0=>by cases c;cases d;exact .int _ _ _
  |1=>by cases c;cases d;exact zLq trivial h g
  |i+2=>by cases c)
theorem zL0{H s:AH}{σ:Nat->Nat->Option (Nat×Nat×Nat)}{D:Nat->Nat->Prop}{t:Bool}{r o γ p b m:Nat}{l:List Bl}{d:Int}{c:List St}(w:D r 0)(k:D o 0)(h:H.get r 0=some (.row 2 ((l.map Xb).set b [.int .u32 d,.own o 0 p 0 m]) γ))(x:l.length<=big)(v:H.get o 0=some (.row 8 (c.map Xa) p))(A:m=c.length)(n:m<=big) :
  Vw H s σ D t (.own r 0 γ 0 l.length) (encL 2 Xb (l.set b ⟨d,c⟩)):=by
 have e:encL 2 Xb (l.set b ⟨d,c⟩)=.sl 2 l.length (λi j=>(((l.set b ⟨d,c⟩).map Xb).getD i []).getD j .undef):=by unfold encL;rw[List.length_set]
 rw[e];refine .frz t r 0 γ 0 l.length 2 _ _ w h x (by simp) (λi j q y=>?_);rw[Xo];have u:(l.set b ⟨d,c⟩).map Xb=(l.map Xb).set b (Xb ⟨d,c⟩):=List.map_set;rw[u];simp only[Wr,List.getElem?_set];by_cases g:b=i
 .subst g;simp only[if_true,Wx,if_pos q,Option.getD_some]
  match j,y with
  |0,_=>exact .int _ _ _
  |1,_=>subst A;exact zfP k v n
 .simp only[if_neg g];rw[List.getElem?_map,List.getElem?_eq_getElem q];exact zcL (by rw[<-Wr];exact zfB rfl)
theorem Qbg{p:Prop}(h:p:=by(try simp only[evWB,Nat.reduceBEq,Nat.reduceAdd,Nat.reduceSub,Nat.reduceLeDiff,Nat.reduceLT,implies_true])<;>(repeat' with_reducible apply And.intro)<;>first|(first|exact zb|exact RowV.of_flat zao|exact zM rfl;done)|exact fin6):p:=h
theorem zBT(g)(hf:fewC g)(l)(at')(hl:at'.length<=1000000)(hll:l.length<=1000000):
  zw Z9 zrK [.agg g.cells,encL 3 Xc l,encL 1 cW at'] (·=if errC g l.length at'≠0 then .tup [.agg (G.cells ⟨0,[]⟩),.int .i64 (errC g l.length at')]else .tup [.agg (zqT l at' (cntG g+1) g).cells,.int .i64 0]):=by
 refine fn_x zz6 rfl ?_;refine dcU zuv.eq_1 ?_;have hB:=hBig;have hck:=zz3 g l.length at' hl (ztx hf);have m:=λ(S:errC g l.length at'=0)=>PruG.of hf S
 have W:=λ(S:errC g l.length at'=0)=>(zhb S).1
 generalize errC g l.length at'=er at hck m W⊢;have hgc:g.cells=[.int .u32 g.addr,encL 2 Xb g.blocks]:=rfl;have g2:[g.cells.getD 0 .undef,g.cells.getD 1 .undef]=g.cells:=rfl;have gl:g.cells.length=2:=rfl;have Y:∀l:List AV,(Xh l).cells=l:=λ_=>rfl
 have Z:∀l:List AV,(Xh l).solid=true:=λ_=>rfl
 have Q:∀(H:AH)(x:AV)(y:G)(n:Int),Frz H x (.agg y.cells)->∃a,Frz H (.tup [x,.int .i64 n]) a/\a=.tup [.agg y.cells,.int .i64 n]:=λH x y n hx=>⟨.tup [.agg y.cells,.int .i64 n],.tup _ _ _ rfl (λi a b o T=>match i with
  |0=>by cases o;cases T;exact hx
  |1=>by cases o;cases T;exact .int _ _ _
  |i+2=>by cases o),rfl⟩
 have hnil:∀H:AH,Frz H (.agg [.int .u32 0,.nilsl]) (.agg (G.cells ⟨0,[]⟩)):=λH=>.agg _ _ _ rfl (λi a b o T=>match i with
  |0=>by cases o;cases T;exact .int _ _ _
  |1=>by cases o;cases T;exact .nil0 _ _ _
  |i+2=>by cases o)
 refine Gw6 g2 gl Y Z @ub @zC ?_;intros;refine zg (ze hck rfl) ?_;by_cases S:er=0;case neg=>rw[if_pos S];refine Gw6 @dT g2 gl Y Z @zoY.eq_1 ?_;intros;exact Q _ _ ⟨0,[]⟩ _ (hnil _)
 rw[if_neg (λh=>h S)];subst S;have m:=m rfl;have W:=W rfl;have hn8:=hf.blocks;have hg1:g.cells.getD 1 .undef=encL 2 Xb g.blocks:=rfl;have hg0:g.cells.getD 0 .undef=.int .u32 g.addr:=rfl;have hbw:zec 2 (encL 2 Xb g.blocks) [(0,.row 2 [g.cells] 0),(1,.row 2 [[.int .u32 0,.nilsl]] 0),(2,.row 2 [] 0)]=some (g.blocks.map Xb):=zfD λ_ _=>rfl
 have hsp:∀γ:Nat,splice g.cells 1 [.own 2 0 γ 0 g.blocks.length]=[.int .u32 g.addr,.own 2 0 γ 0 g.blocks.length]:=λ_=>rfl
 refine Gw11 @dF g2 gl Y Z hg0 hg1 hbw hsp @ub @zC ?_;intros;obtain⟨b,k,U⟩:=zEL (l:=l) (at':=at') (g:=g);have hdd:=λ(z:G) (b k:Int) (X:PruG z) (h:Xn [.int .i64 b,.int .i64 k]=zDB (zxA l at' z))=>by have:=zCY z X l at' hl (by omega);rw[<-h]at this;exact this
 refine zg (zaH (D:=allR) (hdd g b k m U) (.cons (zER rfl (by omega)) (.cons (zM rfl) (.cons (zM rfl) .nil))) (.inl rfl)) ?_;refine Gw0 ?_;intros
 refine zc (λs:G×Int×Int=>([(1,encL 3 Xc l),(2,encL 1 cW at'),(3,.ptr 0 0 0 0 0),(6,.ptr 1 0 0 0 0),(9,.int .i64 s.2.1),(10,.int .i64 s.2.2)],[(0,.row 2 [[.int .u32 s.1.addr,.own 2 0 0 0 s.1.blocks.length]] 0),(1,.row 2 [[.int .u32 0,.nilsl]] 0),(2,.row 2 (s.1.blocks.map Xb) 0)])) 3 (λs=>RoundR l at' (zqT l at' (cntG g+1) g) s.1 s.2.1 s.2.2) (λs=>cntG s.1) (g,b,k) ⟨m,U,⟨_,Wy _,rfl⟩⟩
  (Xj [(0,0,0),(1,1,0),(2,2,1)] [] rfl Qbg Qbg) ?_
 rintro⟨z,b,k⟩ X wf;clear wf U;simp only at X;unfold zoU;rcases X.next with ⟨rfl,hzR⟩|⟨b,k,rfl,rfl,hb,hk,hc,hn⟩
 .have d1:decide ((0:Int) <= -1)=false:=by decide
  refine Gw1 d1 ?_;intros;refine dcU zo3.eq_1 ?_;refine Gw3 @ub @zC @zoY.eq_1 ?_;intros;rw[<-hzR];exact Q _ _ _ _ (zER rfl (by have:=X.ok.few.blocks;omega))
 .have d1:decide ((0:Int)<=(b:Int))=true:=by simp
  have V:(z.blocks.map Xb).getD b []=(blkG z b).cells:=by rw[zaR hb];exact zk hb
  have b2:[(blkG z b).cells.getD 0 .undef,(blkG z b).cells.getD 1 .undef]=(blkG z b).cells:=rfl;have R:(blkG z b).cells.length=2:=rfl;refine Gw8 d1 V b2 R Y Z @ub @zC ?_;intros;have hsw:∀s∈(blkG z b).stmts,(Xa s).length=8:=λ_ _=>rfl
  have b1:(blkG z b).cells.getD 1 .undef=encL 8 Xa (blkG z b).stmts:=rfl;have hs10:(blkG z b).stmts.length<=10:=X.ok.few.stmts _ (by rw[zaR hb];exact Wg hb);have hse:∀H,zec 8 (Xk 8 ((k:Int)-0).toNat λi j=>(((blkG z b).stmts.map Xa).getD ((0:Int).toNat+i) []).getD j .undef) H=some (((blkG z b).stmts.take k).map Xa):=λH=>zL8 hsw (by omega)
  have he2:∀H,zec 8 (encL 8 Xa ((blkG z b).stmts.drop (k+1))) H=some (((blkG z b).stmts.drop (k+1)).map Xa):=λH=>zfD λ_ _=>rfl
  have hk0:((k:Int)-0).toNat=k:=by omega
  have hse2:∀H,zec 8 (Xk 8 k λi j=>(((blkG z b).stmts.map Xa).getD ((0:Int).toNat+i) []).getD j .undef) H=some (((blkG z b).stmts.take k).map Xa):=λH=>by rw[<-hse H,hk0]
  have hlv:∀f:Nat->Nat->AV,lenV (Xk 8 k f)=some k:=λ_=>rfl
  have hft:∀(H:AH)(f:Nat->Nat->AV),fits H (Xk 8 k f)=True:=λ_ _=>rfl
  have hsp3:∀x,splice (blkG z b).cells 1 [x]=[.int .u32 (blkG z b).addr,x]:=λ_=>rfl
  have hdl:((blkG z b).stmts.drop (k+1)).length=(blkG z b).stmts.length-(k+1):=by rw[Wt]
  have her:((blkG z b).stmts.take k).map Xa++((blkG z b).stmts.drop (k+1)).map Xa=((blkG z b).stmts.eraseIdx k).map Xa:=by rw[<-List.map_append,<-List.eraseIdx_eq_take_drop_succ]
  have hsd:(Xk 8 (((blkG z b).stmts.length:Int)-((k:Int)+1)).toNat λi j=>(((blkG z b).stmts.map Xa).getD (((k:Int)+1).toNat+i) []).getD j .undef)=encL 8 Xa ((blkG z b).stmts.drop (k+1)):=zIr (by omega);have hn2:(List.nil:List (List AV)).take 0=[]:=rfl;have htk:(((blkG z b).stmts.take k).map Xa).length=k:=by rw[Wx,Wj];omega
  have htk2:(((blkG z b).stmts.take k).map Xa).take k=((blkG z b).stmts.take k).map Xa:=Wf (by omega);refine zsA zna zuT zsZ zk8 [(47,.own 4 0 0 0 0),(48,.ptr 3 0 0 0 1),(49,encL 8 Xa (blkG z b).stmts),(50,.int .i64 k),(51,(.sl 8 ((k:Int)-0).toNat λi j=>(((blkG z b).stmts.map Xa).getD ((0:Int).toNat+i) []).getD j .undef)),(52,.own 4 0 1 0 k),(53,.ptr 3 0 0 0 1),(54,encL 8 Xa (blkG z b).stmts),(55,.int .i64 k),(56,.int .i64 ((k:Int)+1)),(57,encL 8 Xa ((blkG z b).stmts.drop (k+1))),(58,.own 4 0 2 0 (k+((blkG z b).stmts.length-(k+1)))),(59,.ptr 3 0 0 0 1)] (hsOf [([(0,.row 2 [[.int .u32 z.addr,.own 2 0 0 0 z.blocks.length]] 0),(1,.row 2 [[.int .u32 0,.nilsl]] 0),(2,.row 2 (z.blocks.map Xb) 0),(3,.row 2 [(blkG z b).cells] 0)],4),([(0,.row 2 [[.int .u32 z.addr,.own 2 0 0 0 z.blocks.length]] 0),(1,.row 2 [[.int .u32 0,.nilsl]] 0),(2,.row 2 (z.blocks.map Xb) 0),(3,.row 2 [(blkG z b).cells] 0),(4,.row 8 [] 0)],5),([(0,.row 2 [[.int .u32 z.addr,.own 2 0 0 0 z.blocks.length]] 0),(1,.row 2 [[.int .u32 0,.nilsl]] 0),(2,.row 2 (z.blocks.map Xb) 0),(3,.row 2 [(blkG z b).cells] 0),(4,.row 8 (((blkG z b).stmts.take k).map Xa) 1)],5),([(0,.row 2 [[.int .u32 z.addr,.own 2 0 0 0 z.blocks.length]] 0),(1,.row 2 [[.int .u32 0,.nilsl]] 0),(2,.row 2 (z.blocks.map Xb) 0),(3,.row 2 [(blkG z b).cells] 0),(4,.row 8 (((blkG z b).stmts.eraseIdx k).map Xa) 2)],5),([(0,.row 2 [[.int .u32 z.addr,.own 2 0 0 0 z.blocks.length]] 0),(1,.row 2 [[.int .u32 0,.nilsl]] 0),(2,.row 2 (z.blocks.map Xb) 0),(3,.row 2 [[.int .u32 (blkG z b).addr,.own 4 0 2 0 (k+((blkG z b).stmts.length-(k+1)))]] 0),(4,.row 8 (((blkG z b).stmts.eraseIdx k).map Xa) 2)],5)]) (by kernel_rfl) (by rfl) (by rfl) (by repeat' first|exact QExt.retK|apply QExt.seq|apply QExt.block|apply QExt.loop|apply QExt.join|assumption) ?plan [] (by rfl) ?fin
  case' plan=>
   intro d hs e hH;have w:d.get 47=.own 4 0 0 0 0:=by rw[e,zi];rfl
   have A:d.get 48=.ptr 3 0 0 0 1:=by rw[e,zi];rfl
   have B:d.get 49=encL 8 Xa (blkG z b).stmts:=by rw[e,zi];rfl
   have C:d.get 50=.int .i64 k:=by rw[e,zi];rfl
   have F:d.get 51=(.sl 8 ((k:Int)-0).toNat λi j=>(((blkG z b).stmts.map Xa).getD ((0:Int).toNat+i) []).getD j .undef):=by rw[e,zi];rfl
   have I:d.get 52=.own 4 0 1 0 k:=by rw[e,zi];rfl
   have J:d.get 53=.ptr 3 0 0 0 1:=by rw[e,zi];rfl
   have K:d.get 54=encL 8 Xa (blkG z b).stmts:=by rw[e,zi];rfl
   have L:d.get 55=.int .i64 k:=by rw[e,zi];rfl
   have M:d.get 56=.int .i64 ((k:Int)+1):=by rw[e,zi];rfl
   have N:d.get 57=encL 8 Xa ((blkG z b).stmts.drop (k+1)):=by rw[e,zi];rfl
   have O:d.get 58=.own 4 0 2 0 (k+((blkG z b).stmts.length-(k+1))):=by rw[e,zi];rfl
   have P:d.get 59=.ptr 3 0 0 0 1:=by rw[e,zi];rfl
   have u:d.get 10=.int .i64 k:=by rw[e,zi];rfl
   have v:d.get 11=.ptr 3 0 0 0 0:=by rw[e,zi];rfl
   simp only[zk8,zis,zkR,and_true]
   (repeat' with_reducible apply Wa)
   all_goals(rw[hH];simp only[znI,zlP,Wk,Wh,hsOf,hsAt,beqL,zgc,Xd,Wl,Wd,Wm,We,cond_true,cond_false,Wi,Wn,Xe])
   all_goals try(simp(disch:=try exact dis1) only[evD,Xd,Xe,Xg,zci,zbt,w,A,B,C,F,I,J,K,L,M,N,O,P,u,v,V,b1,b2,R,Y,Z,fldP,zC,zpL,zgJ];done)
  case' fin=>simp only[zna,hsOf,hsAt,beqL,zgc,Xd,Wl,Wd,Wm,We,cond_true,cond_false,Wi,Wn,Xe,Wk,Wh,zaL]
  case fin=>
   have q:k+((blkG z b).stmts.length-(k+1))=((blkG z b).stmts.eraseIdx k).length:=by rw[List.length_eraseIdx,if_pos hk];omega
   have hzl:z.blocks.length<=8:=X.ok.few.blocks;obtain⟨b',k',p⟩:=zEL (l:=l) (at':=at') (g:=rmG z b k);have hn':=hn b' k' p
   have hvg:∀ {H H2:AH}{σ:Nat->Nat->Option (Nat×Nat×Nat)}{t:Bool},H.get 2 0=some (.row 2 ((z.blocks.map Xb).set b [.int .u32 (blkG z b).addr,.own 4 0 2 0 (k+((blkG z b).stmts.length-(k+1)))]) 0)->H.get 4 0=some (.row 8 (((blkG z b).stmts.eraseIdx k).map Xa) 2)->Vw H H2 σ allR t (.agg [.int .u32 z.addr,.own 2 0 0 0 z.blocks.length]) (.agg (rmG z b k).cells):=λo T=>.agg _ _ _ rfl (λi a b h3 h4=>match i with
    |0=>by cases h3;cases h4;exact .int _ _ _
    |1=>by cases h3;cases h4;exact zL0 trivial trivial o (by omega) T q (by omega)
    |i+2=>by cases h3)
   have hdd':=hdd (rmG z b k) b' k' hn'.ok p;refine Gw8 V b1 b2 R Y Z @ub @zC ?_;intros;refine zg (zaH (D:=allR) hdd' (.cons (hvg rfl rfl) (.cons (zM rfl) (.cons (zM rfl) .nil))) (.inl rfl)) ?_;refine Gw0 ?_;intros;refine⟨(rmG z b k,b',k'),hn',hc,?_⟩;have e1:(rmG z b k).blocks.length=z.blocks.length:=by simp[rmG]
   have e2:(rmG z b k).addr=z.addr:=rfl;simp only[e1,e2];have hrv:∀HH,RowV [(0,.row 2 [[.int .u32 z.addr,.own 2 0 0 0 z.blocks.length]] 0),(1,.row 2 [[.int .u32 0,.nilsl]] 0),(2,.row 2 ((z.blocks.map Xb).set b [.int .u32 (blkG z b).addr,.own 4 0 2 0 ((blkG z b).stmts.eraseIdx k).length]) 0),(3,.row 2 [[.int .u32 (blkG z b).addr,.own 4 0 2 0 ((blkG z b).stmts.eraseIdx k).length]] 0),(4,.row 8 (((blkG z b).stmts.eraseIdx k).map Xa) 2)] HH (Tab.sig [(0,0,0),(1,1,0),(2,2,0)]) (inD [4]) ((z.blocks.map Xb).set b [.int .u32 (blkG z b).addr,.own 4 0 2 0 ((blkG z b).stmts.eraseIdx k).length]) ((rmG z b k).blocks.map Xb):=λHH=>by have h:=zdE (H:=[(0,.row 2 [[.int .u32 z.addr,.own 2 0 0 0 z.blocks.length]] 0),(1,.row 2 [[.int .u32 0,.nilsl]] 0),(2,.row 2 ((z.blocks.map Xb).set b [.int .u32 (blkG z b).addr,.own 4 0 2 0 ((blkG z b).stmts.eraseIdx k).length]) 0),(3,.row 2 [[.int .u32 (blkG z b).addr,.own 4 0 2 0 ((blkG z b).stmts.eraseIdx k).length]] 0),(4,.row 8 (((blkG z b).stmts.eraseIdx k).map Xa) 2)]) (HH:=HH) (σ:=Tab.sig [(0,0,0),(1,1,0),(2,2,0)]) (D:=inD [4]) (i:=b) (c:=[.int .u32 (blkG z b).addr,.own 4 0 2 0 ((blkG z b).stmts.eraseIdx k).length]) (c':=[.int .u32 (blkG z b).addr,encL 8 Xa ((blkG z b).stmts.eraseIdx k)]) (zao (l:=z.blocks)) rfl (bl_vw (ba:=(blkG z b).addr) rfl rfl (by omega));refine h.trans_eq ?_;unfold rmG;rw[List.map_set];rfl
   rw[q];exact(Xj [(0,0,0),(1,1,0),(2,2,0)] [4] rfl (by((try simp only[evWB,Xd,Xe,Xp,Xg,Xq,implies_true])<;>(repeat' with_reducible apply Wa)<;>first|(exact hrv _;done)|exact fin6)) (by((try simp only[evWB,Xd,Xe,Xp,Xg,Xq,implies_true])<;>(repeat' with_reducible apply Wa)<;>first|(exact hrv _;done)|exact fin6)))
  all_goals(repeat first|simp(disch:=try exact dis1) only[evD,Xd,Xe,Xg,zci,zbt,w,A,B,C,F,I,J,K,L,M,N,O,P,u,v,zpL,zgJ,hlv,hft,hse,hse2,hsp3,he2,hk0,hdl,her,hsd,htk,htk2]|with_reducible first|intro _|refine aJ ?_)
  all_goals(first|omega|trace_state)
theorem flXX{r}(h:r.all Xr=true){e e2}:(Xh (encX e)::Xh (encX e2)::r).all Xr=true:=by have b:=flX (e:=e) h;have c:=flX (e:=e2) h;simp only[List.all_cons,Wo]at b c⊢;exact⟨b.1,c⟩
theorem zCU:∀(k:Nat)(e:Ex),zbn e<=k->zw Z9 zp1 [.agg (encX e),.agg (encX e)] (·=.bool true):=by
 intro k
 induction k with
 |zero=>intro e h;obtain⟨_,_,_,_,l⟩:=e;rw[zbn]at h;omega
 |succ k g=>
 intro e d;obtain⟨op,c,v,w,l⟩:=e;refine fn_x zDj rfl ?_;refine dcU zw8.eq_1 ?_;have j:=hBig;rw[zbn]at d;rw[zdh];refine Qi ?_;intros;refine zc (λi:Nat=>([(2,encP 5 [.int .i64 op,.int .u32 c,.int .i64 v,.int .i64 w,encL 5 encX l]),(3,encP 5 [.int .i64 op,.int .u32 c,.int .i64 v,.int .i64 w,encL 5 encX l]),(5,.int .i64 i)],[])) 0 (λi=>i<=l.length) (λi=>l.length-i) 0 (Wc _) (Xf rfl fin5) ?_;intro i m wf;refine dcU zqK.eq_1 ?_;by_cases b:i<l.length
 .have n:=zd7 (Wg b);refine Gw5 @ub @dT (gmp b) @zam @zab ?_;intros;refine zF (ze (g l[i] (by omega)) (flXX rfl)) ?_;refine Gw0 ?_;intros;exact⟨i+1,by omega,by omega,Xf rfl fin5⟩
 ·(refine Qi ?_;intros);unfold zqN;refine Gw1 @zv2.eq_1 ?_;intros;exact bzO
theorem ztd(A):zw Z9 zmi [za A,za A] (·=.bool true):=by
 refine fn_x zwB rfl ?_;refine dcU zpm.eq_1 ?_;have e:=hBig;refine Gw2 @dF @ua ?_;intros;refine zc (λi:Nat=>([(0,za A),(1,za A),(5,.int .i64 i)],[])) 0 (λi=>i<=A.length) (λi=>A.length-i) 0 (Wc _) (Xf rfl fin5) ?_;rintro i g wf;refine dcU zly.eq_1 ?_;by_cases b:i<A.length
 .have c:=zk (f:=cI) (d:=[]) b;refine Gw4 @dT @dF @ua c ?_;intros;exact⟨i+1,by omega,by omega,Xf rfl fin5⟩
 ·(refine Gw2 @dF @ua ?_;intros);unfold zlL;refine Gw1 @zpj.eq_1 ?_;intros;exact bzO
theorem zvL(a:St):zw Z9 zmc [.agg a.cells,.agg a.cells] (·=.bool true):=by
 refine fn_x zwC rfl ?_;refine dcU zpx.eq_1 ?_;have j:=hBig;obtain⟨op,var,b,next,c,d,l,e⟩:=a;simp only[Xa];have g:=ztd e;refine Gw3 @ub @dF @ua ?_;intros;refine zg (ze g rfl) ?_;refine Gw3 @ub @dF @ua ?_;intros;refine zc (λi:Nat=>([(2,encP 8 (Xa ⟨op,var,b,next,c,d,l,e⟩)),(3,encP 8 (Xa ⟨op,var,b,next,c,d,l,e⟩)),(5,.int .i64 i)],[])) 0 (λi=>i<=l.length) (λi=>l.length-i) 0 (Wc _) (Xj [] [] rfl (Gin2_2 @uc @ua) (Gin2_2 @uc @ua)) ?_;rintro i k wf;refine dcU zlR.eq_1 ?_;by_cases h:i<l.length
 ·(refine Gw6 @ub @dT @uc (gmp h) @zam @zab ?_;intros);refine zF (ze (zCU _ l[i] (Wu _)) (flXX rfl)) ?_;refine Gw0 ?_;intros;exact⟨i+1,by omega,by omega,(Xj [] [] rfl (Gin2_2 @uc @ua) (Gin2_2 @uc @ua))⟩
 ·(refine Gw3 @ub @dF @uc ?_;intros);unfold zlD;refine Gw1 @zoL.eq_1 ?_;intros;exact bzO
def sgA_A:List (List Nat):=[[],[0],[],[0,1,2],[0,1,2,3],[],[5],[],[5,6,7],[5,6,7,8],[],[10],[0,1,2,3,4,10,11],[0,1,2,3,4,5,6,7,8,9,10,11,12]]
def sgA_St:List (List Nat):=[[],[10],[10,11],[10,11,12],[10,11,12,13]]
def zEE:Plan:=[(0,[],[]),(1,[],[]),(1,[10],[10]),(1,[10,11],[10,11]),(2,[],[]),(3,[],[]),(3,[10],[10]),(3,[10,11],[10,11]),(4,[],[]),(4,[10],[10]),(4,[10,11],[10,11]),(5,[],[]),(6,[],[]),(6,[10],[10]),(6,[10,11],[10,11]),(6,[10,11,12],[10,11,12]),(7,[],[]),(8,[],[]),(8,[10],[10]),(8,[10,11],[10,11]),(8,[10,11,12],[10,11,12]),(9,[],[]),(9,[10],[10]),(9,[10,11],[10,11]),(9,[10,11,12],[10,11,12]),(10,[],[10]),(11,[10],[10,11]),(12,[10,11],[10,11,12]),(13,[10,11,12],[10,11,12,13])]
def sgB_A:List (List Nat):=[[],[0],[],[0,1,2],[0,1,2,3],[],[5],[],[5,6,7],[5,6,7,8],[11],[],[0,1,2,3,4,10,11],[0,1,2,3,4,5,6,7,8,9,10,11,12]]
def sgB_St:List (List Nat):=[[],[11],[10,11],[10,11,12],[10,11,12,13]]
def zEQ:Plan:=[(0,[],[]),(1,[],[]),(1,[11],[11]),(1,[10,11],[10,11]),(2,[],[]),(3,[],[]),(3,[11],[11]),(3,[10,11],[10,11]),(4,[],[]),(4,[11],[11]),(4,[10,11],[10,11]),(5,[],[]),(6,[],[]),(6,[11],[11]),(6,[10,11],[10,11]),(6,[10,11,12],[10,11,12]),(7,[],[]),(8,[],[]),(8,[11],[11]),(8,[10,11],[10,11]),(8,[10,11,12],[10,11,12]),(9,[],[]),(9,[11],[11]),(9,[10,11],[10,11]),(9,[10,11,12],[10,11,12]),(10,[11],[10,11]),(11,[],[11]),(12,[10,11],[10,11,12]),(13,[10,11,12],[10,11,12,13])]
set_option maxHeartbeats 1000000 in
theorem zMB{Q}(F:QExt Q)(d:Int)(bl)(i:Nat)(D:i<bl.length)(B:Q .normal (zaL (Kn.drop [(2,encP 2 [.int .u32 d,encL 2 Xb bl]),(3,encP 2 [.int .u32 d,encL 2 Xb bl]),(5,.int .i64 i),(27,.bool true)] [27,30,31,32,33,34,35,36,37,38,39]) [(6,.ptr 0 0 0 0 0),(7,.ptr 1 0 0 0 0)]) [(0,.row 2 [[.int .u32 bl[i].addr,encL 8 Xa bl[i].stmts]] 0),(1,.row 2 [[.int .u32 bl[i].addr,encL 8 Xa bl[i].stmts]] 0)] 2)(C:Q .normal (zaL (Kn.drop [(2,encP 2 [.int .u32 d,encL 2 Xb bl]),(3,encP 2 [.int .u32 d,encL 2 Xb bl]),(5,.int .i64 i),(27,.bool true)] [27,30,31,32,33,34,35,36,37,38,39]) [(6,.ptr 1 0 0 0 0),(7,.ptr 0 0 0 0 0)]) [(0,.row 2 [[.int .u32 bl[i].addr,encL 8 Xa bl[i].stmts]] 0),(1,.row 2 [[.int .u32 bl[i].addr,encL 8 Xa bl[i].stmts]] 0)] 2) :
  zbd Z9 (.tree (zgb zdm zhR 14 (Wq 14 false))) [27,30,31,32,33,34,35,36,37,38,39] Q [(2,encP 2 [.int .u32 d,encL 2 Xb bl]),(3,encP 2 [.int .u32 d,encL 2 Xb bl]),(5,.int .i64 i),(27,.bool true)] [] 0:=by
 have I:=hBig;have A:(bl.map Xb).getD i []=[.int .u32 bl[i].addr,encL 8 Xa bl[i].stmts]:=zk D;refine zJo 10 11 6 7 zpC sgA_A sgB_A sgA_St sgB_St zEE zEQ [(30,.iptr 1 λj=>[Xi .u32 d,encL 2 Xb bl].getD (1+j) .undef),(31,encL 2 Xb bl),(32,.int .i64 i),(33,.iptr 2 λj=>[Xi .u32 bl[i].addr,encL 8 Xa bl[i].stmts].getD j .undef),(34,.agg [.int .u32 bl[i].addr,encL 8 Xa bl[i].stmts]),(35,.iptr 1 λj=>[Xi .u32 d,encL 2 Xb bl].getD (1+j) .undef),(36,encL 2 Xb bl),(37,.int .i64 i),(38,.iptr 2 λj=>[Xi .u32 bl[i].addr,encL 8 Xa bl[i].stmts].getD j .undef),(39,.agg [.int .u32 bl[i].addr,encL 8 Xa bl[i].stmts])] (.ptr 0 0 0 0 0) (.ptr 1 0 0 0 0) (.ptr 1 0 0 0 0) (.ptr 0 0 0 0 0) (hsOf [([],0),([(0,.row 2 [[.int .u32 0,.nilsl]] 0)],1),([(0,.row 2 [[.int .u32 0,.nilsl]] 0),(1,.row 2 [[.int .u32 0,.nilsl]] 0)],2),([(0,.row 2 [[.int .u32 bl[i].addr,encL 8 Xa bl[i].stmts]] 0),(1,.row 2 [[.int .u32 0,.nilsl]] 0)],2),([(0,.row 2 [[.int .u32 bl[i].addr,encL 8 Xa bl[i].stmts]] 0),(1,.row 2 [[.int .u32 bl[i].addr,encL 8 Xa bl[i].stmts]] 0)],2)]) (hsOf [([],0),([(0,.row 2 [[.int .u32 0,.nilsl]] 0)],1),([(0,.row 2 [[.int .u32 0,.nilsl]] 0),(1,.row 2 [[.int .u32 0,.nilsl]] 0)],2),([(0,.row 2 [[.int .u32 0,.nilsl]] 0),(1,.row 2 [[.int .u32 bl[i].addr,encL 8 Xa bl[i].stmts]] 0)],2),([(0,.row 2 [[.int .u32 bl[i].addr,encL 8 Xa bl[i].stmts]] 0),(1,.row 2 [[.int .u32 bl[i].addr,encL 8 Xa bl[i].stmts]] 0)],2)]) (by kernel_rfl) (by kernel_rfl) rfl (by kernel_rfl) rfl rfl rfl F ?_ ?_ [(6,.ptr 0 0 0 0 0),(7,.ptr 1 0 0 0 0)] [(6,.ptr 1 0 0 0 0),(7,.ptr 0 0 0 0 0)] rfl rfl ?_ ?_
 .intro b H c y;have w:b.get 6=.ptr 0 0 0 0 0:=by rw[c,zi];rfl
  have x:b.get 7=.ptr 1 0 0 0 0:=by rw[c,zi];rfl
  have e:b.get 30=.iptr 1 λj=>[Xi .u32 d,encL 2 Xb bl].getD (1+j) .undef:=by rw[c,zi];rfl
  have g:b.get 31=encL 2 Xb bl:=by rw[c,zi];rfl
  have h:b.get 32=.int .i64 i:=by rw[c,zi];rfl
  have k:b.get 33=.iptr 2 λj=>[Xi .u32 bl[i].addr,encL 8 Xa bl[i].stmts].getD j .undef:=by rw[c,zi];rfl
  have m:b.get 34=.agg [.int .u32 bl[i].addr,encL 8 Xa bl[i].stmts]:=by rw[c,zi];rfl
  have n:b.get 35=.iptr 1 λj=>[Xi .u32 d,encL 2 Xb bl].getD (1+j) .undef:=by rw[c,zi];rfl
  have o:b.get 36=encL 2 Xb bl:=by rw[c,zi];rfl
  have p:b.get 37=.int .i64 i:=by rw[c,zi];rfl
  have q:b.get 38=.iptr 2 λj=>[Xi .u32 bl[i].addr,encL 8 Xa bl[i].stmts].getD j .undef:=by rw[c,zi];rfl
  have s:b.get 39=.agg [.int .u32 bl[i].addr,encL 8 Xa bl[i].stmts]:=by rw[c,zi];rfl
  have t:b.get 2=encP 2 [.int .u32 d,encL 2 Xb bl]:=by rw[c,zi];rfl
  have u:b.get 3=encP 2 [.int .u32 d,encL 2 Xb bl]:=by rw[c,zi];rfl
  have v:b.get 5=.int .i64 i:=by rw[c,zi];rfl
  simp only[zEE,zis,zkR,and_true]
  (repeat' with_reducible apply Wa)
  all_goals(rw[y];simp only[znI,zdm,Wk,Wh,hsOf,hsAt,beqL,zgc,Xd,Wl,Wd,Wm,We,cond_true,cond_false,Wi,Wn,Xe])
  all_goals(simp(disch:=try exact dis1) only[evD,Xd,Xe,Xg,zci,zbt,fldP,A,w,x,e,g,h,k,m,n,o,p,q,s,t,u,v])
  all_goals(first|done|omega|trace_state)
 .intro b H c y;have w:b.get 6=.ptr 1 0 0 0 0:=by rw[c,zi];rfl
  have x:b.get 7=.ptr 0 0 0 0 0:=by rw[c,zi];rfl
  have e:b.get 30=.iptr 1 λj=>[Xi .u32 d,encL 2 Xb bl].getD (1+j) .undef:=by rw[c,zi];rfl
  have g:b.get 31=encL 2 Xb bl:=by rw[c,zi];rfl
  have h:b.get 32=.int .i64 i:=by rw[c,zi];rfl
  have k:b.get 33=.iptr 2 λj=>[Xi .u32 bl[i].addr,encL 8 Xa bl[i].stmts].getD j .undef:=by rw[c,zi];rfl
  have m:b.get 34=.agg [.int .u32 bl[i].addr,encL 8 Xa bl[i].stmts]:=by rw[c,zi];rfl
  have n:b.get 35=.iptr 1 λj=>[Xi .u32 d,encL 2 Xb bl].getD (1+j) .undef:=by rw[c,zi];rfl
  have o:b.get 36=encL 2 Xb bl:=by rw[c,zi];rfl
  have p:b.get 37=.int .i64 i:=by rw[c,zi];rfl
  have q:b.get 38=.iptr 2 λj=>[Xi .u32 bl[i].addr,encL 8 Xa bl[i].stmts].getD j .undef:=by rw[c,zi];rfl
  have s:b.get 39=.agg [.int .u32 bl[i].addr,encL 8 Xa bl[i].stmts]:=by rw[c,zi];rfl
  have t:b.get 2=encP 2 [.int .u32 d,encL 2 Xb bl]:=by rw[c,zi];rfl
  have u:b.get 3=encP 2 [.int .u32 d,encL 2 Xb bl]:=by rw[c,zi];rfl
  have v:b.get 5=.int .i64 i:=by rw[c,zi];rfl
  simp only[zEQ,zis,zkR,and_true]
  (repeat' with_reducible apply Wa)
  all_goals(rw[y];simp only[znI,zdm,Wk,Wh,hsOf,hsAt,beqL,zgc,Xd,Wl,Wd,Wm,We,cond_true,cond_false,Wi,Wn,Xe])
  all_goals(simp(disch:=try exact dis1) only[evD,Xd,Xe,Xg,zci,zbt,fldP,A,w,x,e,g,h,k,m,n,o,p,q,s,t,u,v])
  all_goals(first|done|omega|trace_state)
 .exact B
 .exact C
theorem sg_l1{Q}(ad)(b)(i)(q:i<b.length)(o:i<=1000000)(g:∀K H h,Ent 0 K H h [(2,encP 2 [.int .u32 ad,encL 2 Xb b]),(3,encP 2 [.int .u32 ad,encL 2 Xb b]),(5,.int .i64 ((i+1:Nat):Int))] [] 0->Q .normal K H h){K}{H}{h}(e:Ent 0 K H h [(2,encP 2 [.int .u32 ad,encL 2 Xb b]),(3,encP 2 [.int .u32 ad,encL 2 Xb b]),(5,.int .i64 i),(6,.ptr 0 0 0 0 0),(7,.ptr 1 0 0 0 0),(8,.int .i64 0)] [(0,.row 2 [[.int .u32 b[i].addr,encL 8 Xa b[i].stmts]] 0),(1,.row 2 [[.int .u32 b[i].addr,encL 8 Xa b[i].stmts]] 0)] 2) :
  znL Z9 0 zgw (zdB 2 (zdB 1 (seqQ Z9 0 zgB Q))) K H h:=by
 have p:=hBig;generalize b[i].addr=c at *;generalize b[i].stmts=l at *
 refine zc (λk:Nat=>([(2,encP 2 [.int .u32 ad,encL 2 Xb b]),(3,encP 2 [.int .u32 ad,encL 2 Xb b]),(5,.int .i64 i),(6,.ptr 0 0 0 0 0),(7,.ptr 1 0 0 0 0),(8,.int .i64 k)],[(0,.row 2 [[.int .u32 c,encL 8 Xa l]] 0),(1,.row 2 [[.int .u32 c,encL 8 Xa l]] 0)])) 2
  (λk=>k<=l.length) (λk=>l.length-k) 0 (Wc _) e ?_
 rintro k s wf;refine dcU zgw.eq_1 ?_;by_cases m:k<l.length
 .have j:=zk (f:=Xa) (d:=[]) m;have n:=zvL l[k];refine Gw5 @ub @dT j @St.len @St.eight ?_;intros;refine zF (ze n rfl) ?_;refine Gw0 ?_;intros;exact⟨k+1,by omega,by omega,(Xj [(0,0,0),(1,1,0)] [] rfl Qn Qn)⟩
 ·(refine Qi ?_;intros);refine dcU zgB.eq_1 ?_;refine Gw0 ?_;intros;refine g _ _ _ ?_;exact(Xj [] [] rfl Qn Qn)
theorem Qm{p q:Prop}(k:q)(h:Im q p:=by(repeat first|simp(disch:=try exact dis1) only[evD,Nat.reduceBEq,Nat.reduceAdd,Nat.reduceLeDiff,zaL,dF,fldP]|((with_reducible apply Im.i);intro _)|((with_reducible apply Im.a);omega));exact Im.r):p:=h k
theorem zuE(g:G)(m:g.blocks.length<=1000000):zw Z9 zla [.agg g.cells,.agg g.cells] (·=.bool true):=by
 refine fn_x zuG rfl ?_;refine dcU zoC.eq_1 ?_;have n:=hBig;obtain⟨d,b⟩:=g;simp only[G.cells]at m⊢;refine Qi ?_;intros;refine zc (λi:Nat=>([(2,encP 2 [.int .u32 d,encL 2 Xb b]),(3,encP 2 [.int .u32 d,encL 2 Xb b]),(5,.int .i64 i)],[])) 0 (λi=>i<=b.length) (λi=>b.length-i) 0 (Wc _) (Xf rfl fin5) ?_;rintro i o wf;unfold zkA;by_cases c:i<b.length
 ·(refine Gw2 @ub @dT ?_;intros);refine zMB (by repeat' first|exact QExt.retK|apply QExt.seq|apply QExt.block|apply QExt.loop|apply QExt.join|assumption) d b i c ?_ ?_
  ·(refine Qm ?_;intros);refine sg_l1 d b i c (by omega) ?_ ?_
   .intro k j h e;exact⟨i+1,by omega,by show b.length-(i+1)<b.length-i;omega,e⟩
   .exact(Xj [(0,0,0),(1,1,0)] [] rfl Qn Qn)
  ·(refine Qm ?_;intros);refine sg_l1 d b i c (by omega) ?_ ?_
   .intro k j h e;exact⟨i+1,by omega,by show b.length-(i+1)<b.length-i;omega,e⟩
   .exact(Xj [(0,1,0),(1,0,0)] [] rfl Qn Qn)
 ·(refine Qi ?_;intros);unfold zkY;refine Gw1 @zok.eq_1 ?_;intros;exact bzO
def zgg:List AOper:=[(oA 17 5 1),(oN 18 (.callq zsJ [(.c (.int .i64 0)),(.t 17)])),(oA 19 5 2),(oN 20 (.callq zsJ [(.c (.int .i64 7)),(.t 19)])),(oN 21 (.build [.int .i64 0,.int .i64 0,.int .i64 0,.int .i64 0,.int .i64 0,.int .u32 0,.nilsl,.nilsl] [(0,1,(.c (.int .i64 9)))])),(oN 22 (.rbuildSl 8 3 [.int .i64 0,.int .i64 0,.int .i64 0,.int .i64 0,.int .i64 0,.int .u32 0,.nilsl,.nilsl] [(0,(.t 18)),(1,(.t 20)),(2,(.t 21))])),(oN 23 (.build [.int .u32 0,.nilsl] [(1,1,(.t 22))])),(oN 24 (.rbuildSl 2 1 [.int .u32 0,.nilsl] [(0,(.t 23))])),(oN 25 (.build [.int .u32 0,.nilsl] [(1,1,(.t 24))])),(oN 3 (.alloc [.int .u32 0,.nilsl])),(oS 2 3 25)]
def zls:List (List Nat):=[[],[0],[],[2,1],[],[1,3,4],[5],[6],[7],[],[9,8,3,0,1,2,3,4,5,6,7,8,9]]
def zg5:List Nat:=[9,10]
def znx:List (List Nat):=[[],[0],[],[0,1,2],[],[0,1,2,3,4],[0,1,2,3,4,5],[0,1,2,3,4,5,6],[0,1,2,3,4,5,6,7],[],[0,1,2,3,4,5,6,7,8,9]]
def zm4:List (List Nat):=[[],[9],[9,10]]
def zfM:Plan:=[(0,[],[]),(0,[9],[9]),(1,[],[]),(1,[9],[9]),(2,[],[]),(2,[9],[9]),(3,[],[]),(3,[9],[9]),(4,[],[]),(5,[],[]),(6,[],[]),(7,[],[]),(8,[],[]),(9,[],[9]),(10,[9],[9,10])]
def zkH:ACode:=.seq (.region [(oN 0 (.mov (.c (.bool false))))] [0]) (.seq (.region [(oN 9 (.build [.int .i64 0,.int .u32 0,.int .i64 0,.int .i64 0,.nilsl] [(0,1,(.c (.int .i64 2))),(2,1,(.c (.int .i64 1)))])),(oN 10 (.call zlA [(.c (.int .u32 1))])),(oN 11 (.rbuildSl 5 2 [.int .i64 0,.int .u32 0,.int .i64 0,.int .i64 0,.nilsl] [(0,(.t 9)),(1,(.t 10))])),(oN 12 (.build [.int .i64 0,.int .u32 0,.int .i64 0,.int .i64 0,.nilsl] [(0,1,(.c (.int .i64 3))),(4,1,(.t 11))])),(oN 1 (.alloc [.int .i64 0,.int .u32 0,.int .i64 0,.int .i64 0,.nilsl])),(oS 5 1 12)] [9,10,11,12]) (.seq (.region [(oN 13 (.build [.int .i64 0,.int .u32 0,.int .i64 0,.int .i64 0,.nilsl] [(0,1,(.c (.int .i64 2))),(2,1,(.c (.int .i64 7)))])),(oN 14 (.call zlA [(.c (.int .u32 4))])),(oN 15 (.rbuildSl 5 2 [.int .i64 0,.int .u32 0,.int .i64 0,.int .i64 0,.nilsl] [(0,(.t 13)),(1,(.t 14))])),(oN 16 (.build [.int .i64 0,.int .u32 0,.int .i64 0,.int .i64 0,.nilsl] [(0,1,(.c (.int .i64 3))),(4,1,(.t 15))])),(oN 2 (.alloc [.int .i64 0,.int .u32 0,.int .i64 0,.int .i64 0,.nilsl])),(oS 5 2 16)] [13,14,15,16]) (.seq (.draw (zgb zgg zls 11 (Wq 11 false)) [1,2,17,18,19,20,21,22,23,24,25]) (.seq (.region [(oA 27 2 3),(oN 28 (.call znZ [(.t 27),(.c (.nilsl)),(.c (.nilsl))])),(oM 26 28),(oT 29 0 26),(oT 30 1 26),(oN 4 (.alloc [.nilsl,.nilsl,.nilsl])),(oS 3 4 29),(oM 5 30)] [26,27,28,29,30]) (.seq (.region [(oA 32 2 3),(oN 33 (.rbuildSl 2 1 [.int .u32 0,.nilsl] [(0,(.t 32))])),(oN 34 (.call zmj [(.t 33)])),(oM 31 34),(oT 35 0 31),(oT 36 1 31),(oM 6 35),(oM 7 36)] [3,31,32,33,34,35,36]) (.seq (.region [(oN 37 (.rbuildSl 1 2 [.int .i64 0] [(0,(.c (.int .i64 1))),(1,(.c (.int .i64 7)))])),(oN 38 (.rbuildSl 1 1 [.int .i64 0] [(0,(.c (.int .i64 0)))])),(oN 39 (.rbuildSl 1 7 [.int .i64 0] [(0,(.c (.int .i64 1))),(1,(.c (.int .i64 2))),(2,(.c (.int .i64 3))),(3,(.c (.int .i64 4))),(4,(.c (.int .i64 5))),(5,(.c (.int .i64 6))),(6,(.c (.int .i64 7)))])),(oN 40 (.build [.nilsl,.nilsl,.nilsl] [(0,1,(.t 37)),(1,1,(.t 38)),(2,1,(.t 39))])),(oN 8 (.alloc [.nilsl,.nilsl,.nilsl])),(oS 3 8 40)] [37,38,39,40]) (.seq (.draw (.step (oM 41 5) (.step (oC 42 .eql 41 0) (.step (oM 43 42) (.step (oG 44 43 true (.load true 3 (.t 4))) (.step (oG 45 43 true (.callq znr [(.t 44)])) (.step (oG 46 43 true (.load true 3 (.t 8))) (.step (oG 47 43 true (.callq zmP [(.t 45),(.t 46)])) (.step (oN 48 (.pick (.t 43) (.t 47) (.c (.bool false)))) (.step (oM 49 48) (.step (oG 50 49 true (.mov (.t 7))) (.step (oG 51 49 true (.bin .eql (.t 50) (.c (.int .i64 0)))) (.step (oN 52 (.pick (.t 49) (.t 51) (.c (.bool false)))) (.step (oM 53 52) (.step (oG 54 53 true (.mov (.t 6))) (.step (oG 55 53 true (.len (.t 54))) (.step (oG 56 53 true (.bin .eql (.t 55) (.c (.int .i64 1)))) (.step (oN 57 (.pick (.t 53) (.t 56) (.c (.bool false)))) (.step (oM 58 57) (.step (oG 59 58 true (.mov (.t 6))) (.step (oG 60 58 true (.idx 3 (.t 59) (.c (.int .i64 0)))) (.step (oG 61 58 true (.load true 3 (.t 60))) (.step (oG 62 58 true (.callq znr [(.t 61)])) (.step (oG 63 58 true (.load true 3 (.t 8))) (.step (oG 64 58 true (.callq zmP [(.t 62),(.t 63)])) (.step (oN 65 (.pick (.t 58) (.t 64) (.c (.bool false)))) (.step (oM 66 65) (.step (oG 67 66 true (.load true 3 (.t 4))) (.step (oG 68 66 true (.callq zgC [(.t 67)])) (.step (oG 69 66 true (.rbuildSl 1 1 [.int .i64 0] [(0,(.c (.int .i64 0)))])) (.step (oG 70 66 true (.callq ztL [(.t 68),(.t 69)])) (.step (oN 71 (.pick (.t 66) (.t 70) (.c (.bool false)))) (.step (oM 0 71) (.done))))))))))))))))))))))))))))))))) [4,5,6,7,8,41,42,43,44,45,46,47,48,49,50,51,52,53,54,55,56,57,58,59,60,61,62,63,64,65,66,67,68,69,70,71]) (.ret))))))))
def zkM:List ARet:=[.tmp 0]
theorem zrp:zL Z9 ze7 (qRo [11,15,22,24,33,37,38,39,69])=some (zkH.strip,zkM,72):=by kernel_rfl
def zr4:ACode:=Z8 0x802031558111110010240000030059c030031304000003005922113 []
def zsk:List ARet:=[.cell 2 true 5]
theorem zyW:zL Z9 zlA (qRo [])=some (zr4.strip,zsk,5):=by kernel_rfl
def zyo:ACode:=Z8 0x80001206178811168111001034403000000000089c01014000003005155c06520300513114403000000000089041c32213 []
def zxU:List ARet:=[.cell 4 true 8]
theorem zFl:zL Z9 zsJ (qRo [3])=some (zyo.strip,zxU,9):=by kernel_rfl
def ztY:ACode:=Z8 0x800000011815381112911710344439c01104123011041130110210308130144439011c0213 []
def ztZ:List ARet:=[.cell 2 true 3]
theorem zBd:zL Z9 znr (qRo [1])=some (ztY.strip,ztZ,10):=by kernel_rfl
def zqs:List AOper:=[(oM 11 3),(oM 12 0),(oM 13 4),(oI 14 3 12 13),(oF 15 0 1 14),(oL 16 15),(oM 17 0),(oM 18 4),(oI 19 3 17 18),(oF 20 1 1 19),(oL 21 20),(oM 22 0),(oM 23 4),(oI 24 3 22 23),(oF 25 2 1 24),(oL 26 25),(oN 27 (.build [.nilsl,.nilsl,.nilsl] [(0,1,(.t 16)),(1,1,(.t 21)),(2,1,(.t 26))])),(oN 28 (.buildSl 3 1 [.nilsl,.nilsl,.nilsl] [(0,(.t 27))])),(oN 29 (.append 3 72 (.t 11) (.t 28))),(oM 3 29)]
def zoK:List (List Nat):=[[],[],[],[1,2],[3],[4],[],[],[6,7],[8],[9],[],[],[11,12],[13],[14],[5,10,15],[16],[0,17],[18,18,0,1,2,3,4,5,6,7,8,9,10,11,12,13,14,15,16,17,18]]
def zmJ:ACode:=.seq (.seq (.region [(oM 5 4),(oM 6 0),(oE 7 6),(oB 8 .lss 5 7)] [5,6,7]) (.cond (.t 8) (.skip) (.exit 0))) (.seq (.block 1 (.draw (zgb zqs zoK 20 (Wq 20 false)) [8,11,12,13,14,15,16,17,18,19,20,21,22,23,24,25,26,27,28,29])) (.region [(oM 9 4),(oC 10 .add 9 1),(oM 4 10)] [9,10]))
def zmQ:ACode:=.seq (.region [(oM 30 3),(oM 2 30)] [0,3,4,30]) (.ret)
def zq1:ACode:=Z8 0x19096050000001133036c01132136c22113 [zmJ,zmQ]
attribute[irreducible]zmJ zmQ
def zqG:List ARet:=[.tmp 2]
theorem zxI:zL Z9 zfC (qRo [])=some (zq1.strip,zqG,31):=by kernel_rfl
def zk4:ACode:=Z8 0x60ee24106210010609001f2310802f000116100221131400000200f70001360bd007d0013fda0152012540900110816303f271355347014000ce41fe3601501108163090ce25133 []
def zkx:ACode:=Z8 0x00d05410421001060707d231 []
def zkS:ACode:=Z8 0x19096458e22000062113085e001151002211314000000002e91209e703001563153113816328f6100800156015011011732e2a1330000000026da4e1881440300000000008952182012840700110111301224060011041139d2b13353270140000000ec811d36015011011130122406001104113070ec29133 [zk4,zkx]
def zkp:ACode:=Z8 0x0b4310321001060604c231 []
def zk6:ACode:=Z8 0x1909625ac22000042113089c113100221131400000023c8b001560150110111301224060011041136c28133153070140000000781013c703c00136360dc61001a3601501104113060729133 [zkS,zkp]
def zgy:ACode:=Z8 0x800006f1161022800146015011041130af2513 []
def zoF:ACode:=Z8 0x19096050000001133102100011c0213 [zk6,zgy]
attribute[irreducible]zk4 zkx zkS zkp zk6 zgy
def zcu:List ARet:=[.tmp 2]
theorem zuC:zL Z9 zlg (qRo [1])=some (zoF.strip,zcu,74):=by kernel_rfl
def zh7:ACode:=Z8 0x8c092410321001060600c231082d203100221139d400000000000000000002b9c03d001560211d060215021102112302123402600230021ac06021502110211130212340260023002150211021103021234026002302c22231530701400000047101b708001363605c61001736015030060428133 []
def zev:ACode:=Z8 0x8003d20510226001460150107d2413 []
def zjo:ACode:=Z8 0x190960500000011332110022113 [zh7,zev]
attribute[irreducible]zh7 zev
def zdR:List ARet:=[.tmp 2]
theorem zqe:zL Z9 zgF (qRo [])=some (zjo.strip,zdR,38):=by kernel_rfl
def zqA:Ex:=.mk 3 0 0 0 [.mk 2 0 1 0 [],.mk 1 1 0 0 []]
def exUp:Ex:=.mk 3 0 0 0 [.mk 2 0 7 0 [],.mk 1 4 0 0 []]
def exC:G:=⟨0,[⟨0,[⟨1,0,0,0,0,0,[zqA],[]⟩,⟨1,7,0,0,0,0,[exUp],[]⟩,⟨9,0,0,0,0,0,[],[]⟩]⟩]⟩
def zqB:Sgn:=⟨[1,7],[0],[1,2,3,4,5,6,7]⟩
theorem zGL:fewC exC:=⟨by decide,by decide +kernel,by decide +kernel,by decide +kernel,by decide +kernel⟩
theorem zMe:errC exC 0 []=0:=by decide +kernel
theorem zK3:errA [exC]=0:=by decide +kernel
theorem zLS:sgL (sigG exC [] [])=sgL zqB:=by decide +kernel
theorem zM2:(allS [exC]).map sgL=[sgL zqB]:=by decide +kernel
theorem zKW:zFp zqB=[0]:=by decide +kernel
theorem zsd(n):zw Z9 zlA [.int .u32 n] (·=.agg (encX (.mk 1 n 0 0 []))):=by
 refine fn_x zyW rfl ?_;refine dcU zr4.eq_1 ?_;have e:=hBig;rw[zdh];refine Gw1 @zsk.eq_1 ?_;intros
 exact⟨.agg [.int .i64 1,.int .u32 n,.int .i64 0,.int .i64 0,encL 5 encX []],.agg _ _ _ rfl (λi a b c d=>match i with
  |0=>by cases c;cases d;exact .int _ _ _
  |1=>by cases c;cases d;exact .int _ _ _
  |2=>by cases c;cases d;exact .int _ _ _
  |3=>by cases c;cases d;exact .int _ _ _
  |4=>by cases c;cases d;exact .nil0 _ _ _
  |i+5=>by cases c),rfl⟩
theorem zBr(s:Sgn):zw Z9 znr [.agg s.cells] (·=.agg s.cells):=by refine fn_x zBd rfl ?_;refine dcU ztY.eq_1 ?_;have b:=hBig;simp only[Xc];refine Gw4 @ub @zC @ua @ztZ.eq_1 ?_;intros;exact⟨_,zM rfl,rfl⟩
def sumS(s:Sgn):Int:=IntKind.i64.wrap (IntKind.i64.wrap ((s.args.length:Int)+s.res.length)+s.sav.length)
def zyG(s:Sgn):Bool:=decide (sumS s<=60)
def zBG(l:List Sgn):Bool:=(l.take 8).all zyG&&decide (l.length<=6)
theorem zqz(l):zw Z9 zgF [encL 3 Xc l] (·=.bool (zBG l)):=by
 refine fn_x zqe rfl ?_;refine dcU zjo.eq_1 ?_;have t:=hBig;refine Gw0 ?_;intros;refine zc (λi:Nat=>([(0,encL 3 Xc l),(3,.int .i64 i)],[])) 0 (λi=>i<=l.length/\i<=8/\(l.take i).all zyG=true) (λi=>l.length-i) 0 ⟨Wc _,Wc _,rfl⟩ (Xf rfl fin5) ?_;rintro i ⟨u,p,c⟩ wf;clear wf;refine dcU zh7.eq_1 ?_
 have d:¬(i<l.length/\i<8)->(l.take 8).all zyG=true:=λh=>by
  rw[show l.take 8=l.take i from ?_]
  .exact c
  .by_cases q:i<l.length
   .rw[show i=8 by omega]
   .rw[Wf (by omega),Wf (by omega)]
 by_cases b:i<l.length;case neg=>unfold zBG;rw[d (λh=>b h.1),Wd];refine Qa ?_;intros;refine dcU zev.eq_1 ?_;refine Gw1 @zdR.eq_1 ?_;intros;exact bxO (decide_eq_decide.2 (by omega))
 by_cases m:i<8;case neg=>unfold zBG;rw[d (λh=>m h.2),Wd];rw[decide_eq_false (show ¬l.length<=6 by omega)];refine Qd ?_;intros;refine dcU zev.eq_1 ?_;refine Gw2 @dF @zdR.eq_1 ?_;intros;exact bzO
 have n:(l.map Xc).getD i []=l[i].cells:=zk (f:=Xc) b;have g:(l.take (i+1)).all zyG=zyG l[i]:=by rw[Wz b,List.all_append,c];simp
 have e:l[i]∈l.take 8:=WC.2 ⟨i,by rw[Wj];omega,by rw[WD]⟩;generalize l[i]=s at n g e;obtain⟨a,r,v⟩:=s;simp only[Xc]at n;have o:IntKind.i64.wrap (IntKind.i64.wrap ((a.length:Int)+r.length)+v.length)=sumS ⟨a,r,v⟩:=rfl;by_cases j:sumS ⟨a,r,v⟩<=60
 .rw[show zyG ⟨a,r,v⟩=true from decide_eq_true j]at g;refine Gw7 @dT @dF n @zC @ud @ua o ?_;intros;exact⟨i+1,⟨b,m,g⟩,by omega,Xf rfl fin5⟩
 .have k:zBG l=false:=by
   unfold zBG;rw[Bool.and_eq_false_iff];left;refine WA.2 λh=>?_
   have:=Wp.1 h _ e;exact j (of_decide_eq_true this)
  rw[k];refine Gw8 @dT @dF n @zC @ud @ua o @zdR.eq_1 ?_;intros;exact bzO
theorem Qbh{b p:Prop}(a0:b)(h:b->p:=by intro a0;(try simp only[evWB,Nat.reduceBEq,Nat.reduceAdd,Nat.reduceSub,Nat.reduceLeDiff,Nat.reduceLT,implies_true,a0])<;>(repeat' with_reducible apply And.intro)<;>first|(exact RowV.of_flat (zK zva);done)|exact fin6):p:=h a0
set_option maxHeartbeats 40000000 in
theorem zxB(l)(y:l.length<=1000):zw Z9 zfC [encL 3 Xc l] (·=encL 3 Xc l):=by
 refine fn_x zxI rfl ?_;refine dcU zq1.eq_1 ?_;have x:=hBig;refine Gw0 ?_;intros;refine zc (λs:Nat×Nat=>([(0,encL 3 Xc l),(3,.own 0 0 s.2 0 s.1),(4,.int .i64 s.1)],[(0,.row 3 ((l.take s.1).map Xc) s.2)])) 1 (λs=>s.1<=l.length) (λs=>l.length-s.1) (0,0) (Wc _) (by rw[show l.take (0,0).1=[]from rfl];exact(Xj [(0,1,0)] [] rfl (Qbh @ua) (Qbh @ua))) ?_;rintro⟨i,γ⟩ hi wf;simp only at hi;clear wf;unfold zmJ;conv in zgb _ _ _ _=>reduce
 by_cases c:i<l.length
 case neg=>
  obtain rfl:i=l.length:=by omega
  rw[List.take_length];refine Qa ?_;intros;unfold zmQ;refine Gw1 @zqG.eq_1 ?_;intros;exact⟨_,zAD rfl trivial rfl (by omega),rfl⟩
 have o:(l.map Xc).getD i []=l[i].cells:=zk (f:=Xc) c;have k:((l.take i).map Xc).length=i:=by rw[Wx,Wj];omega
 have j:((l.take i).map Xc).take i=(l.take i).map Xc:=Wf (by omega);have e:(l.take i).map Xc++[l[i].cells]=(l.take (i+1)).map Xc:=by rw[Wz c,List.map_append];rfl
 have d:∀(K:Kn)(H:AH)(m:Nat),Ent 0 K H m [(0,encL 3 Xc l),(3,.own 0 0 (γ+1) 0 (i+1)),(4,.int .i64 ((i+1:Nat):Int))] [(0,.row 3 ((l.take (i+1)).map Xc) (γ+1))] 1->∃b:Nat×Nat,b.1<=l.length/\l.length-b.1<l.length-i/\Ent 0 K H m [(0,encL 3 Xc l),(3,.own 0 0 b.2 0 b.1),(4,.int .i64 b.1)] [(0,.row 3 ((l.take b.1).map Xc) b.2)] 1:=λK H m h=>⟨(i+1,γ+1),c,by simp only;omega,h⟩
 generalize l[i]=s at o e;have t:s.cells.getD 0 .undef=za s.args:=rfl;have u:s.cells.getD 1 .undef=za s.res:=rfl;have v:s.cells.getD 2 .undef=za s.sav:=rfl;have g:[encL 1 (λn=>[Xi .i64 n]) s.args,encL 1 (λn=>[Xi .i64 n]) s.res,encL 1 (λn=>[Xi .i64 n]) s.sav]=s.cells:=rfl;have q:s.cells.length=3:=rfl;have p:∀l:List AV,(Xh l).cells=l:=λ_=>rfl
 have w:∀l:List AV,(Xh l).solid=true:=λ_=>rfl
 (repeat first|simp(maxSteps:=10000000) (disch:=try exact dis1) only[evD,Xd,Xe,Xg,dT,o,t,u,v,q,p,w,k,j,zC,fldP,Int.toNat_natCast,za,g,e]|with_reducible intro _|((with_reducible apply Wa);omega))
 (repeat' with_reducible apply Wa)
 all_goals first
  |omega
  |(refine d _ _ _ ?_;exact(Xj [(0,0,0)] [] rfl (Qbh @ua) (Qbh @ua)))
theorem zya(v)(e):zw Z9 zsJ [.int .i64 v,.agg (encX e)] (·=.agg (Xa ⟨1,v,0,0,0,0,[e],[]⟩)):=by
 refine fn_x zFl rfl ?_;refine dcU zyo.eq_1 ?_;have j:=hBig;have h:=zam (e:=e);have k:=zab (e:=e);have m:=zu (e:=e);have g:∀l:List AV,(Xh l).cells=l:=λ_=>rfl
 have n:∀l:List AV,(Xh l).solid=true:=λ_=>rfl
 refine Gw7 g n h k @ub @zC @zxU.eq_1 ?_;intros
 exact⟨.agg (Xa ⟨1,v,0,0,0,0,[e],[]⟩),.agg _ _ _ rfl (λi a b c d=>match i with
  |0=>by cases c;cases d;exact .int _ _ _
  |1=>by cases c;cases d;exact .int _ _ _
  |2=>by cases c;cases d;exact .int _ _ _
  |3=>by cases c;cases d;exact .int _ _ _
  |4=>by cases c;cases d;exact .int _ _ _
  |5=>by cases c;cases d;exact .int _ _ _
  |6=>by cases c;cases d;exact zJ3 (l:=[e]) trivial rfl (by simp[j])
  |7=>by cases c;cases d;exact .nil0 _ _ _
  |i+8=>by cases c),rfl⟩
theorem zME{a b}(h:sgL a=sgL b):a=b:=by have:=zvM (l:=[a]) (m:=[b]) (by simp only[Wv,Ww,h]);cases this;rfl
theorem exC_of:ofG exC [] []=.tup [.agg zqB.cells,.int .i64 0]:=by unfold ofG;rw[show errC exC ([]:List Sgn).length []=0 from zMe,if_neg (λh=>h rfl),zME zLS]
theorem zJM:allS [exC]=[zqB]:=zvM zM2
theorem zKr:allA [exC]=.tup [encL 3 Xc [zqB],.int .i64 0]:=by unfold allA;rw[zK3,if_neg (λh=>h rfl),zJM]
theorem zxb(a):zaJ [] [] a=zbF:=rfl
def slV(b n:Nat)(l:List (List AV)):AV:=.sl b n (λi j=>(l.getD i []).getD j .undef)
theorem slS{sz n}{l}:(slV sz n l).solid=true:=rfl
theorem slC{sz n}{l}:(slV sz n l).cells=[slV sz n l]:=rfl
theorem slF{sz n}{l}:(slV sz n l).flat0=true:=rfl
theorem zrJ:zw Z9 ze7 [] (·=.bool true):=by
 refine fn_x zrp rfl ?_;unfold zkH;have hB:=hBig;have S:=zsd 1;have T:=zsd 4;have M:=zxN exC zGL [] [] (by simp) (by simp) (λa=>by rw[zxb];exact Wc _) (λa=>by rw[zxb];exact Wc _);have N:=zvf [exC] (by simp) (λg R=>by rw[List.mem_singleton.1 R];exact zGL);have I:=zqx zqB;have J:=zCs zqB zqB (by decide);have O:=Dm.R24_Ints_ok [0] [0];rw[exC_of]at M;rw[zKr]at N;rw[zKW]at I;rw[decide_eq_true ⟨rfl,rfl,rfl⟩]at J;rw[decide_eq_true rfl]at O;have j:∀l:List AV,(Xh l).cells=l:=λ_=>rfl
 have k:∀l:List AV,(Xh l).solid=true:=λ_=>rfl
 have w:∀ {K n:Nat}{z:List AV}{F:List (Nat×AV)}{H:AH}{C:Nat},zhc K n z F H C=⟨zBN n K F/\(zgY (Wq n z) F).all zR=true,True,slV K n (zgY (Wq n z) F),H,C⟩:=rfl;have U:∀{H:AH},Vw H [] nos noR false (.agg [.int .i64 3,.int .u32 0,.int .i64 0,.int .i64 0,slV 5 2 [[.int .i64 2,.int .u32 0,.int .i64 1,.int .i64 0,.nilsl],encX (.mk 1 1 0 0 [])]]) (.agg (encX zqA)):=zq4 (m:=false) (λh=>by cases h) 9 _ _ (by rfl);have V:∀{H:AH},Vw H [] nos noR false (.agg [.int .i64 3,.int .u32 0,.int .i64 0,.int .i64 0,slV 5 2 [[.int .i64 2,.int .u32 0,.int .i64 7,.int .i64 0,.nilsl],encX (.mk 1 4 0 0 [])]]) (.agg (encX exUp)):=zq4 (m:=false) (λh=>by cases h) 9 _ _ (by rfl);have W:∀{H:AH},Vw H [] nos noR false (.agg [.int .u32 0,slV 2 1 [[.int .u32 0,slV 8 3 [Xa ⟨1,0,0,0,0,0,[zqA],[]⟩,Xa ⟨1,7,0,0,0,0,[exUp],[]⟩,[.int .i64 9,.int .i64 0,.int .i64 0,.int .i64 0,.int .i64 0,.int .u32 0,.nilsl,.nilsl]]]]]) (.agg exC.cells):=zq4 (m:=false) (λh=>by cases h) 15 _ _ (by rfl);have X:∀{H:AH},Vw H [] nos noR false (slV 2 1 [[.int .u32 0,slV 2 1 [[.int .u32 0,slV 8 3 [Xa ⟨1,0,0,0,0,0,[zqA],[]⟩,Xa ⟨1,7,0,0,0,0,[exUp],[]⟩,[.int .i64 9,.int .i64 0,.int .i64 0,.int .i64 0,.int .i64 0,.int .u32 0,.nilsl,.nilsl]]]]]]) (encL 2 G.cells [exC]):=zq4 (m:=false) (λh=>by cases h) 15 _ _ (by rfl);have Y:∀{H:AH},Vw H [] nos noR false (.agg [slV 1 2 [[.int .i64 1],[.int .i64 7]],slV 1 1 [[.int .i64 0]],slV 1 7 [[.int .i64 1],[.int .i64 2],[.int .i64 3],[.int .i64 4],[.int .i64 5],[.int .i64 6],[.int .i64 7]]]) (.agg zqB.cells):=zq4 (m:=false) (λh=>by cases h) 9 _ _ (by rfl);refine Gw0 ?_;intros;refine zg (ze S rfl) ?_;refine Gw6 @w @slS @slC @slF @zab @zam ?_;intros;refine⟨⟨by decide,rfl⟩,?_⟩;refine zg (ze T rfl) ?_;refine Gw6 @w @slS @slC @slF @zab @zam ?_;intros;refine⟨⟨by decide,rfl⟩,?_⟩;refine Gw0 ?_;intros
 refine zsA zg5 znx zm4 zfM [(17,.agg [.int .i64 3,.int .u32 0,.int .i64 0,.int .i64 0,slV 5 2 [[.int .i64 2,.int .u32 0,.int .i64 1,.int .i64 0,.nilsl],encX (.mk 1 1 0 0 [])]]),(18,.agg (Xa ⟨1,0,0,0,0,0,[zqA],[]⟩)),(19,.agg [.int .i64 3,.int .u32 0,.int .i64 0,.int .i64 0,slV 5 2 [[.int .i64 2,.int .u32 0,.int .i64 7,.int .i64 0,.nilsl],encX (.mk 1 4 0 0 [])]]),(20,.agg (Xa ⟨1,7,0,0,0,0,[exUp],[]⟩)),(21,.agg [.int .i64 9,.int .i64 0,.int .i64 0,.int .i64 0,.int .i64 0,.int .u32 0,.nilsl,.nilsl]),(22,slV 8 3 [Xa ⟨1,0,0,0,0,0,[zqA],[]⟩,Xa ⟨1,7,0,0,0,0,[exUp],[]⟩,[.int .i64 9,.int .i64 0,.int .i64 0,.int .i64 0,.int .i64 0,.int .u32 0,.nilsl,.nilsl]]),(23,.agg [.int .u32 0,slV 8 3 [Xa ⟨1,0,0,0,0,0,[zqA],[]⟩,Xa ⟨1,7,0,0,0,0,[exUp],[]⟩,[.int .i64 9,.int .i64 0,.int .i64 0,.int .i64 0,.int .i64 0,.int .u32 0,.nilsl,.nilsl]]]),(24,slV 2 1 [[.int .u32 0,slV 8 3 [Xa ⟨1,0,0,0,0,0,[zqA],[]⟩,Xa ⟨1,7,0,0,0,0,[exUp],[]⟩,[.int .i64 9,.int .i64 0,.int .i64 0,.int .i64 0,.int .i64 0,.int .u32 0,.nilsl,.nilsl]]]]),(25,.agg [.int .u32 0,slV 2 1 [[.int .u32 0,slV 8 3 [Xa ⟨1,0,0,0,0,0,[zqA],[]⟩,Xa ⟨1,7,0,0,0,0,[exUp],[]⟩,[.int .i64 9,.int .i64 0,.int .i64 0,.int .i64 0,.int .i64 0,.int .u32 0,.nilsl,.nilsl]]]]]),(3,.ptr 2 0 0 0 0)] (hsOf [([(0,.row 5 [[.int .i64 3,.int .u32 0,.int .i64 0,.int .i64 0,slV 5 2 [[.int .i64 2,.int .u32 0,.int .i64 1,.int .i64 0,.nilsl],encX (.mk 1 1 0 0 [])]]] 0),(1,.row 5 [[.int .i64 3,.int .u32 0,.int .i64 0,.int .i64 0,slV 5 2 [[.int .i64 2,.int .u32 0,.int .i64 7,.int .i64 0,.nilsl],encX (.mk 1 4 0 0 [])]]] 0)],2),([(0,.row 5 [[.int .i64 3,.int .u32 0,.int .i64 0,.int .i64 0,slV 5 2 [[.int .i64 2,.int .u32 0,.int .i64 1,.int .i64 0,.nilsl],encX (.mk 1 1 0 0 [])]]] 0),(1,.row 5 [[.int .i64 3,.int .u32 0,.int .i64 0,.int .i64 0,slV 5 2 [[.int .i64 2,.int .u32 0,.int .i64 7,.int .i64 0,.nilsl],encX (.mk 1 4 0 0 [])]]] 0),(2,.row 2 [[.int .u32 0,.nilsl]] 0)],3),([(0,.row 5 [[.int .i64 3,.int .u32 0,.int .i64 0,.int .i64 0,slV 5 2 [[.int .i64 2,.int .u32 0,.int .i64 1,.int .i64 0,.nilsl],encX (.mk 1 1 0 0 [])]]] 0),(1,.row 5 [[.int .i64 3,.int .u32 0,.int .i64 0,.int .i64 0,slV 5 2 [[.int .i64 2,.int .u32 0,.int .i64 7,.int .i64 0,.nilsl],encX (.mk 1 4 0 0 [])]]] 0),(2,.row 2 [[.int .u32 0,slV 2 1 [[.int .u32 0,slV 8 3 [Xa ⟨1,0,0,0,0,0,[zqA],[]⟩,Xa ⟨1,7,0,0,0,0,[exUp],[]⟩,[.int .i64 9,.int .i64 0,.int .i64 0,.int .i64 0,.int .i64 0,.int .u32 0,.nilsl,.nilsl]]]]]] 0)],3)]) (by kernel_rfl) (by rfl) (by rfl) (by repeat' first|exact QExt.retK|apply QExt.seq|apply QExt.block|apply QExt.loop|apply QExt.join|assumption) ?plan [(3,.ptr 2 0 0 0 0)] (by rfl) ?fin
 case' plan=>
  intro b hs c Q;have o:b.get 17=.agg [.int .i64 3,.int .u32 0,.int .i64 0,.int .i64 0,slV 5 2 [[.int .i64 2,.int .u32 0,.int .i64 1,.int .i64 0,.nilsl],encX (.mk 1 1 0 0 [])]]:=by rw[c,zi];rfl
  have d:b.get 18=.agg (Xa ⟨1,0,0,0,0,0,[zqA],[]⟩):=by rw[c,zi];rfl
  have p:b.get 19=.agg [.int .i64 3,.int .u32 0,.int .i64 0,.int .i64 0,slV 5 2 [[.int .i64 2,.int .u32 0,.int .i64 7,.int .i64 0,.nilsl],encX (.mk 1 4 0 0 [])]]:=by rw[c,zi];rfl
  have e:b.get 20=.agg (Xa ⟨1,7,0,0,0,0,[exUp],[]⟩):=by rw[c,zi];rfl
  have q:b.get 21=.agg [.int .i64 9,.int .i64 0,.int .i64 0,.int .i64 0,.int .i64 0,.int .u32 0,.nilsl,.nilsl]:=by rw[c,zi];rfl
  have s:b.get 22=slV 8 3 [Xa ⟨1,0,0,0,0,0,[zqA],[]⟩,Xa ⟨1,7,0,0,0,0,[exUp],[]⟩,[.int .i64 9,.int .i64 0,.int .i64 0,.int .i64 0,.int .i64 0,.int .u32 0,.nilsl,.nilsl]]:=by rw[c,zi];rfl
  have t:b.get 23=.agg [.int .u32 0,slV 8 3 [Xa ⟨1,0,0,0,0,0,[zqA],[]⟩,Xa ⟨1,7,0,0,0,0,[exUp],[]⟩,[.int .i64 9,.int .i64 0,.int .i64 0,.int .i64 0,.int .i64 0,.int .u32 0,.nilsl,.nilsl]]]:=by rw[c,zi];rfl
  have u:b.get 24=slV 2 1 [[.int .u32 0,slV 8 3 [Xa ⟨1,0,0,0,0,0,[zqA],[]⟩,Xa ⟨1,7,0,0,0,0,[exUp],[]⟩,[.int .i64 9,.int .i64 0,.int .i64 0,.int .i64 0,.int .i64 0,.int .u32 0,.nilsl,.nilsl]]]]:=by rw[c,zi];rfl
  have v:b.get 25=.agg [.int .u32 0,slV 2 1 [[.int .u32 0,slV 8 3 [Xa ⟨1,0,0,0,0,0,[zqA],[]⟩,Xa ⟨1,7,0,0,0,0,[exUp],[]⟩,[.int .i64 9,.int .i64 0,.int .i64 0,.int .i64 0,.int .i64 0,.int .u32 0,.nilsl,.nilsl]]]]]:=by rw[c,zi];rfl
  have B:b.get 3=.ptr 2 0 0 0 0:=by rw[c,zi];rfl
  have y:b.get 1=.ptr 0 0 0 0 0:=by rw[c,zi];rfl
  have A:b.get 2=.ptr 1 0 0 0 0:=by rw[c,zi];rfl
  simp only[zfM,zis,zkR,and_true]
  (repeat' with_reducible apply Wa)
  all_goals(rw[Q];simp only[znI,zgg,Wk,Wh,hsOf,hsAt,beqL,zgc,Xd,Wl,Wd,Wm,We,cond_true,cond_false,Wi,Wn,Xe])
  all_goals try(simp(disch:=try exact dis1) only[evD,Xd,Xe,Xg,zci,zbt,o,d,p,e,q,s,t,u,v,B,y,A,fldP,zC];done)
 case' fin=>simp only[zg5,hsOf,hsAt,beqL,zgc,Xd,Wl,Wd,Wm,We,cond_true,cond_false,Wi,Wn,Xe,Wk,Wh,zaL]
 ·(refine Gw8 j k @ub @zC @w @slS @slC @slF ?_;intros);refine zg (zaH (D:=noR) M (.cons W (.cons (.nil0 _ _ _) (.cons (.nil0 _ _ _) .nil))) (.inr λ_ _ h=>h)) ?_;refine Gw9 j k @ub @zC @w @slS @slC @slF @Sgn.cells.eq_1 ?_;intros;refine⟨rfl,?_⟩;refine Gw0 ?_;intros;refine zg (zaH (D:=noR) N (.cons X .nil) (.inr λ_ _ h=>h)) ?_;refine Gw8 j k @ub @zC @w @slS @slC @slF ?_;intros;refine⟨⟨by decide,rfl⟩,rfl,⟨by decide,rfl⟩,?_⟩;have x:=zBr zqB;have P:decide (((1:Nat):Int)=1)=true:=by decide
  have L:([zqB].map Xc).getD 0 []=zqB.cells:=rfl;simp only[Xc]at x I J L;have same:∀{H:AH}{C:Nat},zfZ Z9 zmP [.agg [za zqB.args,za zqB.res,za zqB.sav],.agg [slV 1 2 [[.int .i64 1],[.int .i64 7]],slV 1 1 [[.int .i64 0]],slV 1 7 [[.int .i64 1],[.int .i64 2],[.int .i64 3],[.int .i64 4],[.int .i64 5],[.int .i64 6],[.int .i64 7]]]] H C (.bool true):=zaH (D:=noR) J (.cons (zM rfl) (.cons Y .nil)) (.inl rfl);refine zF (ze x rfl) ?_;refine Gw7 j k @ub @zC @slS @slC @slF ?_;intros;refine zF same ?_;refine Gw9 P L j k @ub @zC @slS @slC @slF ?_;intros;refine zF (ze x rfl) ?_;refine Gw7 j k @ub @zC @slS @slC @slF ?_;intros;refine zF same ?_;refine Gw8 j k @ub @zC @w @slS @slC @slF ?_;intros;refine zF (ze I rfl) ?_;refine Gw8 j k @ub @zC @w @slS @slC @slF ?_;intros;refine⟨rfl,?_⟩;have Z:∀{H:AH},Vw H [] nos noR false (slV 1 1 [[.int .i64 0]]) (za [0]):=zq4 (m:=false) (λh=>by cases h) 9 _ _ (by rfl);refine zF (zaH (D:=noR) O (.cons (zM rfl) (.cons Z .nil)) (.inl rfl)) ?_;refine Gw1 @zkM.eq_1 ?_;intros;exact bzO
 all_goals(repeat first|simp(disch:=try exact dis1) only[evD,Xd,Xe,Xg,o,d,p,e,q,s,t,u,v,B,y,A,fldP,zC,j,k,w,slS,slC,slF,zci,zbt]|with_reducible first|intro _|refine aJ ?_)
 all_goals first
  |rfl
  |(refine zF (zaH (D:=noR) (zya 0 zqA) (.cons (.int _ _ _) (.cons U .nil)) (.inr λ_ _ h=>h)) ?_;(refine Gw3 @zci @zbt d ?_;intros;try with_reducible exact trivial))
  |(refine zF (zaH (D:=noR) (zya 7 exUp) (.cons (.int _ _ _) (.cons V .nil)) (.inr λ_ _ h=>h)) ?_;(refine Gw3 @zci @zbt e ?_;intros;try with_reducible exact trivial))
  |exact⟨⟨rfl,⟨rfl,by decide⟩,by decide⟩,rfl⟩
def zxx(s:St):Bool:=decide (s.cases.length<=8)&&(decide (s.e.length<=3)&&s.e.all λx=>decide (0<=zij x 70 100))
def zzP(b:Bl):Bool:=decide (b.stmts.length<=10)&&b.stmts.all zxx
def zzU(g:G):Bool:=(g.blocks.take 14).all zzP&&decide (g.blocks.length<=8)
theorem zJx{α:Type}{l:List α}{i n:Nat}{p:α->Bool}(d:i<=l.length)(e:i<=n)(h:¬(i<l.length/\i<n))(b:(l.take i).all p=true):(l.take n).all p=true:=by
 rw[show l.take n=l.take i from ?_]
 .exact b
 .by_cases c:i<l.length
  .rw[show i=n by omega]
  .rw[Wf (by omega),Wf (by omega)]
theorem zwt{α:Type}{l:List α}{i:Nat}{p:α->Bool}(c:i<l.length)(b:(l.take i).all p=true):(l.take (i+1)).all p=p l[i]:=by rw[Wz c,List.all_append,b];simp
theorem zKC{α:Type}{l:List α}{i n:Nat}{p:α->Bool}(d:i<l.length)(e:i<n)(h:p l[i]=false):(l.take n).all p=false:=by
 refine WA.2 λc=>?_
 have b:l[i]∈l.take n:=WC.2 ⟨i,by rw[Wj];omega,by rw[WD]⟩;rw[Wp.1 c _ b]at h;cases h
theorem zGG{α:Type}{l:List α}{i:Nat}{p:α->Bool}(b:i<l.length)(h:p l[i]=false):l.all p=false:=by
 refine WA.2 λc=>?_
 rw[Wp.1 c _ (Wg b)]at h;cases h
theorem zuN(g):zw Z9 zlg [.agg g.cells] (·=.bool (zzU g)):=by
 refine fn_x zuC rfl ?_;refine dcU zoF.eq_1 ?_;have hB:=hBig;obtain⟨N,l⟩:=g;simp only[G.cells];have t:(l.take 14).all zzP=false->zzU ⟨N,l⟩=false:=λh=>by unfold zzU;rw[h,We]
 have c:(l.take 14).all zzP=true->zzU ⟨N,l⟩=decide (l.length<=8):=λh=>by unfold zzU;rw[h,Wd]
 generalize zzU ⟨N,l⟩=R at t c⊢;refine Gw1 @ub ?_;intros;refine zc (λi:Nat=>([(1,encP 2 [.int .u32 N,encL 2 Xb l]),(3,.int .i64 i)],[])) 0 (λi=>i<=l.length/\i<=14/\(l.take i).all zzP=true) (λi=>l.length-i) 0 ⟨Wc _,Wc _,rfl⟩ (Xf rfl fin5) ?_;rintro i ⟨hi,U,A⟩ wf;clear wf;refine dcU zk6.eq_1 ?_;have B:=λh=>zJx (n:=14) hi U h A
 by_cases F:i<l.length;case neg=>obtain rfl:=c (B (λh=>F h.1));refine Qi ?_;intros;refine dcU zgy.eq_1 ?_;refine Gw2 @ub @zcu.eq_1 ?_;intros;exact bxO (decide_eq_decide.2 (by omega))
 by_cases I:i<14;case neg=>obtain rfl:=c (B (λh=>I h.2));rw[decide_eq_false (show ¬l.length<=8 by omega)];refine Gw3 @ub @dT @dF ?_;intros;refine dcU zgy.eq_1 ?_;refine Gw3 @ub @dF @zcu.eq_1 ?_;intros;exact bzO
 have w:=zwt F A;have q:=λh=>t (zKC (n:=14) (p:=zzP) F I h)
 clear B c t A;have H:=zk (f:=Xb) (d:=[]) F;generalize l[i]=bb at w q H;obtain⟨bad,o⟩:=bb;simp only[Xb]at H;by_cases P:o.length<=10;case neg=>obtain rfl:=q (by unfold zzP;rw[decide_eq_false P,We]);refine Gw4 @ub @dT H @zcu.eq_1 ?_;intros;exact bzO
 have Q:zzP ⟨bad,o⟩=o.all zxx:=by unfold zzP;rw[decide_eq_true P,Wd]
 rw[Q]at w q;clear Q;refine Gw4 @ub @dT @dF H ?_;intros;refine zc (λj:Nat=>([(1,encP 2 [.int .u32 N,encL 2 Xb l]),(3,.int .i64 i),(4,.int .i64 j)],[])) 0 (λj=>j<=o.length/\(o.take j).all zxx=true) (λj=>o.length-j) 0 ⟨Wc _,rfl⟩ (Xf rfl fin5) ?_;rintro j ⟨hj,m⟩ wf;clear wf;refine dcU zkS.eq_1 ?_;by_cases J:j<o.length;case neg=>rw[Wf (by omega)]at m;refine Gw3 @ub @dF H ?_;intros;refine dcU zkp.eq_1 ?_;refine Gw0 ?_;intros;exact⟨i+1,⟨by omega,by omega,by rw[w,m]⟩,by omega,Xf rfl fin5⟩
 have L:=zwt J m;have b:=λh=>q (zGG (p:=zxx) J h)
 clear m q;have C:=zk (f:=Xa) (d:=[]) J;generalize o[j]=s at L b C;obtain⟨op,var,D,next,O,X,e,cases⟩:=s;simp only[Xa]at C;by_cases Y:cases.length<=8;case neg=>obtain rfl:=b (by unfold zxx;rw[decide_eq_false Y,We]);refine Gw6 @ub @dT H C @ua @zcu.eq_1 ?_;intros;exact bzO
 by_cases Z:e.length<=3;case neg=>obtain rfl:=b (by unfold zxx;rw[decide_eq_true Y,decide_eq_false Z];rfl);refine Gw7 @ub @dT @dF H C @ua @zcu.eq_1 ?_;intros;exact bzO
 have S:zxx ⟨op,var,D,next,O,X,e,cases⟩=e.all λx=>decide (0<=zij x 70 100):=by unfold zxx;rw[decide_eq_true Y,decide_eq_true Z,Wd,Wd]
 rw[S]at L b;clear S;refine Gw6 @ub @dT @dF H C @ua ?_;intros;refine zc (λk:Nat=>([(1,encP 2 [.int .u32 N,encL 2 Xb l]),(3,.int .i64 i),(4,.int .i64 j),(5,.ptr 0 0 0 0 0),(6,.int .i64 k)],[(0,.row 8 [[.int .i64 op,.int .i64 var,.int .i64 D,.int .i64 next,.int .i64 O,.int .u32 X,encL 5 encX e,za cases]] 0)])) 1 (λk=>k<=e.length/\(e.take k).all (λx=>decide (0<=zij x 70 100))=true) (λk=>e.length-k) 0 ⟨Wc _,rfl⟩ (Xf rfl fin5) ?_;rintro k ⟨hk,v⟩ wf;clear wf;refine dcU zk4.eq_1 ?_;by_cases K:k<e.length;case neg=>rw[Wf (by omega)]at v;refine Qi ?_;intros;refine dcU zkx.eq_1 ?_;refine Gw0 ?_;intros;exact⟨j+1,⟨by omega,by rw[L,v]⟩,by omega,(Xj [] [] rfl Qn Qn)⟩
 have M:=zwt K v;have u:=λh=>b (zGG (p:=λx=>decide (0<=zij x 70 100)) K h)
 have W:=zlK e[k] 70 100 (by omega);have V:=zBz (zbn e[k]) e[k] 70 100 (Wu _) (by omega) (by omega) (by omega) (by omega);have T:(e.map encX).getD k []=encX e[k]:=zk K;generalize e[k]=x at M u W V T;refine Gw5 @ub @dT T @zam @zab ?_;intros;refine zg (ze V (flX rfl)) ?_;generalize zij x 70 100=y at M u W;by_cases hy:y<0
 .obtain rfl:=u (decide_eq_false (by omega));refine Gw2 @dT @zcu.eq_1 ?_;intros;exact bzO
 ·(refine Qa ?_;intros);exact⟨k+1,⟨by omega,by rw[M];exact decide_eq_true (by omega)⟩,by omega,Xf rfl fin5⟩
theorem zAG{n}:∀{l:List Ex},(∀x∈l,zbn x<=n)->zZ l<=l.length*n
 |[],_=>by rw[zZ];omega
 |
  x::l,h=>by
  have c:=h x List.mem_cons_self;have d:=zAG (l:=l) λy b=>h y (List.mem_cons_of_mem _ b)
  rw[zZ,Wi,Nat.succ_mul];omega
theorem zML{g}(h:zzU g=true):fewC g:=by
 unfold zzU at h;rw[Wo,decide_eq_true_eq]at h;obtain⟨n,p⟩:=h;rw[Wf (by omega)]at n;have m:=λb m=>Wp.1 n b m
 have k:∀b∈g.blocks,b.stmts.length<=10/\∀s∈b.stmts,zxx s=true:=λb c=>by have:=m b c;unfold zzP at this;rw[Wo,decide_eq_true_eq]at this;exact⟨this.1,λs k=>Wp.1 this.2 s k⟩
 have j:∀b∈g.blocks,∀s∈b.stmts,s.cases.length<=8/\s.e.length<=3/\∀x∈s.e,zbn x<=100:=λb c s d=>by have:=(k b c).2 s d;unfold zxx at this;rw[Wo,Wo,decide_eq_true_eq,decide_eq_true_eq]at this;refine⟨this.1,this.2.1,λx t=>?_⟩;have o:=of_decide_eq_true (Wp.1 this.2.2 x t);have:=zvm x 70 100 o;omega
 exact⟨p,λb c=>(k b c).1,λb c s d=>(j b c s d).1,λb c s d=>by
  have:=zAG (j b c s d).2.2;have q:=(j b c s d).2.1;have:s.e.length*100<=3*100:=Nat.mul_le_mul_right _ q
  omega,λb c s d=>(j b c s d).2.1⟩
theorem zFS{l}{b}(d:∀s∈l,s.args.length<=9223372036854775807/\s.res.length<=9223372036854775807)(a):(zaJ l b a).args.length<=9223372036854775807/\(zaJ l b a).res.length<=9223372036854775807:=by
 unfold zaJ
 cases idxA b a with
 |none=>exact⟨Wc _,Wc _⟩
 |some k=>
  by_cases c:k<l.length
  .have e:l.getD k zbF=l[k]:=by simp[List.getD,c]
   simp only[e];exact d _ (Wg c)
  .have e:l.getD k zbF=zbF:=by simp[List.getD,c]
   simp only[e];exact⟨Wc _,Wc _⟩
theorem zHq{l}(h:zBG l=true):l.length<=6:=by unfold zBG at h;rw[Wo,decide_eq_true_eq]at h;exact h.2
theorem zyF{l}{at'}:∀{n:Nat}{g:G},(zm8 l at' n g).blocks.length=g.blocks.length
 |0,g=>rfl
 |
  n+1,g=>by
  unfold zm8;split
  .rw[zyF,zmT]
  .rfl
theorem zKS(g)(d:fewC g)(l)(at'):∃(z:G) (c:Int),pruA l at' g=.tup [.agg z.cells,.int .i64 c] /\
  (if errC g l.length at'≠0 then .tup [.agg (G.cells ⟨0,[]⟩),.int .i64 (errC g l.length at')]else .tup [.agg (zqT l at' (cntG g+1) g).cells,.int .i64 0])=Xn [.agg z.cells,.int .i64 c]/\z.blocks.length<=8:=by
 unfold pruA;by_cases h:errC g l.length at'=0
 .rw[if_neg (λb=>b h),if_neg (λb=>b h)];have j:=PruG.of d h;have e:=zLh (l:=l) (at':=at') j.okEnds (Wy (cntG g)) (Wy (cntG g));exact⟨_,_,rfl,by rw[e],by rw[zyF];exact d.blocks⟩
 .rw[if_pos h,if_pos h];exact⟨_,_,rfl,rfl,by simp⟩
theorem L30_CallconvPrune_ok(g:G)(l:List Sgn)(c:List Int)(O:∀s∈l,s.args.length<=9223372036854775807/\s.res.length<=9223372036854775807):zw Z9 zli [.agg g.cells,encL 3 Xc l,encL 1 cW c] (·=.bool true):=by
 refine fn_x zqv rfl ?_;refine dcU zjB.eq_1 ?_;have S:=hBig;have x:=zuN g;have A:=zqz l;have h:=@zML g;have y:=@zHq l;have e:=zrJ;have F:=λw B C=>ztA g w l c B C (λa=>(zFS O a).1)
 have I:=λw B C=>zBT g w l c B C
 have D:=zxB l;have H:=λw=>zKS g w l c
 generalize zzU g=b at x h;generalize zBG l=b2 at A y;have M:g.cells=[.int .u32 g.addr,encL 2 Xb g.blocks]:=rfl;have m:[g.cells.getD 0 .undef,g.cells.getD 1 .undef]=g.cells:=rfl;have o:g.cells.length=2:=rfl;have n:zR g.cells=true:=rfl;refine Gw5 m o n @ub @zC ?_;intros;refine zg (ze x rfl) ?_
 cases b with
 |false=>refine Gw0 ?_;intros;refine zg (ze e rfl) ?_;refine Gw1 @zcy.eq_1 ?_;intros;exact bzO
 |true=>
  refine Gw0 ?_;intros;refine zg (ze A rfl) ?_
  cases b2 with
  |false=>refine Gw0 ?_;intros;refine zg (ze e rfl) ?_;refine Gw1 @zcy.eq_1 ?_;intros;exact bzO
  |true=>
   by_cases R:c.length<=6;case neg=>refine Gw1 @dT ?_;intros;refine zg (ze e rfl) ?_;refine Gw1 @zcy.eq_1 ?_;intros;exact bzO
   have N:=y rfl;obtain⟨z,Q,K,L,P⟩:=H (h rfl);have d:=F (h rfl) (by omega) (by omega);have k:=I (h rfl) (by omega) (by omega);rw[K]at d;rw[L]at k;have J:=zuE z (by omega);have t:[z.cells.getD 0 .undef,z.cells.getD 1 .undef]=z.cells:=rfl;have v:z.cells.length=2:=rfl;have u:zR z.cells=true:=rfl;have p:∀l:List AV,(Xh l).cells=l:=λ_=>rfl
   have q:∀l:List AV,(Xh l).solid=true:=λ_=>rfl
   have j:=D (by omega);refine Gw11 @dF m o n t v u p q @ub @zC ?_;intros
   (repeat' with_reducible apply Wa)
   all_goals
    (try(refine zF (ze j rfl) ?_;(repeat first|simp(maxSteps:=10000000) (disch:=try exact dis1) only[evD,Xd,Xe,Xg,m,o,n,t,v,u,p,q,fldP,zC]|with_reducible intro _|((with_reducible apply Wa);omega))))
    (repeat' with_reducible apply Wa)
   all_goals
    (try(refine zF (ze d rfl) ?_;(repeat first|simp(maxSteps:=10000000) (disch:=try exact dis1) only[evD,Xd,Xe,Xg,m,o,n,t,v,u,p,q,fldP,zC]|with_reducible intro _|((with_reducible apply Wa);omega))))
    (repeat' with_reducible apply Wa)
   all_goals
    (try(refine zF (ze j rfl) ?_;(repeat first|simp(maxSteps:=10000000) (disch:=try exact dis1) only[evD,Xd,Xe,Xg,m,o,n,t,v,u,p,q,fldP,zC]|with_reducible intro _|((with_reducible apply Wa);omega))))
    (repeat' with_reducible apply Wa)
   all_goals
    (try(refine zF (ze d rfl) ?_;(repeat first|simp(maxSteps:=10000000) (disch:=try exact dis1) only[evD,Xd,Xe,Xg,m,o,n,t,v,u,p,q,fldP,zC]|with_reducible intro _|((with_reducible apply Wa);omega))))
    (repeat' with_reducible apply Wa)
   all_goals
    refine zg (ze k rfl) ?_;refine Gw10 m o n t v u p q @ub @zC ?_;intros;refine zg (ze J rfl) ?_;refine Gw0 ?_;intros;refine zg (ze e rfl) ?_;refine Gw1 @zcy.eq_1 ?_;intros;exact bzO
end Go.Ab
