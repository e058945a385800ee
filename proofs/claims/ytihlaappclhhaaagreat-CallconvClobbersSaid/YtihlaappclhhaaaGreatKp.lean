/-
  Part 16 of the proof: how the calls of this program run, over values instead of memory, and what each function computes.
-/
import Derived.KernelRfl
import Derived.Test.YtihlaappclhhaaaGreatKo
set_option maxRecDepth 100000
set_option linter.unusedVariables false
set_option linter.unusedSimpArgs false
set_option linter.unnecessarySimpa false
set_option linter.unusedSectionVars false
open Go.Ab.Sgn renaming cells->Xa
open Go.Ab.Ent renaming tab->Xb,tabB->Xl
open Nat renaming reduceBEq->Xc,reduceAdd->Xd,reduceLeDiff->Xe,reduceSub->Xf,reduceLT->Xg,zero_add->Xo
open Go.Ab.AV renaming int->Xh,agg->Xi,ren->Xk
open Go.Ab.RowV renaming of_flat->Xj
open Go.Ab.AObj renaming ren->Xm
open Classical renaming byContradiction->Xn
open Go.Proofs.Tryz renaming prog->Z9
open And renaming intro→Wa
open Nat renaming zero_le→Wc,le_trans→We,le_refl→Wp,add_zero→WH,lt_succ_self→WR
open List renaming range→Wd,getElem_mem→Wf,take_length→Wg,replicate→Wh,length_map→Wi,map_cons→Wj,getD→Wk,all_eq_true→Wl,map_append→Wm,length_append→Wn,take_succ_eq_append_getElem→Wo,map_nil→Wq,length_cons→Ws,length_take→Wt,mem_range→Wu,length_nil→Wv,mem_append→Ww,all_append→Wx,mem_flatMap→Wy,mem_map→Wz,filter_congr→WA,mem_filter→WD,sum_append→WJ,length_singleton→WK,length_filter_le→WL,drop_of_length_le→WM,drop_eq_getElem_cons→WN,filter_cons→WO,range_succ→WQ,ext_getElem→WS,eq_of_mem_replicate→WW,map_congr_left→WX,getD_cons_succ→WY,getD_cons_zero→WZ,take_of_length_le→W0,mem_iff_getElem→W3,getElem_take→W5,getElem_map→W6
open Bool renaming and_eq_true→Wr,true_and→WB,false_and→WC,not_false→WE,and_true→WF,eq_iff_iff→WG,true_or→WP,eq_false_iff→WU
open Int renaming toNat_natCast→WI,natCast_nonneg→WV
namespace Go.Ab
open Go.RowKit Go.Proofs
mutual
theorem zI0:∀(e:Ex),zgJ e=true->∀y∈occX e,0<=y
 |
  .mk op n v w l,h,y,b=>by
  rw[zgJ,Wr]at h;rw[occX]at b;rcases Ww.1 b with b|b
  .by_cases c:op=2
   .rw[if_pos c,List.mem_singleton]at b;have d:=h.2;unfold zz at d;have g:=of_decide_eq_true d;omega
   .rw[if_neg c]at b;cases b
  .exact zwG l h.1 y b
theorem zwG:∀(l:List Ex),zd0 l=true->∀y∈zd6 l,0<=y
 |[],_,y,b=>by rw[zd6]at b;cases b
 |
  e::l,h,y,b=>by
  rw[zd0,Wr]at h;rw[zd6]at b;rcases Ww.1 b with b|b
  .exact zI0 e h.1 y b
  .exact zwG l h.2 y b
end
theorem zBc:∀{l:List Ex},(∀e∈l,zgJ e=true)->zd0 l=true
 |[],_=>by rw[zd0]
 |e::l,h=>by rw[zd0,Wr];exact⟨h e (by simp),zBc λx b=>h x (by simp[b])⟩
theorem zIz{s}(h:OkS s):∀y∈zkQ s,0<=y:=λy b=>by
 unfold zkQ at b;rcases(zsk _ _).1 b with b|b
 .cases b
 .exact zwG _ (zBc h.form) y b
theorem zrE{α β:Type}{f:α->List β}{m:Nat}:∀{l:List α},(∀a∈l,(f a).length<=m)->(l.flatMap f).length<=l.length*m
 |[],_=>by simp
 |
  a::l,h=>by
  rw[List.flatMap_cons,Wn,Ws,Nat.succ_mul];have c:=h a (by simp);have d:=zrE (l:=l) λx b=>h x (by simp[b])
  omega
def allU(g:G):List Int:=(g.blocks.flatMap λb=>b.stmts.flatMap zkQ)++zey true
theorem zD7{g}(c:fewC g):(allU g).length<=24012:=by
 unfold allU;have h:(g.blocks.flatMap λb=>b.stmts.flatMap zkQ).length<=g.blocks.length*3000:=zrE λb d=>by refine We (zrE (m:=300) λs e=>We (zw2 s) (c.size b d s e)) ?_;have:=c.stmts b d;omega
 have j:=c.blocks;rw[Wn,show(zey true).length=12 from rfl];omega
theorem zA2(b):(zey b).length<=12:=by
 cases b
 .exact Wc _
 .exact Wp _
theorem zH2(b):∀x∈zey b,x∈zey true:=λx c=>by
 cases b
 .cases c
 .exact c
theorem zLY{g:G}(d:fewC g)(v:OkG g)(j:∀b∈g.blocks,∀s∈b.stmts,OkS s)(l:List Sgn)(o:List Int)(q:Bool)(u:∀a,(zaz l o a).args.length<=9223372036854775807):SizC (allU g) g l o (zey q) 900 where
 uses b e s j x c:=Ww.2 (.inl (Wy.2 ⟨b,e,Wy.2 ⟨s,j,c⟩⟩))
 more b e s j x c:=by
  refine Ww.2 (.inr ?_);unfold zoQ at c;split at c
  .have p:=(WD.1 c).2;unfold inG at p;have m:=of_decide_eq_true p;exact(zBB m.1).2 ⟨rfl,m.2⟩
  .split at c
   .exact zH2 q x c
   .cases c
 pos x c:=by
  rcases Ww.1 c with h|h
  .obtain⟨b,e,t⟩:=Wy.1 h;obtain⟨s,p,m⟩:=Wy.1 t;exact zIz (j b e s p) x m
  .unfold zey at h;rw[if_pos rfl]at h;obtain⟨n,_,rfl⟩:=Wz.1 h;exact WV _
 len:=We (zD7 d) (by decide)
 mlen b e s j:=zIJ (We (zA2 q) (by decide)) (by decide)
 nlen:=by decide
 ok:=v
 blk:=We d.blocks (by decide)
 room k hk:=by
  have t:=zsd d hk;have p:(blkG g k).stmts.length<=10:=by rw[zg8 hk];exact d.stmts _ (Wf hk)
  have m:=zD7 d;have w:(edgB g k).length*(allU g).length<=8*24012:=Nat.mul_le_mul t m;omega
 edg k hk:=We (zsd d hk) (by decide)
 sts k hk:=by rw[zg8 hk];exact We (d.stmts _ (Wf hk)) (by decide)
 siz b e s j:=⟨d.size b e s j,We (d.cases b e s j) (by decide)⟩
 exl:=We (zA2 q) (by decide)
 n12:=by decide
 arg:=u
theorem zD2{v}:hasI [] v=false:=rfl
theorem zLq{g}{l}{at'}{U}{S}(h:LiveR U g l at' false S)(b:0<g.blocks.length):srtL (S 0) []=(sigG g l at').args:=by
 unfold srtL;show _=((Wd 12).filter (argP g l at')).map λ(v:Nat)=>(v:Int)
 congr 1;refine WA λv _=>?_
 unfold srtP argP;rw[zD2,WE,WF];exact h.bit v (WV _) 0 b
theorem res_of{g}{l}{at'}:rsL g l at' (savG g l at')=(sigG g l at').res:=by
 unfold rsL;show _=((Wd 12).filter (resP g l at')).map λ(v:Nat)=>(v:Int)
 congr 1;refine WA λv _=>?_
 unfold resP;congr 2;by_cases b:(v:Int)∈savG g l at'
 .rw[zjA b,decide_eq_true b]
 .rw[znl b,decide_eq_false b]
theorem Qad{b p:Prop}(a0:b)(h:b->p:=by intro a0;(try simp only[evWB,Nat.reduceBEq,Nat.reduceAdd,Nat.reduceSub,Nat.reduceLeDiff,Nat.reduceLT,implies_true,a0])<;>(repeat' with_reducible apply And.intro)<;>first|(first|exact zf|exact zl|exact RowV.of_flat zaE;done)|exact fin8):p:=h a0
theorem Qae{c d p:Prop}(a0:c)(b:d)(h:c->d->p:=by intro a0 b;(try simp only[evWB,Nat.reduceBEq,Nat.reduceAdd,Nat.reduceSub,Nat.reduceLeDiff,Nat.reduceLT,implies_true,a0,b])<;>(repeat' with_reducible apply And.intro)<;>first|(first|exact zf|exact zl|exact RowV.of_flat zaE;done)|exact fin8):p:=h a0 b
theorem Qaf{d e g p:Prop}(a0:d)(b:e)(c:g)(h:d->e->g->p:=by intro a0 b c;(try simp only[evWB,Nat.reduceBEq,Nat.reduceAdd,Nat.reduceSub,Nat.reduceLeDiff,Nat.reduceLT,implies_true,a0,b,c])<;>(repeat' with_reducible apply And.intro)<;>first|(first|exact zf|exact zl|exact RowV.of_flat zaE;done)|exact fin8):p:=h a0 b c
theorem zri(g)(w:fewC g)(x:OkG g)(L:∀b∈g.blocks,∀s∈b.stmts,OkS s)(B:∀b∈g.blocks,zf7 b.stmts=true)(l)(d)(c)(m)(I:TabS l d m)(N:∀a,(zaz l d a).args.length<=9223372036854775807)(O:∀a,(zaz l d a).res.length<=9223372036854775807):
  zad Z9 zgM [.agg g.cells,.mp 0 0] [(0,.row 3 (tabM c m) 0)] 1
  (λv H P=>v=.agg (sigG g l d).cells/\H=[(0,.row 3 (tabM c m) 0)]/\P=1):=by
 refine zab (fn_x zxt rfl ?_);refine dcU zrc.eq_1 ?_;have U:=hBig;have p:=zti g w x L B l d c m I;have k:=zuY g l d false (allU g) 900 c m I (zLY w x L l d false N);have j:=zrK g w x l d c m I O (savG g l d);have e:=x.pos;have q:=w.blocks;have o:=λS (h:LiveR (allU g) g l d false S)=>zLq h e
 rw[res_of]at j;have F:(sigG g l d).cells=[za (sigG g l d).args,za (sigG g l d).res,za (savG g l d)]:=rfl;rw[F];generalize (sigG g l d).args=A at o⊢;generalize (sigG g l d).res=R at j⊢;generalize savG g l d=V at p j⊢;generalize W:g.blocks.length=n at k e q;generalize LiveR (allU g) g l d false=LR at k o;generalize t:g.cells=C at p k j⊢;obtain⟨Q,T⟩:=g;simp only[G.cells]at t;subst t;refine Qi ?_;intros;(refine zH [(0,0,0)] 1 _ (p) rfl rfl (Qad @ua) (Qad @ua) ?_);rintro _ _ _ ⟨rfl,rfl,rfl⟩;refine Gw4 @zmN @renE @ub @zu ?_;intros;have J:Tab.to [(0,0,0)] 3 1=4:=rfl;have K:Tab.to [(0,0,0)] 3 2=5:=rfl;have D:(mps 5 n).getD (Int.toNat 0) []=[.mp 5 1]:=zz0 e
 (repeat' with_reducible apply Wa)
 all_goals(refine zH [(0,0,0)] 1 _ (k) rfl rfl (Qae @ua @zey.eq_1) (Qae @ua @zey.eq_1) ?_)
 all_goals(rintro _ _ _ ⟨S,rfl,rfl,rfl,y⟩;have M:=o S y;have u:=zrS n 0 e S [];rw[M]at u;simp only[zKr])
 all_goals(repeat first|simp(disch:=try exact dis1) only[evD,Xc,Xd,Xe,zmN,renP,renF,Xk,J,K,zyU,D,fldP,zu]|with_reducible first|intro _|refine aJ ?_)
 all_goals(repeat' with_reducible apply Wa)
 all_goals try omega
 all_goals(refine zH [(0,5,0)] 1 _ (u) rfl rfl (Qae @ua @ui) (Qae @ua @ui) ?_)
 all_goals(rintro _ _ _ ⟨rfl,rfl,rfl⟩;(refine Gw4 @renF @renE @ub @zu ?_;intros;try with_reducible exact trivial))
 all_goals(repeat' with_reducible apply Wa)
 all_goals try omega
 all_goals(refine zH [(0,0,0)] 1 _ (j) rfl rfl (Qae @ua @ui) (Qae @ua @ui) ?_)
 all_goals(rintro _ _ _ ⟨rfl,rfl,rfl⟩;(refine Gw6 @zmN @renE @ub @zu @ua @zq1.eq_1 ?_;intros;try with_reducible exact trivial))
 all_goals exact⟨.agg [za A,za R,za V],[(0,.row 3 (tabM c m) 0)],1,(Xl [(0,0,0)] [] rfl rfl rfl (Qaf @zk @ua @uf) (Qaf @zk @ua @uf)),rfl,rfl,rfl⟩
def zsT(g:G):List Int:=zbz (zfv (tgB g.blocks))
theorem zIA{a}{l}:a∈tgB l↔∃b∈l,∃s∈b.stmts,s.op=5/\s.tgt=a:=by unfold tgB tgS;simp only[Wy,Wz,WD,decide_eq_true_eq,and_assoc]
theorem zAO{g}:zsT g=zeU [] (tgB g.blocks):=zux _ _ (zmX (by simp[Asc])) λx=>by rw[zmo];simp
theorem ztO{g}{a}:a∈zsT g↔∃b∈g.blocks,∃s∈b.stmts,s.op=5/\s.tgt=a:=by rw[zAO,zmo,<-zIA];simp
theorem zC9{g}(b:fewC g):(tgB g.blocks).length<=80:=by have c:=zDq (l:=g.blocks) (n:=10) b.stmts;have d:=b.blocks;omega
theorem zxR{g}(c:fewC g):(zsT g).length<=80:=by
 have d:(zsT g).Nodup:=by rw[zAO];exact(zmX (a:=[]) (by simp[Asc])).imp λh e=>by omega
 refine We (List.Nodup.length_le_of_subset d λx b=>?_) (zC9 c);rw[ztO,<-zIA]at b;exact b
theorem zyp{g}{at'}:resG g at'=(zsT g).all λa=>(idxA at' a).isSome:=by
 rw[WG,Wl];unfold resG;rw[Wl];constructor
 .intro h a o;obtain⟨b,j,s,n,e,rfl⟩:=ztO.1 o;have c:=h b j;unfold resB at c;rw[Wl]at c;have d:=c s n;unfold resS at d;rw[decide_eq_true e]at d
  cases m:idxA at' s.tgt with
  |none=>rw[m]at d;exact absurd d (by decide)
  |some k=>rfl
 .intro h b j;unfold resB;rw[Wl];intro s n;unfold resS;by_cases e:s.op=5
  .have c:=h s.tgt (ztO.2 ⟨b,j,s,n,e,rfl⟩)
   cases m:idxA at' s.tgt with
   |none=>rw[m]at c;cases c
   |some k=>simp
  .rw[decide_eq_false e];rfl
theorem Qm{p q:Prop}(k:q)(h:Im q p:=by(repeat first|simp(disch:=try exact dis1) only[evD,Nat.reduceBEq,Nat.reduceAdd,Nat.reduceLeDiff,zmN,AV.ren,fldP,zu]|((with_reducible apply Im.i);intro _)|((with_reducible apply Im.a);omega));exact Im.r):p:=h k
theorem Qag{p:Prop}(h:p:=by(try simp only[evWB,Nat.reduceBEq,Nat.reduceAdd,Nat.reduceSub,Nat.reduceLeDiff,Nat.reduceLT,implies_true])<;>(repeat' with_reducible apply And.intro)<;>first|(first|exact zf|exact zl|exact RowV.of_flat (zfh _ _);done)|exact fin6):p:=h
theorem Qah{b p:Prop}(a0:b)(h:b->p:=by intro a0;(try simp only[evWB,Nat.reduceBEq,Nat.reduceAdd,Nat.reduceSub,Nat.reduceLeDiff,Nat.reduceLT,implies_true,a0])<;>(repeat' with_reducible apply And.intro)<;>first|(first|exact zf|exact zl|exact RowV.of_flat (zfh _ _);done)|exact fin6):p:=h a0
theorem ztE(g)(w:fewC g)(l)(at')(M:at'.length<=1000000)(N:l.length<=1000000):zq Z9 ziH [.agg g.cells,encL 3 Xa l,encL 1 cW at'] (·=.int .i64 (errC g l.length at')):=by
 refine fn_x ztc rfl ?_;refine dcU zmE.eq_1 ?_;have T:=hBig;have t:=zmC g (zmK w) (λb D s O=>We (w.cases b D s O) (by decide));have o:=zmZ g (We (zC9 w) (by decide)) (We w.blocks (by decide)) (λb D=>We (w.stmts b D) (by decide));have n:=zyp (g:=g) (at':=at');have u:=zxR w;unfold errC;rw[show zbz (zfv (tgB g.blocks))=zsT g from rfl]at o;generalize zsT g=e at o n u;generalize resG g at'=Q at n⊢;generalize zc1 g=L at t⊢;generalize y:g.cells=C at t o⊢;obtain⟨R,S⟩:=g;simp only[G.cells]at y;subst y;by_cases F:l.length=at'.length;case neg=>rw[if_pos (by omega)];refine Gw4 @dT @ub @zu @zdK.eq_1 ?_;intros;exact izO
 rw[if_neg (by omega)];refine Gw3 @dF @ub @zu ?_;intros;refine zc (zb t rfl) ?_;by_cases J:L=0;case neg=>rw[if_pos J];refine Gw2 @dT @zdK.eq_1 ?_;intros;exact izO
 rw[if_neg (λh=>h J)];refine Qa ?_;intros;refine zH [] 0 _ (zfV l at' M F) rfl rfl Qag Qag ?_;rintro _ _ _ ⟨rfl,rfl,c,es,rfl,P⟩;refine Qm ?_;intros;refine zc (zb o rfl) ?_;refine Gw0 ?_;intros;refine zd (λi:Nat=>([(8,.mp 0 0),(27,encL 1 cW e),(28,.int .i64 e.length),(29,.int .i64 i)],[(0,.row 3 (tabM c es) 0)])) 1 (λi=>i<=e.length/\(e.take i).all (λa=>(idxA at' a).isSome)=true) (λi=>e.length-i) 0 ⟨Wc _,rfl⟩ (Xb [(0,0,0)] [] rfl (Qah @ua) (Qah @ua)) ?_;rintro i ⟨U,k⟩ wf;clear wf;refine dcU ziX.eq_1 ?_;by_cases p:i<e.length
 case neg=>
  obtain rfl:i=e.length:=by omega
  rw[Wg,<-n]at k;rw[if_pos k];refine Qa ?_;intros;unfold zjk;refine Gw1 @zdK.eq_1 ?_;intros;exact izO
 have B:(e.map cW).getD i []=[.int .u32 e[i]]:=zj (f:=cW) p;have m:=zG5 P e[i];have d:=ztV (a:=e[i]) (es:=es) (i:=0);have v:(e.take (i+1)).all (λa=>(idxA at' a).isSome)=(idxA at' e[i]).isSome:=by rw[Wo p,Wx,k];simp
 have q:e[i]∈e:=Wf p;generalize e[i]=a at B m d v q;have I:∀l:List AV,(Xi l).cells=l:=λ_=>rfl
 have K:∀l:List AV,(Xi l).solid=true:=λ_=>rfl
 have A:tabM c es=[Xh .i64 c,.undef,.undef]::es.map cT:=rfl
 cases x:atT es a with
 |none=>
  rw[x]at m d;simp only at d;have H:Q≠true:=λh=>by rw[h]at n;have:=Wl.1 n.symm a q;rw[<-m]at this;cases this
  rw[if_neg H]
  (repeat first|simp(disch:=try exact dis1) only[evD,Xc,Xd,Xe,dT,B,tabM,d,I,K,Option.isSome_none,zdK]|with_reducible first|intro _|refine aJ ?_)
  exact izO
 |some j=>
  rw[x]at m d;simp only at d;rw[<-m]at v;generalize (es.getD j ⟨0,zaS,0⟩).sg=V at d
  (repeat first|simp(disch:=try exact dis1) only[evD,Xc,Xd,Xe,dT,B,tabM,d,I,K,Xa,Option.isSome_some]|with_reducible first|intro _|refine aJ ?_)
  rw[<-A];exact⟨i+1,⟨p,v⟩,by omega,(Xb [(0,0,0)] [] rfl (Qah @ua) (Qah @ua))⟩
theorem zAg{g}(h:zc1 g=0):∀b∈g.blocks,zf7 b.stmts=true:=λb j=>by
 have c:=zvH h;unfold zyh at c;split at c;case isFalse=>cases c
 rename_i e;rw[Wr,Wl]at e;have d:=e.2 b j;unfold zfR at d;rw[Wr,Wr]at d;exact d.2.1
theorem Qai{p:Prop}(h:p:=by(try simp only[evWB,Nat.reduceBEq,Nat.reduceAdd,Nat.reduceSub,Nat.reduceLeDiff,Nat.reduceLT,implies_true])<;>(repeat' with_reducible apply And.intro)<;>first|(first|exact zf|exact zl|exact RowV.of_flat (zfh _ _)|exact zZ rfl;done)|exact fin6):p:=h
theorem zmb(g)(u:fewC g)(l)(d)(I:d.length<=1000000)(w:l.length<=1000000)(M:∀a,(zaz l d a).args.length<=9223372036854775807)(N:∀a,(zaz l d a).res.length<=9223372036854775807):
  zq Z9 zS [.agg g.cells,encL 3 Xa l,encL 1 cW d] (·=ofG g l d):=by
 refine fn_x zxj rfl ?_;unfold zra ofG;conv in Z8 _ _=>reduce
 have S:=hBig;have o:=ztE g u l d I w;have e:=λ(j:errC g l.length d=0) c v D=>zri g u (zyn u (zjY j).2.1).1 (zyn u (zjY j).2.1).2 (zAg (zjY j).2.1) l d c v D M N
 have s:=λ(j:errC g l.length d=0)=>(zjY j).1
 generalize errC g l.length d=L at o e s⊢;generalize sigG g l d=F at e⊢;generalize q:g.cells=C at o e⊢;obtain⟨Q,R⟩:=g;simp only[G.cells]at q;subst q;have J:∀l:List AV,(Xi l).cells=l:=λ_=>rfl
 have P:∀l:List AV,(Xi l).solid=true:=λ_=>rfl
 have K:F.cells.length=3:=rfl
 have m:∀(H:AH)(x:AV)(y:Sgn)(n:Int),Frz H x (.agg y.cells)->∃a,Frz H (.tup [x,.int .i64 n]) a/\a=.tup [.agg y.cells,.int .i64 n]:=λH x y n O=>⟨.tup [.agg y.cells,.int .i64 n],.tup _ _ _ rfl (λi a b k p=>match i with
  |0=>by cases k;cases p;exact O
  |1=>by cases k;cases p;exact .int _ _ _
  |i+2=>by cases k),rfl⟩
 have t:∀H:AH,Frz H (.agg [.nilsl,.nilsl,.nilsl]) (.agg zaS.cells):=λH=>.agg _ _ _ rfl (λi a b k p=>match i with
  |0=>by cases k;cases p;exact .nil0 _ _ _
  |1=>by cases k;cases p;exact .nil0 _ _ _
  |2=>by cases k;cases p;exact .nil0 _ _ _
  |i+3=>by cases k)
 refine Qi ?_;intros;refine zc (zb o rfl) ?_;by_cases j:L=0;case neg=>rw[if_pos j];refine Gw2 @dT @zl1.eq_1 ?_;intros;exact m _ _ zaS _ (t _)
 rw[if_neg (λh=>h j)];have B:∀ρ:Nat->Nat,Xk ρ (.agg F.cells)=.agg F.cells:=λρ=>by simp only[Xk,Xa,Wj,Wq,renE]
 have e:=e j;have A:=zfV l d I (s j);refine Gw3 @dF @ub @zu ?_;intros
 (repeat' with_reducible apply Wa)
 all_goals(refine zH [] 0 _ A rfl rfl Qai Qai ?_)
 all_goals(rintro _ _ _ ⟨rfl,rfl,c,v,rfl,D⟩;(refine Qm ?_;intros))
 all_goals(refine zH [(0,1,0)] 1 _ (e c v D) rfl rfl Qai Qai ?_)
 all_goals(rintro _ _ _ ⟨rfl,rfl,rfl⟩;(refine Gw6 @zmN B J P K @zl1.eq_1 ?_;intros;try with_reducible exact trivial))
 all_goals exact m _ _ _ _ (zZ rfl)
def zlX:ACode:=Z8 0x9e110ad2100dd06021000000000003d91c9e1181112301e0e34016e813c0101001115c00c001101123012340a00900a0090dd21c10bd210922002133532701430800dd36bd2113 []
def zlb:ACode:=Z8 0x3c2d73100d21003d06ae221 []
def zla:ACode:=Z8 0x19096250000001130000cc86211819d8d140110b1030a00805d26130001d47db2815d072403298212203d1d24020061315307014302d3d361d2113 [zlX,zlb]
def zhr:ACode:=Z8 0x27f11003f210006f0627f221000000000000000000000000000ce10c2d102138130ff0ef34021121ff1117f10344439c02124f2bdb0211025c1230211021123021234023c002900211cf2adb0211025c1130211021113021234023c0029002114f2adb0211025c1030211021103021234023c00290023c0022c00bf22200ae1c40df1381444392c21229da01c004c2208f251300004f40af4c28108f00c2403291c2122006f04f240200613753670143005f06f3604f2113 []
def zlU:ACode:=.seq (.seq (.region [(oM 100 11),(oM 101 6),(oN 102 (.call zD [(.t 100),(.t 101),(.c (.fn (.func zeu) []))]))] [6,10,61,62,63,100,101]) (.cond (.t 102) (.seq (.region [(oM 103 11),(oM 2 103),(oK 3 0)] [0,5,11,102,103]) (.ret)) (.skip))) (.region [(oM 104 11),(oM 6 104)] [2,3,11,102,104])
def zhB:ACode:=Z8 0x19096650000001503001f2313300ee310b21144430cf3ac015030ee241300be310a21228da080090be241355 [zhr,zlU]
def zlK:ACode:=.block 4 (.loop zhB)
def zpa:ACode:=Z8 0x190960500000015030ec2313300bc310621144430cf3ac015030bc24130011c002710521103141ac0150308c24130801c304ac0036c22700313145c10001860105c221303c21042117da0303c231330220000036c22213 [zla,zlK]
attribute[irreducible]zlX zlb zla zhr zlU zlK
def zku:List ARet:=[.tmp 2,.tmp 3]
theorem zwa:zK Z9 zie (qRo [])=some (zpa.strip,zku,105):=by kernel_rfl
def zgW:ACode:=Z8 0x17c224106c21009c06fc221080600a407102280021314cc1000186010cc221305c43105211dea0122ac2313007c3cc12814032942122027c24041315307014308c9c367c2113 []
def zhj:ACode:=Z8 0xed1103d21006d060210001d526201ed37a4c1110b103090bd241086008c150780002211314007d31ad210794c0110b1030907d24133004d39d12814032982122024d24041335327014305d6d364d2113 []
def zgS:ACode:=Z8 0x0ce23108e2100be0600f221086004008d686c000221131400fd0c410c012210794c03c0090ce2413009e3100c211029e1403137536701430aebe369e2113 []
def zgT:ACode:=Z8 0x8006e4101e21004e0601f221 []
def zg6:ACode:=Z8 0x1909665ada20000015011eea01225e2413002e37e128140329a2122022e24041355347014303e4e362e2113 [zgS,zgT]
def zg7:ACode:=.seq (.region [(oK 2 0)] [6,43,44,45]) (.ret)
def zhn:ACode:=Z8 0x1909645000d040000015010fd23133 [zg6,zg7]
def zg2:ACode:=Z8 0x1909625000000150301d231339004c41062014c0d2213 [zhj,zhn]
def ziU:ACode:=Z8 0x19096050c2200000150304c23133082c026000221131401c25d001560150301c2313321000022113 [zgW,zg2]
attribute[irreducible]zgW zhj zgS zgT zg6 zg7 zhn zg2
def zbB:List ARet:=[.tmp 2]
theorem zqo:zK Z9 zgp (qRo [])=some (ziU.strip,zbB,62):=by kernel_rfl
def zjb:ACode:=Z8 0x8c1102c21005c060210a73201234a4c1a00806c231003c3107211023c14031315307014304c5c363c2113 []
def zi8:ACode:=Z8 0x80600656104240126ea0809c2313 []
def zmi:ACode:=Z8 0x1909605007005000001501101fa01120241215c040030926133811052014c822134116c42113 [zjb,zi8]
attribute[irreducible]zjb zi8
def zmH:List ARet:=[.tmp 4]
theorem ztG:zK Z9 zgf (qRo [])=some (zmi.strip,zmH,23):=by kernel_rfl
def zik:ACode:=Z8 0x487310a21001c069c22100000876105218c813c0101001115c0a00800511402c212202fa0a00402c231300b310721102b14031315307014300c1c36b2113 []
def zin:ACode:=Z8 0x80b00231710421103fa080ac2313 []
def zle:ACode:=Z8 0x1909605010000015030823133016c01134116c42113 [zik,zin]
attribute[irreducible]zik zin
def zln:List ARet:=[.tmp 4]
theorem zsA:zK Z9 zh5 (qRo [])=some (zle.strip,zln,24):=by kernel_rfl
def zmI:ACode:=Z8 0x80000000000000000001029c10421018c701ac204fa31136123311351237d61001011c7013c204fa31136113311351139c610019204fa011061030110510308c132003100021c011c22313 []
def zfx:List ARet:=[.tmp 4]
theorem ztP:zK Z9 zeu (qRo [2,3])=some (zmI.strip,zfx,24):=by kernel_rfl
def zL:ACode:=Z8 0x0bc63105c21008c063d221080c000c01610062113140004c08610c01221dbc00c320b32050ec25130002c750d13814443992132012340a0040ac26130006c4ccb381ac072444398213208c6c34020061315307014307c8c366c2113 []
def zM:ACode:=.seq (.region [(oN 6 (.mov (.c (.bool true))))] [1,2,15,16,17]) (.ret)
def zN:ACode:=Z8 0x1909605750300000150303c2313308b00041006211314000a412c86015040015030a251336110062113 [zL,zM]
attribute[irreducible]zL zM
def zr:List ARet:=[.tmp 6]
theorem zap:zK Z9 zD (qRo [])=some (zN.strip,zr,32):=by kernel_rfl
def ze4:ACode:=Z8 0x18c210b21002c06021008c2024c1024c021147c10001360107c2213000955103216c060150800603c2513000c3105211020c14031315307014301c2c360c2113 []
def zfb:ACode:=Z8 0x6d110fc21002d066d22100ac84106212813c0b00903d241000d3108211020d14031335327014301d2d360d2113 []
def ze9:ACode:=.seq (.region [(oM 35 6),(oM 2 35)] [6,25,26,27,35]) (.ret)
def zfm:ACode:=Z8 0x1909625010000015030dc231330b005361062140225fa060bc2313 [zfb,ze9]
def zgF:ACode:=Z8 0x1909605000000150309231330000001132116c22113 [ze4,zfm]
attribute[irreducible]ze4 zfb ze9 zfm
def zgD:List ARet:=[.tmp 2]
theorem zmf:zK Z9 zel (qRo [])=some (zgF.strip,zgD,36):=by kernel_rfl
def zhM:ACode:=Z8 0x892c004104210ec221300000000002c1b1002110dc1cc0150300122001812c4c04001108c1cc01164c0300300a1143c10001560103c221300000016810121b16011c1601503001164c030040081330062024c1024c0211451000136040021334116c42113 []
def zeB:List ARet:=[.tmp 4]
theorem zoR:zK Z9 zfg (qRo [])=some (zhM.strip,zeB,27):=by kernel_rfl
def zfH:ACode:=Z8 0x07c43101c21004c06dc22108a0a00510042113fc40000000a5901ac860211021214028002400211021214028002304c222302c2105220021315307014303c4c362c2113 []
def zfz:ACode:=.seq (.region [ Yaa] [0,1,12,13]) (.ret)
def zg9:ACode:=Z8 0x190960505430000015030b231330880031004211314000641a860150400150306251334110042113 [zfH,zfz]
attribute[irreducible]zfH zfz
def zcy:List ARet:=[.tmp 4]
theorem znF:zK Z9 zbK (qRo [])=some (zg9.strip,zcy,26):=by kernel_rfl
def zI:List AV:=[.int .i64 0]
def cI1(n:Int):List AV:=[.int .i64 n]
theorem zDv{l}{H}:zgb 1 (za l) H=some (l.map cI1):=ztx (λ_ _=>rfl)
theorem zyw{H}{b}:xopR .capn [.nilsl] H b=⟨True,True,.int .i64 0,H,b⟩:=rfl
theorem zHb{d b}{z}{k}{n}{H}{c}:xopR (.apz d b z) [.nilsl,.int k n] H c=⟨0<=n/\n*b<=140737488355328/\0<d/\0<b,True,.own c 0 0 0 n.toNat,H.set c 0 (.row d (Wh n.toNat z) 0),c+1⟩:=rfl
theorem zC1{s}{k}{b}{H}{c}:ziw s .nilsl none (some (.int k b)) H c=⟨(0:Int)=0/\b=0,True,.nilsl,H,c⟩:=rfl
theorem zIu{n}{c}(h:zQ c=true):zE (Wh n c):=λd hd=>by rw[WW hd];exact h
theorem renZI{ρ}{n g}:Xm ρ (.row 1 (Wh n zI) g)=.row 1 (Wh n zI) g:=by simp only[Xm];rw[zjw (zIu rfl)]
theorem zJO(n:Nat)(g:n<=100000):zad Z9 zfg [.nilsl,.int .i64 n] [] 0 (λv H c=>v=.own 0 0 0 0 0/\H=[(0,.row 1 (Wh n zI) 0)]/\c=1):=by
 refine zab (fn_x zoR rfl ?_);refine dcU zhM.eq_1 ?_;have e:=hBig;by_cases d:0<n
 .have b:((n:Int)-(0-0)).toNat=n:=by omega
  refine Gw7 @dF @dT @zyw @zHb @zC1 b @zeB.eq_1 ?_;intros;exact⟨.own 0 0 0 0 0,[(0,.row 1 (Wh n zI) 0)],1,(Xb [(0,1,0)] [] rfl (Gin2_1 @zI.eq_1) (Gin2_1 @zI.eq_1)),rfl,rfl,rfl⟩
 .obtain rfl:n=0:=by omega
  refine Gw3 @dF @zyw @zeB.eq_1 ?_;intros;exact⟨.own 0 0 0 0 0,[(0,.row 1 (Wh 0 zI) 0)],1,(Xb [] [] rfl Qn Qn),rfl,rfl,rfl⟩
def LLI(A:List (List Int)):List (List AV):=A.map λa=>[za a]
theorem zcz{A}:zE (LLI A):=zy λ_=>rfl
def lenI(A:List (List Int)):Nat:=(A.map List.length).sum
theorem zyK{α}{A:List α}{i:Nat}(h:i<A.length):A.take (i+1)=A.take i++[A[i]]:=by rw[List.take_add_one,List.getElem?_eq_getElem h];rfl
theorem zBq(A B):lenI (A++B)=lenI A+lenI B:=by unfold lenI;rw[Wm,WJ]
theorem zx1{A:List (List Int)}{i:Nat}(h:i<A.length):lenI (A.take (i+1))=lenI (A.take i)+A[i].length:=by rw[zyK h,zBq];rfl
theorem zvi{A}(i):lenI (A.take i)<=lenI A:=by
 conv=>rhs;rw[<-List.take_append_drop i A,zBq]
 omega
theorem zyN{A:List (List Int)}{i:Nat}(h:i<A.length):(A.take (i+1)).flatten=(A.take i).flatten++A[i]:=by rw[zyK h,List.flatten_append];simp
theorem zuz(A):A.flatten.length=lenI A:=by rw[List.length_flatten];rfl
theorem zFe(A)(F:A.length<=1000)(C:lenI A<=100000):zad Z9 zel [.own 0 0 0 0 A.length] [(0,.row 1 (LLI A) 0)] 1 (λv H D=>v=.own 1 0 0 0 A.flatten.length/\H=[(0,.row 1 (LLI A) 0),(1,.row 1 (A.flatten.map cI1) 0)]/\D=2):=by
 refine zab (fn_x zmf rfl ?_);refine dcU zgF.eq_1 ?_;have I:=hBig;have c:(LLI A).length=A.length:=by simp[LLI]
 refine Gw0 ?_;intros;refine zd (λi:Nat=>([(0,.own 0 0 0 0 A.length),(3,.int .i64 (lenI (A.take i):Nat)),(9,.own 0 0 0 0 A.length),(10,.int .i64 A.length),(11,.int .i64 i)],[(0,.row 1 (LLI A) 0)])) 1 (λi=>i<=A.length) (λi=>A.length-i) 0 (Wc _) (Xl [(0,0,0)] [] rfl rfl rfl Qn Qn) ?_;intro i B wf;refine dcU ze4.eq_1 ?_;have u:=zvi (A:=A) i;by_cases b:i<A.length
 .have t:(LLI A).getD i []=[za A[i]]:=zj b;have q:=zx1 b;have g:=zvi (A:=A) (i+1);have x:decide (((lenI (A.take i):Nat):Int)+((A[i].length:Nat):Int)<0)=false:=decide_eq_false (by omega);refine Gw5 @dT t c x @ua ?_;intros;refine⟨i+1,by omega,by omega,?_⟩;have p:((lenI (A.take (i+1)):Nat):Int)=((lenI (A.take i):Nat):Int)+((A[i].length:Nat):Int):=by omega
  rw[p];exact(Xl [(0,0,0)] [] rfl rfl rfl Qn Qn)
 ·(refine Qa ?_;intros);refine dcU zfm.eq_1 ?_;obtain rfl:i=A.length:=by omega
  rw[Wg];refine Gw1 c ?_;intros;refine zH [] 0 _ (zJO (lenI A) C) rfl rfl Gin1_0 Gin1_0 ?_;rintro _ _ _ ⟨rfl,rfl,rfl⟩;refine Gw2 c @renZI ?_;intros;refine zd (λj:Nat×Nat=>([(6,.own 1 0 0 0 (lenI (A.take j.1))),(25,.own 0 0 0 0 A.length),(26,.int .i64 A.length),(27,.int .i64 j.1)],[(0,.row 1 (LLI A) 0),(1,.row 1 ((A.take j.1).flatten.map cI1++Wh j.2 zI) 0)])) 2 (λj=>j.1<=A.length/\(j.1=0->j.2=lenI A)/\(j.1≠0->j.2=0)) (λj=>A.length-j.1) (0,lenI A) ⟨Wc _,λ_=>rfl,λh=>absurd rfl h⟩ ?_ ?_
  .exact(Xl [(0,0,0),(1,1,0)] [] rfl rfl rfl Qn Qn)
  .rintro⟨i,m⟩ ⟨B,k,o⟩ wf;refine dcU zfb.eq_1 ?_;have u:=zvi (A:=A) i;simp only at B k o;by_cases b:i<A.length
   .have t:(LLI A).getD i []=[za A[i]]:=zj b;have q:=zx1 b;have g:=zvi (A:=A) (i+1);have e:((A.take i).flatten.map cI1).length=lenI (A.take i):=by rw[Wi,zuz]
    have y:((A.take i).flatten.map cI1++Wh m zI).take (lenI (A.take i))=(A.take i).flatten.map cI1:=List.take_left' e;have w:((A.take i).flatten.map cI1++Wh m zI).length=lenI (A.take i)+m:=by rw[Wn,e,List.length_replicate]
    have s:∀H,zgb 1 (encL 1 (λn=>[Xh .i64 n]) A[i]) H=some (A[i].map cI1):=λH=>zDv
    have p:((lenI (A.take (i+1)):Nat):Int)=((lenI (A.take i):Nat):Int)+((A[i].length:Nat):Int):=by omega
    have d:(A.take (i+1)).flatten.map cI1++Wh 0 zI=(A.take i).flatten.map cI1++A[i].map cI1:=by rw[zyN b,Wm];simp
    refine Gw7 @dT t c s y w @ua ?_;intros;refine⟨(i+1,0),⟨by simp only;omega,λh=>absurd h (Nat.succ_ne_zero i),λ_=>rfl⟩,by simp only;omega,?_⟩;simp only;rw[d,q];exact(Xl [(0,0,0),(1,1,1)] [] rfl rfl rfl Qn Qn)
   ·(refine Qa ?_;intros);unfold ze9;obtain rfl:i=A.length:=by omega
    obtain rfl:m=0:=by
     by_cases h:A.length=0
     .rw[k h,List.eq_nil_of_length_eq_zero h];rfl
     .exact o h
    have d:(A.take A.length).flatten.map cI1++Wh 0 zI=A.flatten.map cI1:=by rw[Wg];simp
    rw[d,Wg,<-zuz];refine Gw1 @zgD.eq_1 ?_;intros;exact⟨.own 1 0 0 0 A.flatten.length,[(0,.row 1 (LLI A) 0),(1,.row 1 (A.flatten.map cI1) 0)],2,(Xl [(0,0,0),(1,1,0)] [] rfl rfl rfl Qn Qn),rfl,rfl,rfl⟩
theorem renLLI{ρ}{A}{g}:Xm ρ (.row 1 (LLI A) g)=.row 1 (LLI A) g:=by simp only[Xm];rw[zjw zcz]
theorem renC1{ρ:Nat->Nat}{l:List Int}{g:Nat}:Xm ρ (.row 1 (l.map cI1) g)=.row 1 (l.map cI1) g:=by simp only[Xm];rw[zjw (zy λ_=>rfl)]
def unL(a b:List Int):List Int:=((Wd 12).filter λ(v:Nat)=>decide ((v:Int)∈a\/(v:Int)∈b)).map λ(v:Nat)=>(v:Int)
theorem zLN{a b}:srtL (addL (0,[]) (a++b)) []=unL a b:=by
 unfold srtL unL;congr 1;refine WA λv _=>?_
 unfold srtP;rw[zD2,WE,WF];refine decide_eq_decide.2 ?_;rw[zlv,Ww];simp[MS.keys]
theorem Qaj{p:Prop}(h:p:=by(try simp only[evWB,Nat.reduceBEq,Nat.reduceAdd,Nat.reduceSub,Nat.reduceLeDiff,Nat.reduceLT,implies_true])<;>(repeat' with_reducible apply And.intro)<;>first|(first|exact zl|exact RowV.of_flat zcz;done)|exact fin6):p:=h
theorem Qak{b p:Prop}(a0:b)(h:b->p:=by intro a0;(try simp only[evWB,Nat.reduceBEq,Nat.reduceAdd,Nat.reduceSub,Nat.reduceLeDiff,Nat.reduceLT,implies_true,a0])<;>(repeat' with_reducible apply And.intro)<;>first|(first|exact zl|exact RowV.of_flat zcz;done)|exact fin6):p:=h a0
theorem Qal{d e g p:Prop}(a0:d)(b:e)(c:g)(h:d->e->g->p:=by intro a0 b c;(try simp only[evWB,Nat.reduceBEq,Nat.reduceAdd,Nat.reduceSub,Nat.reduceLeDiff,Nat.reduceLT,implies_true,a0,b,c])<;>(repeat' with_reducible apply And.intro)<;>first|(first|exact zl|exact RowV.of_flat zcz;done)|exact fin6):p:=h a0 b c
theorem Qam{d e g j p:Prop}(a0:d)(b:e)(c:g)(a3:j)(h:d->e->g->j->p:=by intro a0 b c a3;(try simp only[evWB,Nat.reduceBEq,Nat.reduceAdd,Nat.reduceSub,Nat.reduceLeDiff,Nat.reduceLT,implies_true,a0,b,c,a3])<;>(repeat' with_reducible apply And.intro)<;>first|(first|exact zl|exact RowV.of_flat zcz;done)|exact fin6):p:=h a0 b c a3
theorem zm2(a b)(A:(a++b).length<=10000):zq Z9 zgf [za a,za b] (·=za (unL a b)):=by
 refine fn_x ztG rfl ?_;refine dcU zmi.eq_1 ?_;have D:=hBig;have g:=zFe [a,b] (by simp) (by unfold lenI;simp only[Wj,Wq,List.sum_cons,List.sum_nil];rw[Wn]at A;omega);rw[show[a,b].flatten=a++b by simp]at g;have B:LLI [a,b]=[(za a).cells,(za b).cells]:=rfl;rw[<-zLN];generalize a++b=c at A g⊢;simp only[Ws,Wv]at g;refine Gw0 ?_;intros;refine⟨⟨⟨rfl,rfl⟩,rfl,rfl,by decide⟩,?_⟩;rw[<-B];refine zH [(0,2,0)] 1 _ g rfl rfl Qaj Qaj ?_;rintro _ _ _ ⟨rfl,rfl,rfl⟩
 (repeat first|simp(disch:=try exact dis1) only[evD,Xc,Xd,Xe,renLLI,renC1,Xk,show Tab.to [(0,2,0)] 3 1=4 from rfl]|with_reducible intro _|((with_reducible apply Wa);omega))
 refine zd (λi:Nat=>([(5,.mp 0 0),(12,za c),(13,.int .i64 c.length),(14,.int .i64 i)],[(0,.row 3 ((setM (addL (0,[]) (c.take i)).1 (addL (0,[]) (c.take i)).2).map cm) 0)])) 1
  (λi=>i<=c.length) (λi=>c.length-i) 0 (Wc _) (by rw[List.take_zero,show addL (0,[]) []=(0,[])from rfl];exact(Xb [(0,1,0)] [4] rfl (Qak @zk) (Qak @zk))) ?_
 rintro i F wf;clear wf;refine dcU zjb.eq_1 ?_;by_cases h:i<c.length
 .have o:(c.map λn=>[Xh .i64 n]).getD i []=[.int .i64 c[i]]:=zj (f:=λn=>[Xh .i64 n]) h;have e:=zjZ (s:=(0,[])) h;have k:=zev (l:=c.take i) (s:=(0,[]));rw[Wt]at k;have y:=znm (l:=c.take i) zzE (by simp only[Wt];omega) (by simp only[Wt,Wv];omega);generalize addL (0,[]) (c.take i)=d at y k e⊢;obtain⟨m,q⟩:=d;have p:=y.top;simp only[Wv]at k p;by_cases t:c[i]∈q.map (·.1)
  .obtain⟨j,C,w,v⟩:=zhy t;have u:add1 (m,q) c[i]=(m,q):=if_pos t;rw[u]at e;have x:=zsV C w;refine Gw6 @dT o @ua @zk v x ?_;intros;exact⟨i+1,h,by omega,(Xb [(0,0,0)] [] rfl (Qal @zk @ua e) (Qal @zk @ua e))⟩
  .have v:=zfy t;have u:add1 (m,q) c[i]=(m+1,q++[(c[i],m)]):=if_neg t;rw[u]at e;refine Gw5 @dT o @ua @zk v ?_;intros;exact⟨i+1,h,by omega,(Xb [(0,0,0)] [] rfl (Qam @zk @ua e @zgg) (Qam @zk @ua e @zgg))⟩
 .obtain rfl:i=c.length:=by omega
  rw[Wg];generalize addL (0,[]) c=d;refine Qa ?_;intros;refine dcU zi8.eq_1 ?_;refine Gw0 ?_;intros;refine zH [(0,0,0)] 1 _ (zr1 d []) rfl rfl (Qak @zk) (Qak @zk) ?_;rintro _ _ _ ⟨rfl,rfl,rfl⟩;refine Gw3 @renM @renE @zmH.eq_1 ?_;intros;exact⟨_,zZ rfl,rfl⟩
def cmL(a b:List Int):List Int:=a.filter (hasI b)
theorem QB{p:Prop}(h:p:=by(try simp only[evWB,Nat.reduceBEq,Nat.reduceAdd,Nat.reduceSub,Nat.reduceLeDiff,Nat.reduceLT,implies_true,za,List.length_append,List.length_singleton,List.map_append,List.map_cons,List.map_nil])<;>(repeat' with_reducible apply And.intro)<;>first|(first|exact zl|exact RowV.of_flat zcz;done)|exact fin6):p:=h
theorem Qan{c d p:Prop}(a0:c)(b:d)(h:c->d->p:=by intro a0 b;(try simp only[evWB,Nat.reduceBEq,Nat.reduceAdd,Nat.reduceSub,Nat.reduceLeDiff,Nat.reduceLT,implies_true,a0,b])<;>(repeat' with_reducible apply And.intro)<;>first|(first|exact zl|exact RowV.of_flat zcz;done)|exact fin6):p:=h a0 b
theorem zsL(a b)(t:a.length<=10000):zq Z9 zh5 [za a,za b] (·=za (cmL a b)):=by
 refine fn_x zsA rfl ?_;unfold zle cmL;conv in Z8 _ _=>reduce
 have q:=hBig;have h:=λx=>zaI b x
 have k:=WL (hasI b) a;generalize o:a.filter (hasI b)=R at k;refine Gw1 @ua ?_;intros;refine zd (λs:Nat×List Int×Nat=>([(1,za b),(5,.own 0 0 s.2.2 0 s.2.1.length),(8,za a),(9,.int .i64 a.length),(10,.int .i64 s.1)],[(0,.row 1 (s.2.1.map λn=>[.int .i64 n]) s.2.2)])) 1 (λs=>s.1<=a.length/\s.2.1.length<=s.1/\s.2.1++(a.drop s.1).filter (hasI b)=R) (λs=>a.length-s.1) (0,[],0) ⟨Wc _,Wp _,o⟩ (Xb [(0,1,0)] [] rfl (Qan @zk @ua) (Qan @zk @ua)) ?_;rintro⟨i,out,γ⟩ ⟨p,m,c⟩ wf;simp only at p m c;clear wf o;refine dcU zik.eq_1 ?_;by_cases d:i<a.length
 case neg=>
  rw[WM (by omega),List.filter_nil,List.append_nil]at c;subst c;refine Qa ?_;intros;refine dcU zin.eq_1 ?_;refine Gw0 ?_;intros;refine zH [(0,0,0)] 1 _ (zcW γ out (by omega)) rfl rfl Qaj Qaj ?_;rintro _ _ _ ⟨rfl,rfl,rfl⟩
  (repeat first|simp(disch:=try exact dis1) only[evD,Xc,Xd,Xe,zwq,Xk,show Tab.to [(0,0,0)] 1 0=0 from rfl,zln]|with_reducible intro _|((with_reducible apply Wa);omega))
  exact⟨_,zaP trivial rfl (by omega),rfl⟩
 rw[WN d,WO]at c;have e:(a.map λn=>[Xh .i64 n]).getD i []=[.int .i64 a[i]]:=zj (f:=λn=>[Xh .i64 n]) d;have g:=h a[i];generalize a[i]=x at c e g;have em:(out.map λn=>[Xh .i64 n])++[[Xh .i64 x]]=(out++[x]).map λn=>[Xh .i64 n]:=by simp
 cases j:hasI b x with
 |true=>rw[j,if_pos rfl]at c;rw[j]at g;refine Gw3 @dT e @ua ?_;intros;refine zc (zb g rfl) ?_;refine Gw1 em ?_;intros;exact⟨(i+1,out++[x],γ+1),⟨d,by simp;omega,by rw[<-c];simp⟩,by simp only;omega,(Xb [(0,0,0)] [] rfl QB QB)⟩
 |false=>rw[j,if_neg (by decide)]at c;rw[j]at g;refine Gw3 @dT e @ua ?_;intros;refine zc (zb g rfl) ?_;refine Gw0 ?_;intros;exact⟨(i+1,out,γ),⟨d,by simp only;omega,c⟩,by simp only;omega,(Xb [(0,0,0)] [] rfl (Qan @zk @ua) (Qan @zk @ua))⟩
theorem zt7{α:Type}{a b:List α}{i:Nat}(e:i<a.length)(g:i<b.length):a.take (i+1)=b.take (i+1)↔a.take i=b.take i/\a[i]=b[i]:=by
 rw[Wo e,Wo g];constructor
 .intro h;have c:=List.append_inj' h rfl;exact⟨c.1,by simpa using c.2⟩
 .rintro⟨d,c⟩;rw[d,c]
theorem zx5{α:Type}{a b:List α}{i:Nat}(c:i<a.length)(d:i<b.length)(h:a[i]≠b[i]):a≠b:=λe=>by subst e;exact h rfl
theorem Qao{b p:Prop}(a0:b)(h:b->p:=by intro a0;(try simp only[evWB,Nat.reduceBEq,Nat.reduceAdd,Nat.reduceSub,Nat.reduceLeDiff,Nat.reduceLT,implies_true,a0])<;>(repeat' with_reducible apply And.intro)<;>first|(exact zl;done)|exact fin6):p:=h a0
theorem zkz(a b)(s:a.length<=1000000)(t:b.length<=1000000):zq Z9 zbK [za a,za b] (·=.bool (decide (a=b))):=by
 refine fn_x znF rfl ?_;refine dcU zg9.eq_1 ?_;have q:=hBig;by_cases p:a.length=b.length;case neg=>rw[decide_eq_false (λe=>p (by rw[e]))];refine Gw3 @dT @ua @zcy.eq_1 ?_;intros;exact bzO
 refine Gw2 @dF @ua ?_;intros;refine zd (λi:Nat=>([(0,za a),(1,za b),(12,.int .i64 a.length),(13,.int .i64 i)],[])) 0 (λi=>i<=a.length/\a.take i=b.take i) (λi=>a.length-i) 0 ⟨Wc _,rfl⟩ (Xb [] [] rfl (Qao @ua) (Qao @ua)) ?_;rintro i ⟨u,h⟩ wf;clear wf;refine dcU zfH.eq_1 ?_;by_cases c:i<a.length
 case neg=>
  obtain rfl:i=a.length:=by omega
  rw[Wg]at h;rw[p,Wg]at h;rw[decide_eq_true h];refine Qa ?_;intros;unfold zfz;refine Gw1 @zcy.eq_1 ?_;intros;exact bzO
 have d:i<b.length:=by omega
 have j:(a.map λn=>[Xh .i64 n]).getD i []=[.int .i64 a[i]]:=zj (f:=λn=>[Xh .i64 n]) c;have k:(b.map λn=>[Xh .i64 n]).getD i []=[.int .i64 b[i]]:=zj (f:=λn=>[Xh .i64 n]) d;have o:=zt7 c d;have m:=zx5 c d;generalize a[i]=x at j o m;generalize b[i]=y at k o m;by_cases g:x=y
 ·(refine Gw6 @dT @dF j k @ua @uc ?_;intros);exact⟨i+1,⟨c,o.2 ⟨h,g⟩⟩,by omega,(Xb [] [] rfl (Qao @ua) (Qao @ua))⟩
 .rw[decide_eq_false (m g)];refine Gw7 @dT @dF j k @ua @uc @zcy.eq_1 ?_;intros;exact bzO
def eqS(a b:Sgn):Bool:=decide (a.args=b.args)&&(decide (a.res=b.res)&&decide (a.sav=b.sav))
structure SgnLe(n:Nat)(s:Sgn):Prop where
 args:s.args.length<=n
 res:s.res.length<=n
 sav:s.sav.length<=n
theorem zHB{a b}:eqS a b=true↔a=b:=by obtain⟨c,d,a3⟩:=a;obtain⟨e,g,h⟩:=b;unfold eqS;simp
theorem ztg(a b)(c:SgnLe 1000000 a)(d:SgnLe 1000000 b):zq Z9 zeu [.agg a.cells,.agg b.cells] (·=.bool (eqS a b)):=by
 refine fn_x ztP rfl ?_;unfold zmI eqS;conv in Z8 _ _=>reduce
 have m:=hBig;have e:=zkz a.args b.args c.args d.args;have g:=zkz a.res b.res c.res d.res;have h:=zkz a.sav b.sav c.sav d.sav;simp only[Xa];refine Gw3 @ub @zu @ua ?_;intros;refine zc (zb e rfl) ?_
 cases j:decide (a.args=b.args)with
 |false=>refine Gw4 @ub @zu @ua @zfx.eq_1 ?_;intros;exact bzO
 |true=>
  refine Gw3 @ub @zu @ua ?_;intros;refine zc (zb g rfl) ?_
  cases k:decide (a.res=b.res)with
  |false=>refine Gw4 @ub @zu @ua @zfx.eq_1 ?_;intros;exact bzO
  |true=>refine Gw3 @ub @zu @ua ?_;intros;refine zc (zb h rfl) ?_;refine Gw1 @zfx.eq_1 ?_;intros;exact bzO
def sgL(s:Sgn):List (List Int):=[s.args,s.res,s.sav]
def eqSL(l m:List Sgn):Bool:=decide (l.map sgL=m.map sgL)
theorem zrt:∀{l m:List Sgn},l.map sgL=m.map sgL->l=m
 |[],[],_=>rfl
 |[],_::_,h=>by cases h
 |_::_,[],h=>by cases h
 |
  ⟨b,c,a3⟩::l,⟨d,e,g⟩::m,h=>by
  simp only[Wj,sgL,List.cons.injEq,and_true]at h;obtain⟨⟨rfl,rfl,rfl⟩,h⟩:=h;rw[zrt h]
theorem zr2{l m}(h:l=m):eqSL l m=true:=decide_eq_true (by rw[h])
theorem zxW{l m}(h:l≠m):eqSL l m=false:=decide_eq_false (λe=>h (zrt e))
theorem zrR(l m)(C:l.length<=1000000)(D:m.length<=1000000)(v:∀s∈l,SgnLe 1000000 s)(w:∀s∈m,SgnLe 1000000 s):zq Z9 zD [encL 3 Xa l,encL 3 Xa m,.fn (.func zeu) []] (·=.bool (eqSL l m)):=by
 refine fn_x zap rfl ?_;refine dcU zN.eq_1 ?_;have A:=hBig;by_cases j:l.length=m.length;case neg=>rw[zxW (λe=>j (by rw[e]))];refine Gw2 @dT @zr.eq_1 ?_;intros;exact bzO
 refine Qa ?_;intros;refine zd (λi:Nat=>([(1,encL 3 Xa m),(2,.fn (.func zeu) []),(15,encL 3 Xa l),(16,.int .i64 l.length),(17,.int .i64 i)],[])) 0 (λi=>i<=l.length/\l.take i=m.take i) (λi=>l.length-i) 0 ⟨Wc _,rfl⟩ (Xb [] [] rfl (by((try simp only[evWB,Xc,Xd,Xf,Xe,Xg,implies_true])<;>(repeat' with_reducible apply Wa)<;>first|(exact .fn _ _ _ _ rfl (λi a b h _=>by cases h);done)|exact fin6)) (by((try simp only[evWB,Xc,Xd,Xf,Xe,Xg,implies_true])<;>(repeat' with_reducible apply Wa)<;>first|(exact .fn _ _ _ _ rfl (λi a b h _=>by cases h);done)|exact fin6))) ?_;rintro i ⟨B,k⟩ wf;clear wf;refine dcU zL.eq_1 ?_;by_cases c:i<l.length
 case neg=>
  obtain rfl:i=l.length:=by omega
  rw[Wg]at k;rw[j,Wg]at k;rw[zr2 k];refine Qa ?_;intros;unfold zM;refine Gw1 @zr.eq_1 ?_;intros;exact bzO
 have d:i<m.length:=by omega
 have q:(l.map Xa).getD i []=l[i].cells:=zj (f:=Xa) c;have t:(m.map Xa).getD i []=m[i].cells:=zj (f:=Xa) d;have p:=zt7 c d;have n:=zx5 c d;have o:=ztg l[i] m[i] (v _ (Wf c)) (w _ (Wf d));generalize l[i]=x at q p n o;generalize m[i]=y at t p n o;have u:∀s:Sgn,s.cells.length=3:=λ_=>rfl
 have t3:∀s:Sgn,[s.cells.getD 0 .undef,s.cells.getD 1 .undef,s.cells.getD 2 .undef]=s.cells:=λ_=>rfl
 refine Gw7 @dT q t @uc @zu u t3 ?_;intros;refine⟨by kernel_rfl,zc (zb o rfl) ?_⟩
 cases g:eqS x y with
 |true=>refine Gw0 ?_;intros;exact⟨i+1,⟨c,p.2 ⟨k,zHB.1 g⟩⟩,by omega,(Xb [] [] rfl (by((try simp only[evWB,Xc,Xd,Xf,Xe,Xg,implies_true])<;>(repeat' with_reducible apply Wa)<;>first|(exact .fn _ _ _ _ rfl (λi a b h _=>by cases h);done)|exact fin6)) (by((try simp only[evWB,Xc,Xd,Xf,Xe,Xg,implies_true])<;>(repeat' with_reducible apply Wa)<;>first|(exact .fn _ _ _ _ rfl (λi a b h _=>by cases h);done)|exact fin6)))⟩
 |false=>rw[zxW (n λe=>by rw[zHB.2 e]at g;cases g)];refine Gw1 @zr.eq_1 ?_;intros;exact bzO
def zsU:ACode:=Z8 0x0cc210721001060a0cc23100002bc6106211d0cf33c01014443135c0112144439c0700760065005400430032002100100008001815c090ec26115307014008c31bc360150300a08c24133 []
attribute[irreducible]zsU
def zoE:List AOper:=[(oM 38 6),(oM 39 10),(oI 40 3 38 39),(oA 41 3 40),(oM 42 0),(oM 43 10),(oI 44 2 42 43),(oA 45 2 44),(oM 46 6),(oM 47 4),(oN 48 (.callq zhD [(.t 45),(.t 46),(.t 47)])),(oN 49 (.callq zpg [(.t 41),(.t 48)])),(oN 11 (.alloc [.nilsl,.nilsl,.nilsl])),(oS 3 11 49)]
def ztJ:List (List Nat):=[[],[],[0,1],[2],[],[],[4,5],[6],[],[],[7,8,9],[3,10,10],[],[12,11,11,0,1,2,3,4,5,6,7,8,9,10,11,12]]
def zpU:List Nat:=[12,13]
def zxi:List (List Nat):=[[],[],[0,1],[0,1,2],[],[],[4,5],[4,5,6],[],[],[4,5,6,7,8,9],[0,1,2,3,4,5,6,7,8,9,10],[],[0,1,2,3,4,5,6,7,8,9,10,11,12]]
def zvL:List (List Nat):=[[],[12],[12,13]]
def zmg:Plan:=[(0,[],[]),(1,[],[]),(2,[],[]),(2,[12],[12]),(3,[],[]),(3,[12],[12]),(4,[],[]),(5,[],[]),(6,[],[]),(6,[12],[12]),(7,[],[]),(7,[12],[12]),(8,[],[]),(9,[],[]),(10,[],[]),(10,[12],[12]),(11,[],[]),(11,[12],[12]),(12,[],[12]),(13,[12],[12,13])]
def znp:ACode:=.seq (.seq (.region [(oM 32 10),(oM 33 0),(oE 34 33),(oB 35 .lss 32 34)] [32,33,34]) (.cond (.t 35) (.skip) (.exit 4))) (.seq (.block 5 (.seq (.draw (zfZ zoE ztJ 14 (Wh 14 false)) [35,38,39,40,41,42,43,44,45,46,47,48,49]) (.seq (.draw (.step (oM 50 8) (.step (oM 51 50) (.step (oG 52 51 false (.load true 3 (.t 11))) (.step (oG 53 51 false (.mov (.t 6))) (.step (oG 54 51 false (.mov (.t 10))) (.step (oG 55 51 false (.idx 3 (.t 53) (.t 54))) (.step (oG 56 51 false (.load true 3 (.t 55))) (.step (oG 57 51 false (.callq zgB [(.t 52),(.t 56)])) (.step (oG 58 51 false (.un .not (.t 57))) (.step (oN 59 (.pick (.t 51) (.c (.bool true)) (.t 58))) (.step (oM 8 59) (.done)))))))))))) [50,51,52,53,54,55,56,57,58,59]) (.region [(oM 60 9),(oA 61 3 11),(oN 62 (.buildSl 3 1 [.nilsl,.nilsl,.nilsl] [(0,(.t 61))])),(oN 63 (.append 3 72 (.t 60) (.t 62))),(oM 9 63)] [11,60,61,62,63])))) (.region [(oM 36 10),(oC 37 .add 36 1),(oM 10 37)] [36,37]))
def zsW:ACode:=.region [(oM 64 9),(oM 6 64)] [9,10,64]
def zst:ACode:=Z8 0x19096450000001133036c01133d110082113352701481b03d21133 [znp,zsW]
def zr7:ACode:=Z8 0x8ce113050000010229005f2313 []
def zsO:ACode:=.seq (.seq (.region [(oN 8 (.mov (.c (.bool true))))] [7]) (.block 2 (.loop zst))) (zr7)
def zxS:ACode:=Z8 0x190960500000011330c102436c621130800c0305ac0036c22800313145c10001860105c22133002c310521224ea0700302c241300c2104211eca0300c23130220000036c22213 [zsU,zsO]
attribute[irreducible]znp zsW zsO
def ztB:List ARet:=[.tmp 2,.tmp 3]
theorem zFM:zK Z9 zv7 (qRo [])=some (zxS.strip,ztB,66):=by kernel_rfl
def zld:ACode:=Z8 0x60914510521001060804c2310805c03006104290021314bc1000186010bc2213000023c610621106fa0122012240800306c261315307014000c313c360150300800c24133 []
def zli:ACode:=Z8 0x80dc4410721001060a02d231084d500480004211314000000021d912860a0017d20cfa01101103012240a00300404d29133532701400ec311d360150300a0ec24133 []
def zk9:ACode:=Z8 0x60cd4410821001060b01e231080e60046c00042113140000020e710c012207fa0400122012240b00303e27135534701400dd310e360150300b0dd24133 []
def zly:ACode:=.seq (.region [(oK 4 0)] [0,1,8]) (.ret)
def zlB:ACode:=.seq (.seq (.region [(oK 8 0)] [7]) (.block 4 (.loop zk9))) (zly)
def zlM:ACode:=.seq (.seq (.region [(oK 7 0)] [5]) (.block 2 (.loop zli))) (zlB)
def zoX:ACode:=Z8 0x1909605642000001133089003600042113140925d0015601503092313341000042113 [zld,zlM]
attribute[irreducible]zld zlM
def zdS:List ARet:=[.tmp 4]
theorem zxb:zK Z9 zme (qRo [])=some (zoX.strip,zdS,54):=by kernel_rfl
def zoA:ACode:=Z8 0xdd0931062100106090923100000008e721181812301de813c0101001115c09001108123071140000000068da1016e701221ca3903113612323f61001221ca090011051230a1300000008d721181811301dd813c0101001115c09001108113071140000000068ca1206d701221ca3903113611302f61001221ca090011051130a13300000008c721181810301dc813c0101001115c09001108103071140000000028a1206c701221ca390311361032d61001221ca09001105103b2a13315307014711c00136090722133 []
def zox:ACode:=Z8 0x88e0102517381832fe2213 []
def zsr:ACode:=Z8 0x19096050000001133044439011300244439021c011c22313 [zoA,zox]
attribute[irreducible]zoA zox
def zsa:List ARet:=[.cell 4 true 3]
theorem zzA:zK Z9 zpg (qRo [2,3])=some (zsr.strip,zsa,60):=by kernel_rfl
def zkf:ACode:=Z8 0x092104210010607092310000000289103212c413c0101031115c0110110301224070030060b2911530701400531836015030070524133 []
def zka:ACode:=.seq (.region [(oM 19 3),(oM 2 19)] [0,3,4,19]) (.ret)
def zoH:ACode:=Z8 0x19096050000001133016c01132116c22113 [zkf,zka]
attribute[irreducible]zkf zka
def zoj:List ARet:=[.tmp 2]
theorem zvd:zK Z9 zbx (qRo [])=some (zoH.strip,zoj,20):=by kernel_rfl
def orI(a b:List Int)(v:Nat):Bool:=hasI a v||hasI b v
def andI(a b:List Int)(v:Nat):Bool:=hasI a v&&hasI b v
def zm9(a b:Sgn):Sgn:=⟨svO (orI a.args b.args) 12,svO (orI a.res b.res) 12,svO (andI a.sav b.sav) 12⟩
set_option maxHeartbeats 4000000 in
theorem zzl(a b):zq Z9 zpg [.agg a.cells,.agg b.cells] (·=.agg (zm9 a b).cells):=by
 refine fn_x zzA rfl ?_;unfold zsr zm9;conv in Z8 _ _=>reduce
 have hB:=hBig;obtain⟨u,w,a3⟩:=a;obtain⟨y,A,B⟩:=b;simp only[Xa];have R:=λx=>R24_Has_ok u x
 have S:=λx=>R24_Has_ok w x
 have T:=λx=>R24_Has_ok a3 x
 have U:=λx=>R24_Has_ok y x
 have V:=λx=>R24_Has_ok A x
 have W:=λx=>R24_Has_ok B x
 have q1:∀v:Nat,orI u y v=(hasI u v||hasI y v):=λ_=>rfl
 have q2:∀v:Nat,orI w A v=(hasI w v||hasI A v):=λ_=>rfl
 have q3:∀v:Nat,andI a3 B v=(hasI a3 v&&hasI B v):=λ_=>rfl
 generalize orI u y=d at q1⊢;generalize orI w A=e at q2⊢;generalize andI a3 B=g at q3⊢;have c0:∀l:List AV,(Xi l).cells=l:=λ_=>rfl
 have s0:∀l:List AV,(Xi l).solid=true:=λ_=>rfl
 refine Gw3 @ub @zu @ua ?_;intros;refine zd (λs:Nat×Nat×Nat×Nat=>([(2,encP 3 [za u,za w,za a3]),(3,encP 3 [za y,za A,za B]),(4,.ptr 0 0 0 0 0),(5,.ptr 1 0 0 0 0),(6,.int .i64 s.1)],[(0,.row 3 [[.nilsl,.nilsl,.nilsl]] 0),(1,.row 3 [[.own 2 0 s.2.1 0 (svO d s.1).length,.own 3 0 s.2.2.1 0 (svO e s.1).length,.own 4 0 s.2.2.2 0 (svO g s.1).length]] 0),(2,.row 1 ((svO d s.1).map λn=>[.int .i64 n]) s.2.1),(3,.row 1 ((svO e s.1).map λn=>[.int .i64 n]) s.2.2.1),(4,.row 1 ((svO g s.1).map λn=>[.int .i64 n]) s.2.2.2)])) 5 (λs=>s.1<=12) (λs=>12-s.1) (0,0,0,0) (Wc _) (by rw[show svO d (0,0,0,0).1=[]from rfl,show svO e (0,0,0,0).1=[]from rfl,show svO g (0,0,0,0).1=[]from rfl];exact(Xb [(0,0,0),(1,1,0)] [] rfl (by((try simp only[evWB,Xc,Xd,Xf,Xe,Xg,implies_true,za])<;>(repeat' with_reducible apply Wa)<;>first|(first|exact .new _ _ _ rfl rfl|exact zl;done)|exact fin6)) (by((try simp only[evWB,Xc,Xd,Xf,Xe,Xg,implies_true,za])<;>(repeat' with_reducible apply Wa)<;>first|(first|exact .new _ _ _ rfl rfl|exact zl;done)|exact fin6)))) ?_;rintro⟨j,O,P,Q⟩ hj wf;simp only at hj;clear wf;refine dcU zoA.eq_1 ?_;have l1:=zo3 (f:=d) (j:=j);have l2:=zo3 (f:=e) (j:=j);have l3:=zo3 (f:=g) (j:=j);by_cases N:j<12
 case neg=>
  obtain rfl:j=12:=by omega
  refine Qa ?_;intros;refine dcU zox.eq_1 ?_;refine Gw3 c0 s0 @zsa.eq_1 ?_;intros
  exact⟨.agg (Xa ⟨svO d 12,svO e 12,svO g 12⟩),.agg _ _ _ rfl (λi a b X Y=>match i with
   |0=>by cases X;cases Y;exact zaP trivial rfl (by omega)
   |1=>by cases X;cases Y;exact zaP trivial rfl (by omega)
   |2=>by cases X;cases Y;exact zaP trivial rfl (by omega)
   |i+3=>by cases X),rfl⟩
 have I:=zvj (f:=d) (j:=j);have J:=zvj (f:=e) (j:=j);have L:=zvj (f:=g) (j:=j);rw[q1]at I;rw[q2]at J;rw[q3]at L;have R:=R j;have S:=S j;have T:=T j;have U:=U j;have V:=V j;have W:=W j;clear q1 q2 q3;generalize svO d j=C at l1 I⊢;generalize svO e j=D at l2 J⊢;generalize svO g j=F at l3 L⊢;generalize hasI u j=k at R I;generalize hasI w j=m at S J;generalize hasI a3 j=o at T L;generalize hasI y j=p at U I;generalize hasI A j=q at V J;generalize hasI B j=t at W L;have M:∀(K:Kn)(H:AH)(nx:Nat),Ent 0 K H nx [(2,encP 3 [za u,za w,za a3]),(3,encP 3 [za y,za A,za B]),(4,.ptr 0 0 0 0 0),(5,.ptr 1 0 0 0 0),(6,.int .i64 ((j+1:Nat):Int))] [(0,.row 3 [[.nilsl,.nilsl,.nilsl]] 0),(1,.row 3 [[.own 2 0 (O+bif (k||p)then 1 else 0) 0 (bif (k||p)then C++[(j:Int)]else C).length,.own 3 0 (P+bif (m||q)then 1 else 0) 0 (bif (m||q)then D++[(j:Int)]else D).length,.own 4 0 (Q+bif (o&&t)then 1 else 0) 0 (bif (o&&t)then F++[(j:Int)]else F).length]] 0),(2,.row 1 ((bif (k||p)then C++[(j:Int)]else C).map λn=>[.int .i64 n]) (O+bif (k||p)then 1 else 0)),(3,.row 1 ((bif (m||q)then D++[(j:Int)]else D).map λn=>[.int .i64 n]) (P+bif (m||q)then 1 else 0)),(4,.row 1 ((bif (o&&t)then F++[(j:Int)]else F).map λn=>[.int .i64 n]) (Q+bif (o&&t)then 1 else 0))] 5->∃c:Nat×Nat×Nat×Nat,c.1<=12/\12-c.1<12-j/\Ent 0 K H nx [(2,encP 3 [za u,za w,za a3]),(3,encP 3 [za y,za A,za B]),(4,.ptr 0 0 0 0 0),(5,.ptr 1 0 0 0 0),(6,.int .i64 c.1)] [(0,.row 3 [[.nilsl,.nilsl,.nilsl]] 0),(1,.row 3 [[.own 2 0 c.2.1 0 (svO d c.1).length,.own 3 0 c.2.2.1 0 (svO e c.1).length,.own 4 0 c.2.2.2 0 (svO g c.1).length]] 0),(2,.row 1 ((svO d c.1).map λn=>[.int .i64 n]) c.2.1),(3,.row 1 ((svO e c.1).map λn=>[.int .i64 n]) c.2.2.1),(4,.row 1 ((svO g c.1).map λn=>[.int .i64 n]) c.2.2.2)] 5:=λK H nx h=>by rw[show(bif (k||p)then C++[(j:Int)]else C)=svO d (j+1) by rw[I];cases(k||p)<;>rfl,show(bif (m||q)then D++[(j:Int)]else D)=svO e (j+1) by rw[J];cases(m||q)<;>rfl,show(bif (o&&t)then F++[(j:Int)]else F)=svO g (j+1) by rw[L];cases(o&&t)<;>rfl]at h;exact⟨(j+1,_,_,_),N,by simp only;omega,h⟩
 clear I J L;have Z:k=true\/(k=false/\p=true)\/(k=false/\p=false):=by cases k<;>cases p<;>simp
 have hb2:m=true\/(m=false/\q=true)\/(m=false/\q=false):=by cases m<;>cases q<;>simp
 have hb3:o=false\/(o=true/\t=true)\/(o=true/\t=false):=by cases o<;>cases t<;>simp
 rcases Z with rfl|⟨rfl,rfl⟩|⟨rfl,rfl⟩
 all_goals((refine Gw4 @dT @ub @zu @ua ?_;intros);refine zc (zb R rfl) ?_;(refine Gw3 @ub @zu @ua ?_;intros;try with_reducible exact trivial))
 any_goals (refine zc (zb U rfl) ?_;(refine Gw3 @ub @zu @ua ?_;intros;try with_reducible exact trivial))
 all_goals refine zc (zb S rfl) ?_
 all_goals rcases hb2 with rfl|⟨rfl,rfl⟩|⟨rfl,rfl⟩
 all_goals(refine Gw3 @ub @zu @ua ?_;intros;try with_reducible exact trivial)
 any_goals (refine zc (zb V rfl) ?_;(refine Gw3 @ub @zu @ua ?_;intros;try with_reducible exact trivial))
 all_goals refine zc (zb T rfl) ?_
 all_goals rcases hb3 with rfl|⟨rfl,rfl⟩|⟨rfl,rfl⟩
 all_goals(refine Gw3 @ub @zu @ua ?_;intros;try with_reducible exact trivial)
 any_goals (refine zc (zb W rfl) ?_;(refine Gw3 @ub @zu @ua ?_;intros;try with_reducible exact trivial))
 all_goals(refine M _ _ _ ?_;exact(Xb [(0,0,0),(1,1,0),(2,2,0),(3,3,0),(4,4,0)] [] rfl (by((try simp only[evWB,Xc,Xd,Xf,Xe,Xg,implies_true,za,WP,Bool.false_or,WB,WC,cond_true,cond_false,WH,Wn,WK,Wm,Wj,Wq,Ws,Wv,WH])<;>(repeat' with_reducible apply Wa)<;>first|(first|exact .new _ _ _ rfl rfl|exact zl;done)|exact fin6)) (by((try simp only[evWB,Xc,Xd,Xf,Xe,Xg,implies_true,za,WP,Bool.false_or,WB,WC,cond_true,cond_false,WH,Wn,WK,Wm,Wj,Wq,Ws,Wv,WH])<;>(repeat' with_reducible apply Wa)<;>first|(first|exact .new _ _ _ rfl rfl|exact zl;done)|exact fin6))))
def zc7(b:List G):List Int:=b.map (·.addr)
theorem zog(b)(q:b.length<=1000):zq Z9 zbx [encL 2 G.cells b] (·=encL 1 cW (zc7 b)):=by
 refine fn_x zvd rfl ?_;refine dcU zoH.eq_1 ?_;have n:=hBig;refine Gw0 ?_;intros;refine zd (λs:Nat×Nat=>([(0,encL 2 G.cells b),(3,.own 0 0 s.2 0 (zc7 (b.take s.1)).length),(4,.int .i64 s.1)],[(0,.row 1 ((zc7 (b.take s.1)).map cW) s.2)])) 1 (λs=>s.1<=b.length) (λs=>b.length-s.1) (0,0) (Wc _) (by rw[show zc7 (b.take (0,0).1)=[]from rfl];exact(Xb [(0,1,0)] [] rfl (Qao @ua) (Qao @ua))) ?_;rintro⟨i,γ⟩ hi wf;simp only at hi;clear wf;refine dcU zkf.eq_1 ?_;have d:(zc7 (b.take i)).length<=i:=by unfold zc7;rw[Wi];simp;omega
 by_cases c:i<b.length
 case neg=>
  obtain rfl:i=b.length:=by omega
  rw[Wg]at d⊢;refine Qa ?_;intros;unfold zka;refine Gw1 @zoj.eq_1 ?_;intros;exact⟨_,zcU trivial rfl (by omega) (λa o j p=>zB (zbo rfl)),rfl⟩
 have k:(b.map G.cells).getD i []=b[i].cells:=zj (f:=G.cells) c;have h:b[i].cells.getD 0 .undef=.int .u32 b[i].addr:=rfl;have e:zc7 (b.take (i+1))=zc7 (b.take i)++[b[i].addr]:=by unfold zc7;rw[Wo c,Wm];rfl
 generalize b[i]=g at k h e;have em:(zc7 (b.take i)).map cW++[[Xh .u32 g.addr]]=(zc7 (b.take (i+1))).map cW:=by rw[e];simp[cW]
 have m:(zc7 (b.take i)).length+1=(zc7 (b.take (i+1))).length:=by rw[e];simp
 refine Gw6 @dT k h @uc em m ?_;intros;exact⟨(i+1,γ+1),by omega,by simp only;omega,(Xb [(0,0,0)] [] rfl (Qao @ua) (Qao @ua))⟩
def zmu:List G->Int
 |[]=>0
 |g::l=>if zc1 g≠0 then zc1 g else zmu l
def ownB(b:List Int)(k:Nat):Bool:=decide (idxV (idxA b (b.getD k 0))=(k:Int))
def errA(b:List G):Int:=if 64<b.length then 6 else if zmu b≠0 then zmu b else if (Wd b.length).all (ownB (zc7 b))=true then(if b.all (λg=>resG g (zc7 b))=true then 0 else 17)else 8
theorem zv4(b)(H:∀g∈b,fewC g)(K:b.length<=1000):zq Z9 zme [encL 2 G.cells b,encL 1 cW (zc7 b)] (·=.int .i64 (errA b)):=by
 refine fn_x zxb rfl ?_;unfold zoX errA;conv in Z8 _ _=>reduce
 have J:=hBig;have B:(zc7 b).length=b.length:=Wi _;have u:∀i (h:i<b.length),(zc7 b).getD i 0=b[i].addr:=λi h=>by unfold zc7;rw[zj (f:=_) h]
 generalize zc7 b=d at B u⊢;have s:∀g:G,[g.cells.getD 0 .undef,g.cells.getD 1 .undef]=g.cells:=λ_=>rfl
 have A:∀g:G,g.cells.getD 0 .undef=.int .u32 g.addr:=λ_=>rfl
 by_cases t:64<b.length
 .rw[if_pos t];refine Gw2 @dT @zdS.eq_1 ?_;intros;exact izO
 rw[if_neg t];refine Qa ?_;intros;generalize D:zmu b=E;refine zd (λi:Nat=>([(0,encL 2 G.cells b),(1,encL 1 cW d),(5,.int .i64 i)],[])) 0 (λi=>i<=b.length/\zmu (b.drop i)=E) (λi=>b.length-i) 0 ⟨Wc _,D⟩ (Xb [] [] rfl (Qao @ua) (Qao @ua)) ?_;rintro i ⟨F,e⟩ wf;clear wf D;refine dcU zld.eq_1 ?_;by_cases c:i<b.length
 case pos=>
  rw[WN c,zmu]at e;have k:(b.map G.cells).getD i []=b[i].cells:=zj (f:=G.cells) c;have n:=zls b[i] (zmK (H _ (Wf c)));generalize b[i]=g at k e n;by_cases x:zc1 g=0
  .rw[if_neg (λh=>h x)]at e;rw[x]at n;refine Gw5 @dT k s @zu @uc ?_;intros;refine zc (zb n rfl) ?_;refine Qa ?_;intros;exact⟨i+1,⟨c,e⟩,by omega,(Xb [] [] rfl (Qao @ua) (Qao @ua))⟩
  .rw[if_pos x]at e;subst e;rw[if_pos x];refine Gw5 @dT k s @zu @uc ?_;intros;refine zc (zb n rfl) ?_;refine Gw2 @dT @zdS.eq_1 ?_;intros;exact izO
 obtain rfl:i=b.length:=by omega
 rw[WM (Wp _),zmu]at e;rw[<-e,if_neg (λh=>h rfl)];clear e;refine Qa ?_;intros;unfold zlM;refine Gw0 ?_;intros;refine zd (λi:Nat=>([(0,encL 2 G.cells b),(1,encL 1 cW d),(7,.int .i64 i)],[])) 0 (λi=>i<=b.length/\(Wd i).all (ownB d)=true) (λi=>b.length-i) 0 ⟨Wc _,rfl⟩ (Xb [] [] rfl (Qao @ua) (Qao @ua)) ?_;rintro i ⟨F,e⟩ wf;clear wf;refine dcU zli.eq_1 ?_;by_cases c:i<b.length
 case pos=>
  have k:(b.map G.cells).getD i []=b[i].cells:=zj (f:=G.cells) c;have o:=zrX d b[i].addr (by omega);have j:ownB d i=decide (idxV (idxA d b[i].addr)=(i:Int)):=by unfold ownB;rw[u i c]
  have y:=A b[i];generalize b[i]=g at k o j y;generalize idxV (idxA d g.addr)=w at o j;by_cases I:w=i
  .rw[decide_eq_true I]at j;refine Gw7 @dT k y s @zu @ub @uc ?_;intros;refine zc (zb o rfl) ?_;refine Qa ?_;intros;exact⟨i+1,⟨c,by rw[WQ,Wx,e];simp[j]⟩,by omega,(Xb [] [] rfl (Qao @ua) (Qao @ua))⟩
  .rw[decide_eq_false I]at j
   rw[if_neg (λh=>by
    have:=Wl.1 h i (Wu.2 c);rw[j]at this
    cases this)]
   refine Gw7 @dT k y s @zu @ub @uc ?_;intros;refine zc (zb o rfl) ?_;refine Gw2 @dT @zdS.eq_1 ?_;intros;exact izO
 obtain rfl:i=b.length:=by omega
 rw[if_pos e];clear e;refine Qa ?_;intros;unfold zlB;refine Gw0 ?_;intros;refine zd (λi:Nat=>([(0,encL 2 G.cells b),(1,encL 1 cW d),(8,.int .i64 i)],[])) 0 (λi=>i<=b.length/\(b.take i).all (λg=>resG g d)=true) (λi=>b.length-i) 0 ⟨Wc _,rfl⟩ (Xb [] [] rfl (Qao @ua) (Qao @ua)) ?_;rintro i ⟨F,e⟩ wf;clear wf;refine dcU zk9.eq_1 ?_;by_cases c:i<b.length
 case pos=>
  have k:(b.map G.cells).getD i []=b[i].cells:=zj (f:=G.cells) c;have v:=zmK (H _ (Wf c));have m:=zpN b[i] d (by omega) v.blocks v.stmts;have q:(b.take (i+1)).all (λg=>resG g d)=resG b[i] d:=by rw[Wo c,Wx,e];simp
  have p:b[i]∈b:=Wf c;generalize b[i]=g at k m q p
  cases C:resG g d with
  |true=>rw[C]at m q;refine Gw5 @dT k s @zu @uc ?_;intros;refine zc (zb m rfl) ?_;refine Gw0 ?_;intros;exact⟨i+1,⟨c,q⟩,by omega,(Xb [] [] rfl (Qao @ua) (Qao @ua))⟩
  |false=>
   rw[C]at m
   rw[if_neg (λh=>by
    have:=Wl.1 h g p;rw[C]at this
    cases this)]
   refine Gw5 @dT k s @zu @uc ?_;intros;refine zc (zb m rfl) ?_;refine Gw1 @zdS.eq_1 ?_;intros;exact izO
 obtain rfl:i=b.length:=by omega
 rw[Wg]at e;rw[if_pos e];refine Qa ?_;intros;unfold zly;refine Gw1 @zdS.eq_1 ?_;intros;exact izO
theorem zrw{α:Type}{p q}:∀{l:List α},(∀a∈l,p a=true->q a=true)->l.filter p=l.filter q\/(l.filter p).length<(l.filter q).length
 |[],_=>.inl rfl
 |
  a::l,h=>by
  have b:=zrw (l:=l) λx g=>h x (by simp[g])
  have c:=h a (by simp);rw[WO,WO]
  cases d:p a with
  |true=>
   rw[d]at c;rw[c rfl,if_pos rfl,if_pos rfl];rcases b with e|e
   .exact .inl (by rw[e])
   .exact .inr (by simp only[Ws];omega)
  |false=>
   rw[if_neg (by decide)]
   cases j:q a with
   |true=>
    rw[if_pos rfl];rcases b with e|e
    .exact .inr (by rw[e];simp)
    .exact .inr (by simp only[Ws];omega)
   |false=>rw[if_neg (by decide)];exact b
theorem zz1{f}{n v}(h:v<n):hasI (svO f n) v=f v:=by
 cases b:f v with
 |true=>exact zjA (Wz.2 ⟨v,WD.2 ⟨Wu.2 h,b⟩,rfl⟩)
 |false=>
  refine znl λc=>?_
  obtain⟨w,d,e⟩:=Wz.1 c;obtain rfl:w=v:=by omega
  rw[(WD.1 d).2]at b;cases b
structure CanS(s:Sgn):Prop where
 args:∃f,s.args=svO f 12
 res:∃f,s.res=svO f 12
 sav:∃f,s.sav=svO f 12
theorem zzx(a b):CanS (zm9 a b):=⟨⟨_,rfl⟩,⟨_,rfl⟩,⟨_,rfl⟩⟩
theorem zt1{s}(h:CanS s):s.args.length<=12/\s.res.length<=12/\s.sav.length<=12:=by obtain⟨⟨f,b⟩,⟨g,c⟩,⟨k,d⟩⟩:=h;rw[b,c,d];exact⟨zo3,zo3,zo3⟩
def muS1(s:Sgn):Nat:=(12-s.args.length)+(12-s.res.length)+s.sav.length
theorem zHN{a}{f}(c:a=svO f 12)(b):svO (orI a b) 12=a\/a.length<(svO (orI a b) 12).length:=by
 have h:=zrw (p:=f) (q:=orI a b) (l:=Wd 12) λv j g=>by unfold orI;rw[c,zz1 (Wu.1 j),g,WP]
 rcases h with e|e
 .left;unfold svO;rw[<-e,c];rfl
 .right;have d:a.length=((Wd 12).filter f).length:=by rw[c];unfold svO;rw[Wi]
  rw[d];unfold svO;rw[Wi];exact e
theorem zB1{a}{f}(c:a=svO f 12)(b):svO (andI a b) 12=a\/(svO (andI a b) 12).length<a.length:=by
 have h:=zrw (p:=andI a b) (q:=f) (l:=Wd 12) λv j d=>by unfold andI at d;rw[c,zz1 (Wu.1 j),Wr]at d;exact d.1
 rcases h with e|e
 .left;unfold svO;rw[e,c];rfl
 .right;have g:a.length=((Wd 12).filter f).length:=by rw[c];unfold svO;rw[Wi]
  rw[g];unfold svO;rw[Wi];exact e
theorem zHy{o}(h:CanS o)(x):zm9 o x=o\/muS1 (zm9 o x)<muS1 o:=by
 have t:=zt1 h;have e:=zt1 (zzx o x);obtain⟨⟨f,p⟩,⟨g,n⟩,⟨k,j⟩⟩:=h;obtain⟨a,r,s⟩:=o;simp only at p n j t;rcases zHN p x.args with d|d
 .rcases zHN n x.res with c|c
  .rcases zB1 j x.sav with b|b
   .left;unfold zm9;rw[d,c,b]
   .right;unfold zm9 at e⊢;unfold muS1;simp only at e d c b⊢;rw[d,c];omega
  .right
   have m:(svO (andI s x.sav) 12).length<=s.length:=by
    rcases zB1 j x.sav with b|b
    .rw[b];exact Wp _
    .omega
   unfold zm9 at e⊢;unfold muS1;simp only at e d c m⊢;rw[d];omega
 .right
  have q:r.length<=(svO (orI r x.res) 12).length:=by
   rcases zHN n x.res with c|c
   .rw[c];exact Wp _
   .omega
  have m:(svO (andI s x.sav) 12).length<=s.length:=by
   rcases zB1 j x.sav with b|b
   .rw[b];exact Wp _
   .omega
  unfold zm9 at e⊢;unfold muS1;simp only at e d q m⊢;omega
def zf8(c:List G)(b:List Int)(out:List Sgn):List Sgn:=(Wd c.length).map λk=>zm9 (out.getD k zaS) (sigG (c.getD k ⟨0,[]⟩) out b)
def zaQ(n:Nat):List Sgn:=Wh n ⟨[],[],[0,1,2,3,4,5,6,7]⟩
def allF(c:List G)(b:List Int):Nat->List Sgn->List Sgn
 |0,out=>out
 |n+1,out=>if eqSL (zf8 c b out) out=true then out else allF c b n (zf8 c b out)
def muA(out:List Sgn):Nat:=(out.map muS1).sum
def CanA(n:Nat)(out:List Sgn):Prop:=out.length=n/\∀s∈out,CanS s
theorem zts(n):CanA n (zaQ n):=⟨by simp[zaQ],λs b=>by
 rw[WW b]
 exact⟨⟨λ_=>false,rfl⟩,⟨λ_=>false,rfl⟩,⟨λv=>decide (v<8),rfl⟩⟩⟩
theorem zmW{gl}{at'}{out}:CanA gl.length (zf8 gl at' out):=⟨by simp[zf8],λs b=>by
 obtain⟨k,_,rfl⟩:=Wz.1 b
 exact zzx _ _⟩
theorem zLk:∀{n:Nat}{f f':Nat->Nat},(∀k,k<n->f' k<=f k)->((Wd n).map f').sum<=((Wd n).map f).sum/\((∃k,k<n/\f' k<f k)->((Wd n).map f').sum<((Wd n).map f).sum)
 |0,_,_,_=>⟨Wp _,λ⟨k,h,_⟩=>absurd h (Nat.not_lt_zero k)⟩
 |
  n+1,f,f',h=>by
  obtain⟨g,d⟩:=zLk (n:=n) (f:=f) (f':=f') λk e=>h k (by omega)
  have j:=h n (WR n);rw[WQ,Wm,Wm,WJ,WJ];simp only[Wj,Wq,List.sum_cons,List.sum_nil];refine⟨by omega,λ⟨k,e,c⟩=>?_⟩;by_cases b:k=n
  .subst b;omega
  .have:=d ⟨k,by omega,c⟩;omega
theorem zid{α β:Type}{l:List α}{d:α}{f:α->β}:(Wd l.length).map (λk=>f (l.getD k d))=l.map f:=by
 apply WS
 .simp
 .intro k e b;have c:k<l.length:=by simpa using b
  simp[Wk,c]
theorem zCk{b}{at'}{out}(h:CanA b.length out):zf8 b at' out=out\/muA (zf8 b at' out)<muA out:=by
 have m:∀k,k<b.length->CanS (out.getD k zaS):=λk m=>by
  have:k<out.length:=by rw[h.1];exact m
  have e:out.getD k zaS=out[k]:=by simp[Wk,this]
  rw[e];exact h.2 _ (Wf this)
 have p:muA out=((Wd b.length).map λk=>muS1 (out.getD k zaS)).sum:=by unfold muA;rw[<-h.1,zid (l:=out) (d:=zaS) (f:=muS1)]
 have q:muA (zf8 b at' out)=((Wd b.length).map λk=>muS1 (zm9 (out.getD k zaS) (sigG (b.getD k ⟨0,[]⟩) out at'))).sum:=by unfold muA zf8;rw[List.map_map];rfl
 have t:=zLk (n:=b.length) (f:=λk=>muS1 (out.getD k zaS)) (f':=λk=>muS1 (zm9 (out.getD k zaS) (sigG (b.getD k ⟨0,[]⟩) out at'))) λk c=>by
  rcases zHy (m k c) (sigG (b.getD k ⟨0,[]⟩) out at')with e|e
  .simp only[e];exact Wp _
  .exact Nat.le_of_lt e
 by_cases g:∀k,k<b.length->zm9 (out.getD k zaS) (sigG (b.getD k ⟨0,[]⟩) out at')=out.getD k zaS
 .left;unfold zf8;have:((Wd b.length).map λk=>zm9 (out.getD k zaS) (sigG (b.getD k ⟨0,[]⟩) out at'))=(Wd b.length).map λk=>out.getD k zaS:=WX λk o=>g k (Wu.1 o)
  rw[this,<-h.1];have:=zid (l:=out) (d:=zaS) (f:=id);simpa using this
 .right;obtain⟨k,c,j⟩:∃k,k<b.length/\zm9 (out.getD k zaS) (sigG (b.getD k ⟨0,[]⟩) out at')≠out.getD k zaS:=Xn λs=>g λk c=>Xn λj=>s ⟨k,c,j⟩
  rw[p,q];refine t.2 ⟨k,c,?_⟩;rcases zHy (m k c) (sigG (b.getD k ⟨0,[]⟩) out at')with e|e
  .exact absurd e j
  .exact e
def allS(b:List G):List Sgn:=allF b (zc7 b) (muA (zaQ b.length)+1) (zaQ b.length)
theorem zeW:∀s:Sgn,zQ s.cells=true:=λ_=>rfl
theorem all_l2(c)(m)(out)(hgl:c.length<=1000)(hm:∀g∈c,fewC g)(hg:∀g∈c,OkG g)(hs:∀g∈c,∀b∈g.blocks,∀s∈b.stmts,OkS s)(hal:m.length=c.length)(Y:CanA c.length out){Q}(hQE:QExt Q)(B:∀γ,Q .normal [(0,encL 2 G.cells c),(4,encL 1 cW m),(6,encL 3 Xa out),(8,.bool (!eqSL (zf8 c m out) out)),(9,.own 0 0 γ 0 c.length),(10,.int .i64 c.length),(35,.bool false)] [(0,.row 3 ((zf8 c m out).map Xa) γ)] 1){K}{H}{nx}(A:Ent 0 K H nx [(0,encL 2 G.cells c),(4,encL 1 cW m),(6,encL 3 Xa out),(8,.bool false),(9,.own 0 0 0 0 0),(10,.int .i64 (0:Nat))] [(0,.row 3 [] 0)] 1) :
  zoT Z9 0 znp (zdH 4 Q) K H nx:=by
 have hB:=hBig
 have hN:∀k (h:k<c.length),(zf8 c m out).take (k+1)=(zf8 c m out).take k++[zm9 (out.getD k zaS) (sigG c[k] out m)]:=λk h=>by
  have hl:k<(zf8 c m out).length:=by rw[zmW.1];exact h
  rw[Wo hl];unfold zf8;simp[Wk,h]
 have X:(zf8 c m out).length=c.length:=zmW.1;generalize zf8 c m out=N at hN X B;have hol:=Y.1;refine zd (λs:Nat×Nat=>([(0,encL 2 G.cells c),(4,encL 1 cW m),(6,encL 3 Xa out),(8,.bool (!eqSL (N.take s.1) (out.take s.1))),(9,.own 0 0 s.2 0 s.1),(10,.int .i64 s.1)],[(0,.row 3 ((N.take s.1).map Xa) s.2)])) 1 (λs=>s.1<=c.length) (λs=>c.length-s.1) (0,0) (Wc _) (by rw[show(!eqSL (N.take (0,0).1) (out.take (0,0).1))=false from rfl];exact A) ?_;clear A;rintro⟨k,γ⟩ hk wf;simp only at hk;clear wf;unfold znp;by_cases U:k<c.length
 case neg=>
  obtain rfl:k=c.length:=by omega
  have hf:=B γ;have e1:N.take c.length=N:=by rw[<-X,Wg]
  have e2:out.take c.length=out:=by rw[<-hol,Wg]
  rw[e1,e2];refine Qa ?_;intros;exact hf
 have t:k<out.length:=by omega
 have gg:(c.map G.cells).getD k []=c[k].cells:=zj (f:=G.cells) U;have go:(out.map Xa).getD k []=(out.getD k zaS).cells:=by rw[zj (f:=Xa) t];simp[Wk,t]
 have q:=hN k U;have u:c[k]∈c:=Wf U;have V:=zn7 c[k] (hm _ u) (hg _ u) (hs _ u) out m (by omega) (by omega)
 have hok:CanS (out.getD k zaS):=by
  have e:out.getD k zaS=out[k]:=by simp[Wk,t]
  rw[e];exact Y.2 _ (Wf t)
 have hot:out.take (k+1)=out.take k++[out.getD k zaS]:=by rw[Wo t];simp[Wk,t]
 generalize c[k]=g at gg q V;generalize sigG g out m=sg at q V;generalize out.getD k zaS=o at go q hok hot;have hwk:=zzl o sg;have hwl:=zt1 (zzx o sg);generalize zm9 o sg=w at q hwk hwl;have hsm:=znk w o (by omega);have htl:(N.take k).length=k:=by rw[Wt];omega
 have v:eqSL (N.take (k+1)) (out.take (k+1))=(eqSL (N.take k) (out.take k)&&decide (w.args=o.args/\w.res=o.res/\w.sav=o.sav)):=by
  have htl2:(out.take k).length=k:=by rw[Wt];omega
  rw[q,hot];unfold eqSL;rw[WG,Wr,decide_eq_true_iff,decide_eq_true_iff,decide_eq_true_iff,Wm,Wm];constructor
  .intro h;have h2:=List.append_inj h (by simp only[Wi,htl,htl2]);refine⟨h2.1,?_⟩;have h3:=h2.2;simp only[Wj,Wq,sgL,List.cons.injEq,and_true]at h3;exact h3
  .rintro⟨h1,h2,h3,h4⟩;rw[h1];simp only[Wj,Wq,sgL,h2,h3,h4]
 have t2:[g.cells.getD 0 .undef,g.cells.getD 1 .undef]=g.cells:=rfl;have t3:∀s:Sgn,[s.cells.getD 0 .undef,s.cells.getD 1 .undef,s.cells.getD 2 .undef]=s.cells:=λ_=>rfl
 have W:∀s:Sgn,s.cells.length=3:=λ_=>rfl
 have c0:∀l:List AV,(Xi l).cells=l:=λ_=>rfl
 have s0:∀l:List AV,(Xi l).solid=true:=λ_=>rfl
 have em:(N.take k).map Xa++[w.cells]=(N.take (k+1)).map Xa:=by rw[q];simp
 refine Gw1 @dT ?_;intros;refine zjG zpU zxi zvL zmg [(38,encL 3 Xa out),(39,.int .i64 k),(40,.iptr 3 λj=>o.cells.getD j .undef),(41,.agg o.cells),(42,encL 2 G.cells c),(43,.int .i64 k),(44,.iptr 2 λj=>g.cells.getD j .undef),(45,.agg g.cells),(46,encL 3 Xa out),(47,encL 1 cW m),(48,.agg sg.cells),(49,.agg w.cells),(11,.ptr 1 0 0 0 0)] (hsOf [([(0,.row 3 ((N.take k).map Xa) γ)],1),([(0,.row 3 ((N.take k).map Xa) γ),(1,.row 3 [[.nilsl,.nilsl,.nilsl]] 0)],2),([(0,.row 3 ((N.take k).map Xa) γ),(1,.row 3 [w.cells] 0)],2)]) (by kernel_rfl) (by rfl) (by rfl) (by repeat' first|exact QExt.retK|apply QExt.seq|apply QExt.block|apply QExt.loop|apply QExt.join|assumption) ?plan [(11,.ptr 1 0 0 0 0)] (by rfl) ?fin
 case' plan=>
  intro n hs p hH;have F:n.get 38=encL 3 Xa out:=by rw[p,zg];rfl
  have I:n.get 39=.int .i64 k:=by rw[p,zg];rfl
  have J:n.get 40=.iptr 3 λj=>o.cells.getD j .undef:=by rw[p,zg];rfl
  have L:n.get 41=.agg o.cells:=by rw[p,zg];rfl
  have M:n.get 42=encL 2 G.cells c:=by rw[p,zg];rfl
  have O:n.get 43=.int .i64 k:=by rw[p,zg];rfl
  have P:n.get 44=.iptr 2 λj=>g.cells.getD j .undef:=by rw[p,zg];rfl
  have R:n.get 45=.agg g.cells:=by rw[p,zg];rfl
  have S:n.get 46=encL 3 Xa out:=by rw[p,zg];rfl
  have T:n.get 47=encL 1 cW m:=by rw[p,zg];rfl
  have x:n.get 48=.agg sg.cells:=by rw[p,zg];rfl
  have y:n.get 49=.agg w.cells:=by rw[p,zg];rfl
  have D:n.get 11=.ptr 1 0 0 0 0:=by rw[p,zg];rfl
  have kf0:n.get 0=encL 2 G.cells c:=by rw[p,zg];rfl
  have kf4:n.get 4=encL 1 cW m:=by rw[p,zg];rfl
  have kf6:n.get 6=encL 3 Xa out:=by rw[p,zg];rfl
  have C:n.get 10=.int .i64 k:=by rw[p,zg];rfl
  simp only[zmg,zfq,zhc,and_true]
  (repeat' with_reducible apply Wa)
  all_goals(rw[hH];simp only[znC,zoE,WY,WZ,hsOf,hsAt,beqL,zdE,Xc,WF,WB,Bool.and_false,WC,cond_true,cond_false,Ws,Wv,Xd])
  all_goals try(simp(disch:=try exact dis1) only[evD,Xc,Xd,Xe,zar,zac,F,I,J,L,M,O,P,R,S,T,x,y,D,kf0,kf4,kf6,C,fldP,zu,go,gg,t2,t3,WI,Xo,W];done)
 case' fin=>simp only[zpU,hsOf,hsAt,beqL,zdE,Xc,WF,WB,Bool.and_false,WC,cond_true,cond_false,Ws,Wv,Xd,WY,WZ,zeL]
 .have Z:((N.take k).map Xa).length=k:=by rw[Wi,htl]
  have htk:((N.take k).map Xa).take k=(N.take k).map Xa:=by rw[W0 (by omega)]
  generalize decide (w.args=o.args/\w.res=o.res/\w.sav=o.sav)=d at v hsm
  cases hq:eqSL (N.take k) (out.take k)with
  |false=>rw[hq,WC]at v;refine Gw10 go t3 W c0 s0 @uc @zu Z htk em ?_;intros;exact⟨(k+1,γ+1),by omega,by simp only;omega,by rw[v];exact(Xb [(0,0,0)] [] rfl (by((try simp only[evWB,Xc,Xd,Xf,Xe,Xg,implies_true,za])<;>(repeat' with_reducible apply Wa)<;>first|(first|exact Xj (zy zeW)|exact zcU rfl rfl (by omega) (λa ha j hj=>zB (zbo rfl));done)|exact fin6)) (by((try simp only[evWB,Xc,Xd,Xf,Xe,Xg,implies_true,za])<;>(repeat' with_reducible apply Wa)<;>first|(first|exact Xj (zy zeW)|exact zcU rfl rfl (by omega) (λa ha j hj=>zB (zbo rfl));done)|exact fin6)))⟩
  |true=>rw[hq,WB]at v;refine Gw7 go t3 W c0 s0 @uc @zu ?_;intros;refine zp (zb hsm rfl) ?_;refine Gw10 go t3 W c0 s0 @uc @zu Z htk em ?_;intros;exact⟨(k+1,γ+1),by omega,by simp only;omega,by rw[v];exact(Xb [(0,0,0)] [] rfl (by((try simp only[evWB,Xc,Xd,Xf,Xe,Xg,implies_true,za])<;>(repeat' with_reducible apply Wa)<;>first|(first|exact Xj (zy zeW)|exact zcU rfl rfl (by omega) (λa ha j hj=>zB (zbo rfl));done)|exact fin6)) (by((try simp only[evWB,Xc,Xd,Xf,Xe,Xg,implies_true,za])<;>(repeat' with_reducible apply Wa)<;>first|(first|exact Xj (zy zeW)|exact zcU rfl rfl (by omega) (λa ha j hj=>zB (zbo rfl));done)|exact fin6)))⟩
 all_goals(repeat first|simp(disch:=try exact dis1) only[evD,Xc,Xd,Xe,F,I,J,L,M,O,P,R,S,T,x,y,D,kf0,kf4,kf6,C,fldP,zu,go,gg,t2,t3,W,c0,s0,WI,Xo,zar,zac,Wi]|with_reducible first|intro _|refine aJ ?_)
 all_goals first
  |omega
  |(refine zp (zb V rfl) ?_;(refine Gw3 @zar @zac x ?_;intros;try with_reducible exact trivial))
  |(refine zp (zb hwk rfl) ?_;(refine Gw3 @zar @zac y ?_;intros;try with_reducible exact trivial))
  |rfl
def allA(b:List G):AV:=if errA b≠0 then .tup [encL 3 Xa [],.int .i64 (errA b)]else .tup [encL 3 Xa (allS b),.int .i64 0]
theorem zwD:∀{c:List G},zmu c=0->∀g∈c,zc1 g=0
 |[],_,g,h=>by cases h
 |
  x::c,h,g,d=>by
  rw[zmu]at h;by_cases b:zc1 x=0
  .rw[if_neg (λe=>e b)]at h;rcases List.mem_cons.1 d with rfl|d
   .exact b
   .exact zwD h g d
  .rw[if_pos b]at h;exact absurd h b
theorem zwf{b}(h:errA b=0):b.length<=64/\(∀g∈b,zc1 g=0)/\(Wd b.length).all (ownB (zc7 b))=true/\b.all (λg=>resG g (zc7 b))=true:=by
 unfold errA at h;split at h
 .cases h
 rename_i j;split at h
 .rename_i c;exact absurd h c
 rename_i c;split at h
 .rename_i d;split at h
  .rename_i e;exact⟨by omega,zwD (Xn c),d,e⟩
  .cases h
 .cases h
theorem zyf{H HH}{σ}{D}{i r}(o:D r 0)(s:H.get r 0=some (.row 1 [[.int .i64 0],[.int .i64 1],[.int .i64 2],[.int .i64 3],[.int .i64 4],[.int .i64 5],[.int .i64 6],[.int .i64 7]] 0)):
  RowV H HH σ D ((zaQ i).map Xa++[[.nilsl,.nilsl,.own r 0 0 0 8]]) ((zaQ (i+1)).map Xa):=by
 refine⟨by simp[zaQ],λk n p=>?_⟩;have d:((zaQ i).map Xa).length=i:=by simp[zaQ]
 obtain⟨g,h⟩:=List.getElem?_eq_some_iff.1 p;have q:k<i+1:=by simpa [zaQ]using g
 have e:n=Xa ⟨[],[],[0,1,2,3,4,5,6,7]⟩:=by rw[<-h];simp[zaQ]
 subst e;by_cases m:k<i
 .refine⟨Xa ⟨[],[],[0,1,2,3,4,5,6,7]⟩,by rw[List.getElem?_append_left (by omega)];simp[zaQ,m],rfl,λj x y b c=>?_⟩;rw[b]at c;cases c
  match j with
  |0=>cases b;exact zZ rfl
  |1=>cases b;exact zZ rfl
  |2=>cases b;exact zZ rfl
  |j+3=>cases b
 .obtain rfl:k=i:=by omega
  refine⟨[.nilsl,.nilsl,.own r 0 0 0 8],by rw[List.getElem?_append_right (by omega),d,Nat.sub_self];rfl,rfl,λj x y b c=>?_⟩
  match j with
  |0=>cases b;cases c;exact zl
  |1=>cases b;cases c;exact zl
  |2=>cases b;cases c;exact zaP (l:=[0,1,2,3,4,5,6,7]) o s (by decide)
  |j+3=>cases b
theorem zru{H HH}{σ}{D}{t}{r q g n}{l}(e:l.length=n)(b:D r q)(d:H.get r q=some (.row 3 (l.map Xa) g))(c:n<=big):Vw H HH σ D t (.own r q g 0 n) (encL 3 Xa l):=by subst e;exact zcU b d c (λa h j k=>zB (zbo rfl))
theorem zJV{H}{x}{l}{n}(e:Frz H x (encL 3 Xa l)):∃a,Frz H (.tup [x,.int .i64 n]) a/\a=.tup [encL 3 Xa l,.int .i64 n]:=⟨.tup [encL 3 Xa l,.int .i64 n],.tup _ _ _ rfl (λi a b c d=>match i with
  |0=>by cases c;cases d;exact e
  |1=>by cases c;cases d;exact .int _ _ _
  |i+2=>by cases c),rfl⟩
theorem zFw(gl)(t:gl.length<=1000)(I:∀g∈gl,fewC g):zq Z9 zv7 [encL 2 G.cells gl] (·=allA gl):=by
 refine fn_x zFM rfl ?_;unfold zxS allA allS;conv in Z8 _ _=>reduce
 have U:=hBig;have p:=zv4 gl I t;have c:=λ(h:errA gl=0) g hg=>zyn (I g hg) ((zwf h).2.1 g hg)
 have w:=zog gl t;have x:(zc7 gl).length=gl.length:=Wi _;generalize errA gl=O at p c⊢;generalize zc7 gl=at' at p w x⊢;refine Gw0 ?_;intros;refine zc (zb w rfl) ?_;refine Gw0 ?_;intros;refine zc (zb p rfl) ?_;by_cases D:O=0;case neg=>rw[if_pos D];refine Gw2 @dT @ztB.eq_1 ?_;intros;exact zJV (zru (l:=[]) rfl trivial rfl (by decide))
 rw[if_neg (λh=>h D)];have c:=c D;refine Qa ?_;intros;refine zd (λs:Nat×Nat=>([(0,encL 2 G.cells gl),(4,encL 1 cW at'),(6,.own 0 0 s.2 0 s.1),(7,.int .i64 s.1)],[(0,.row 3 ((zaQ s.1).map Xa) s.2)])) 1 (λs=>s.1<=gl.length) (λs=>gl.length-s.1) (0,0) (Wc _) (by rw[show(zaQ (0,0).1)=[]from rfl];exact(Xb [(0,1,0)] [] rfl (by((try simp only[evWB,Xc,Xd,Xf,Xe,Xg,implies_true,za])<;>(repeat' with_reducible apply Wa)<;>first|(first|exact Xj (zy zeW)|exact zcU rfl rfl (by omega) (λa v j y=>zB (zbo rfl));done)|exact fin6)) (by((try simp only[evWB,Xc,Xd,Xf,Xe,Xg,implies_true,za])<;>(repeat' with_reducible apply Wa)<;>first|(first|exact Xj (zy zeW)|exact zcU rfl rfl (by omega) (λa v j y=>zB (zbo rfl));done)|exact fin6)))) ?_;rintro⟨i,γ⟩ hi wf;simp only at hi;clear wf;refine dcU zsU.eq_1 ?_;have J:((zaQ i).map Xa).length=i:=by simp[zaQ]
 have K:((zaQ i).map Xa).take i=(zaQ i).map Xa:=by rw[W0 (by omega)]
 by_cases P:i<gl.length;case pos=>refine Gw3 @dT J K ?_;intros;exact⟨(i+1,γ+1),by omega,by simp only;omega,(Xb [(0,0,0)] [1] rfl (by((try simp only[evWB,Xc,Xd,Xf,Xe,Xg,implies_true,za])<;>(repeat' with_reducible apply Wa)<;>first|(first|exact Xj (zy zeW)|exact zcU rfl rfl (by omega) (λa v j y=>zB (zbo rfl))|exact zyf rfl rfl;done)|exact fin6)) (by((try simp only[evWB,Xc,Xd,Xf,Xe,Xg,implies_true,za])<;>(repeat' with_reducible apply Wa)<;>first|(first|exact Xj (zy zeW)|exact zcU rfl rfl (by omega) (λa v j y=>zB (zbo rfl))|exact zyf rfl rfl;done)|exact fin6)))⟩
 obtain rfl:i=gl.length:=by omega
 generalize L:allF gl at' (muA (zaQ gl.length)+1) (zaQ gl.length)=R;refine Qa ?_;intros;unfold zsO;refine Gw0 ?_;intros;have C:(zaQ gl.length).length=gl.length:=by simp[zaQ]
 refine zd (λs:Bool×List Sgn=>([(0,encL 2 G.cells gl),(4,encL 1 cW at'),(6,encL 3 Xa s.2),(8,.bool s.1)],[])) 0 (λs=>CanA gl.length s.2/\(s.1=true->∃m,muA s.2<m/\allF gl at' m s.2=R)/\(s.1=false->s.2=R)) (λs=>if s.1=true then muA s.2+1 else 0) (true,zaQ gl.length) ⟨zts _,λ_=>⟨_,WR _,L⟩,λh=>by cases h⟩ ?_ ?_
 .exact(Xb [] [0] rfl (by((try simp only[evWB,Xc,Xd,Xf,Xe,Xg,implies_true,za])<;>(repeat' with_reducible apply Wa)<;>first|(exact zru C rfl rfl (by omega);done)|exact fin6)) (by((try simp only[evWB,Xc,Xd,Xf,Xe,Xg,implies_true,za])<;>(repeat' with_reducible apply Wa)<;>first|(exact zru C rfl rfl (by omega);done)|exact fin6)))
 rintro⟨M,out⟩ ⟨q,n,o⟩ wf;simp only at q n o;clear wf L;refine dcU zst.eq_1 ?_
 cases M with
 |false=>have H:=o rfl;subst H;refine Gw0 ?_;intros;refine dcU zr7.eq_1 ?_;refine Gw1 @ztB.eq_1 ?_;intros;exact zJV (zZ rfl)
 |true=>
  obtain⟨m,S,b⟩:=n rfl;obtain⟨m,rfl⟩:∃T,m=T+1:=⟨m-1,by omega⟩;rw[allF]at b;have A:=zCk (at':=at') q;have k:=zmW (gl:=gl) (at':=at') (out:=out);refine Gw0 ?_;intros;refine all_l2 gl at' out t I (λg h=>(c g h).1) (λg h=>(c g h).2) x q (by repeat' first|exact QExt.retK|apply QExt.seq|apply QExt.block|apply QExt.loop|apply QExt.join|assumption) (λγ=>?_) (Xb [(0,0,0)] [] rfl (by((try simp only[evWB,Xc,Xd,Xf,Xe,Xg,implies_true,za])<;>(repeat' with_reducible apply Wa)<;>first|(first|exact Xj (zy zeW)|exact zcU rfl rfl (by omega) (λa v j y=>zB (zbo rfl));done)|exact fin6)) (by((try simp only[evWB,Xc,Xd,Xf,Xe,Xg,implies_true,za])<;>(repeat' with_reducible apply Wa)<;>first|(first|exact Xj (zy zeW)|exact zcU rfl rfl (by omega) (λa v j y=>zB (zbo rfl));done)|exact fin6)));generalize zf8 gl at' out=N at b A k⊢;have d:=k.1;refine Gw0 ?_;intros;unfold zsW;refine Gw0 ?_;intros;by_cases u:eqSL N out=true
  .rw[if_pos u]at b;have F:N=out:=zrt (of_decide_eq_true u);exact⟨(false,N),⟨k,(λh=>by cases h),λ_=>by rw[F];exact b⟩,by simp,(Xb [] [0] rfl (by((try simp only[evWB,Xc,Xd,Xf,Xe,Xg,implies_true,za,u,Bool.not_true])<;>(repeat' with_reducible apply Wa)<;>first|(exact zru d rfl rfl (by omega);done)|exact fin6)) (by((try simp only[evWB,Xc,Xd,Xf,Xe,Xg,implies_true,za,u,Bool.not_true])<;>(repeat' with_reducible apply Wa)<;>first|(exact zru d rfl rfl (by omega);done)|exact fin6)))⟩
  .rw[if_neg u]at b;have B:eqSL N out=false:=WU.2 u
   have Q:muA N<muA out:=by
    rcases A with e|e
    .exact absurd (zr2 e) u
    .exact e
   exact⟨(true,N),⟨k,λ_=>⟨m,by simp only;omega,b⟩,λh=>by cases h⟩,by simp;omega,(Xb [] [0] rfl (by((try simp only[evWB,Xc,Xd,Xf,Xe,Xg,implies_true,za,B,WE])<;>(repeat' with_reducible apply Wa)<;>first|(exact zru d rfl rfl (by omega);done)|exact fin6)) (by((try simp only[evWB,Xc,Xd,Xf,Xe,Xg,implies_true,za,B,WE])<;>(repeat' with_reducible apply Wa)<;>first|(exact zru d rfl rfl (by omega);done)|exact fin6)))⟩
def cU(p:Int×Nat):List AV:=[.int .u32 p.1,.bool true,.int .i64 (p.2:Int)]
def ztv(l:List Int):List (List AV):=[.int .i64 (l.length:Int),.undef,.undef]::l.zipIdx.map cU
theorem zcs{l}:zE (ztv l):=zcp rfl (zy λ_=>rfl)
theorem zCz{a}:∀ {l:List (Int×Nat)}{i:Nat},(a∉l.map (·.1)->zc6 (.int .u32 a) (l.map cU) i=some none)/\(a∈l.map (·.1)->∃j,zc6 (.int .u32 a) (l.map cU) i=some (some (j,.bool true)))
 |[],i=>⟨λ_=>rfl,λh=>by cases h⟩
 |
  p::l,i=>by
  obtain⟨e,g⟩:=zCz (a:=a) (l:=l) (i:=i+1);by_cases h:a=p.1
  .refine⟨λc=>absurd (by simp[h]) c,λ_=>⟨i,?_⟩⟩;simp only[Wj,cU,zc6,zty,if_true,decide_eq_true h]
  .have d:zc6 (.int .u32 a) ((p::l).map cU) i=zc6 (.int .u32 a) (l.map cU) (i+1):=by simp only[Wj,cU,zc6,zty,if_true,decide_eq_false h]
   rw[d];refine⟨λc=>e λb=>c (List.mem_cons_of_mem _ b),λb=>g ?_⟩;rcases List.mem_cons.1 b with b|b
   .exact absurd b h
   .exact b
theorem zGT{l:List Int}:l.zipIdx.map (·.1)=l:=by simp
theorem zIs{l}{a}:(l++[a]).zipIdx.map cU=l.zipIdx.map cU++[[.int .u32 a,.bool true,.int .i64 (l.length:Int)]]:=by rw[List.zipIdx_append,Wm];simp[cU]
theorem zKj{at'}{i}(n:i<at'.length):ownB at' i = !decide (at'[i]∈at'.take i):=by
 unfold ownB;rw[show at'.getD i 0=at'[i] by simp[Wk,n]];generalize p:at'[i]=a
 cases o:idxA at' a with
 |none=>exfalso;have c:=List.findIdx?_eq_none_iff.1 o at'[i] (Wf n);rw[p]at c;simp at c
 |some k=>
  obtain⟨c,d,h⟩:=List.findIdx?_eq_some_iff_getElem.1 o;have d:=of_decide_eq_true d;have s:k<=i:=Xn λu=>by have:=h i (by omega);rw[p]at this;simp at this
  by_cases m:k=i
  .subst m;rw[decide_eq_true (show idxV (some k)=(k:Int)from rfl),decide_eq_false (λt=>?_)]
   .rfl
   .obtain⟨j,q,b⟩:=W3.1 t;have g:j<k:=by rw[Wt]at q;omega
    have:=h j g;rw[W5]at b;rw[b]at this;simp at this
  .rw[decide_eq_false (show ¬idxV (some k)=(i:Int)from λe=>m (by have:(k:Int)=i:=e;omega)),decide_eq_true]
   .rfl
   .refine W3.2 ⟨k,by rw[Wt];omega,?_⟩;rw[W5];exact d
theorem zEc{at'}{a}:(idxA at' a).isSome=decide (a∈at'):=by
 unfold idxA;rw[WG,List.findIdx?_isSome,List.any_eq_true,decide_eq_true_iff];constructor
 .rintro⟨x,b,c⟩;exact(of_decide_eq_true c)▸b
 .intro h;exact⟨a,h,decide_eq_true rfl⟩
theorem Qap{b p:Prop}(a0:b)(h:b->p:=by intro a0;(try simp only[evWB,Nat.reduceBEq,Nat.reduceAdd,Nat.reduceSub,Nat.reduceLeDiff,Nat.reduceLT,implies_true,a0])<;>(repeat' with_reducible apply And.intro)<;>first|(first|exact RowV.of_flat zcs;done)|exact fin6):p:=h a0
theorem zqH(c)(Z:∀g∈c,fewC g)(hl:c.length<=1000):zq Z9 zgp [encL 2 G.cells c] (·=.int .i64 (errA c)):=by
 refine fn_x zqo rfl ?_;unfold ziU errA;conv in Z8 _ _=>reduce
 have hB:=hBig;have L:(zc7 c).length=c.length:=Wi _;have N:∀i (h:i<c.length) (h2:i<(zc7 c).length),(zc7 c)[i]=c[i].addr:=λi h h2=>W6 (l:=c) (λg:G=>g.addr)
 generalize zc7 c=at' at L N⊢;have P:∀g:G,[g.cells.getD 0 .undef,g.cells.getD 1 .undef]=g.cells:=λ_=>rfl
 have J:∀g:G,g.cells.length=2:=λ_=>rfl
 have S:∀g:G,g.cells.getD 0 .undef=.int .u32 g.addr:=λ_=>rfl
 by_cases K:64<c.length
 .rw[if_pos K];refine Gw2 @dT @zbB.eq_1 ?_;intros;exact izO
 rw[if_neg K];refine Qa ?_;intros;generalize X:zmu c=E;refine zd (λi:Nat=>([(0,encL 2 G.cells c),(16,encL 2 G.cells c),(17,.int .i64 c.length),(18,.int .i64 i)],[])) 0 (λi=>i<=c.length/\zmu (c.drop i)=E) (λi=>c.length-i) 0 ⟨Wc _,X⟩ (Xb [] [] rfl (Qap @ua) (Qap @ua)) ?_;rintro i ⟨Y,k⟩ wf;clear wf X;refine dcU zgW.eq_1 ?_;by_cases d:i<c.length
 case pos=>
  rw[WN d,zmu]at k;have u:(c.map G.cells).getD i []=c[i].cells:=zj (f:=G.cells) d;have e:=Z _ (Wf d);have w:=zmC c[i] (zmK e) (λb U s hs=>We (e.cases b U s hs) (by decide));generalize c[i]=g at u k w e;by_cases Q:zc1 g=0
  .rw[if_neg (λh=>h Q)]at k;rw[Q]at w;refine Gw6 @dT u P J @zu @uc ?_;intros;refine zc (zb w rfl) ?_;refine Qa ?_;intros;exact⟨i+1,⟨d,k⟩,by omega,(Xb [] [] rfl (Qap @ua) (Qap @ua))⟩
  .rw[if_pos Q]at k;subst k;rw[if_pos Q];refine Gw6 @dT u P J @zu @uc ?_;intros;refine zc (zb w rfl) ?_;refine Gw2 @dT @zbB.eq_1 ?_;intros;exact izO
 obtain rfl:i=c.length:=by omega
 rw[WM (Wp _),zmu]at k;rw[<-k,if_neg (λh=>h rfl)];clear k;refine Qa ?_;intros;refine dcU zg2.eq_1 ?_;refine Gw0 ?_;intros;refine zd (λi:Nat=>([(0,encL 2 G.cells c),(6,.mp 0 0),(29,encL 2 G.cells c),(30,.int .i64 c.length),(31,.int .i64 i)],[(0,.row 3 (ztv (at'.take i)) 0)])) 1 (λi=>i<=c.length/\(Wd i).all (ownB at')=true) (λi=>c.length-i) 0 ⟨Wc _,rfl⟩ (by rw[show ztv (at'.take 0)=[[.int .i64 0,.undef,.undef]]from rfl];exact(Xb [(0,0,0)] [] rfl (Qap @ua) (Qap @ua))) ?_;rintro i ⟨Y,k⟩ wf;clear wf;refine dcU zhj.eq_1 ?_;by_cases d:i<c.length
 case pos=>
  have H:i<at'.length:=by omega
  have u:(c.map G.cells).getD i []=c[i].cells:=zj (f:=G.cells) d;have p:=zKj H;have n:at'.take (i+1)=at'.take i++[at'[i]]:=Wo H;rw[N i d H]at p n;have R:=S c[i];generalize c[i]=g at u p R n;have m:=zCz (a:=g.addr) (l:=(at'.take i).zipIdx) (i:=0);rw[zGT]at m;have W:=zIs (l:=at'.take i) (a:=g.addr);have htl:(at'.take i).length=i:=by rw[Wt];omega
  by_cases y:g.addr∈at'.take i
  .rw[decide_eq_true y]at p;obtain⟨j,F⟩:=m.2 y
   rw[if_neg (λh=>by
    have:=Wl.1 h i (Wu.2 d);rw[p]at this
    cases this)]
   refine Gw11 @dT u R P J @zu @ub @uc @ztv.eq_1 F @zbB.eq_1 ?_;intros;exact izO
  .rw[decide_eq_false y]at p;have F:=m.1 y;refine Gw10 @dT u R P J @zu @ub @uc @ztv.eq_1 F ?_;intros;have C:ztv (at'.take (i+1))=[.int .i64 (((at'.take i).length:Int)+1),.undef,.undef]::((at'.take i).zipIdx.map cU++[[.int .u32 g.addr,.bool true,.int .i64 ((at'.take i).length:Int)]]):=by rw[n];unfold ztv;rw[W,Wn];rfl
   refine⟨i+1,⟨d,by rw[WQ,Wx,k];simp[p]⟩,by omega,?_⟩;unfold ztv at C;rw[C];exact(Xb [(0,0,0)] [] rfl (Qap @ua) (Qap @ua))
 obtain rfl:i=c.length:=by omega
 rw[if_pos k];rw[show at'.take c.length=at' by rw[<-L,Wg]];clear k;refine Qa ?_;intros;refine dcU zhn.eq_1 ?_;refine Gw0 ?_;intros;refine zd (λi:Nat=>([(6,.mp 0 0),(43,encL 2 G.cells c),(44,.int .i64 c.length),(45,.int .i64 i)],[(0,.row 3 (ztv at') 0)])) 1 (λi=>i<=c.length/\(c.take i).all (λg=>resG g at')=true) (λi=>c.length-i) 0 ⟨Wc _,rfl⟩ (Xb [(0,0,0)] [] rfl (Qap @ua) (Qap @ua)) ?_;rintro i ⟨Y,k⟩ wf;clear wf;refine dcU zg6.eq_1 ?_;by_cases d:i<c.length
 case neg=>
  obtain rfl:i=c.length:=by omega
  rw[Wg]at k;rw[if_pos k];refine Qa ?_;intros;unfold zg7;refine Gw1 @zbB.eq_1 ?_;intros;exact izO
 have u:(c.map G.cells).getD i []=c[i].cells:=zj (f:=G.cells) d;have e:=Z _ (Wf d);have v:=zmZ c[i] (We (zC9 e) (by decide)) (We e.blocks (by decide)) (λb U=>We (e.stmts b U) (by decide));have t:=zyp (g:=c[i]) (at':=at');have M:=zxR e;have n:(c.take (i+1)).all (λg=>resG g at')=resG c[i] at':=by rw[Wo d,Wx,k];simp
 have B:c[i]∈c:=Wf d;have A:resG c[i] at'=false->¬c.all (λg=>resG g at')=true:=λV h=>by have:=Wl.1 h c[i] B;rw[V]at this;cases this
 rw[show zbz (zfv (tgB c[i].blocks))=zsT c[i]from rfl]at v;clear e;generalize c[i]=g at u v t M n B A;generalize zsT g=o at v t M;refine Gw6 @dT u P J @zu @uc ?_;intros;refine zc (zb v rfl) ?_;refine Gw0 ?_;intros;refine zd (λj:Nat=>([(6,.mp 0 0),(43,encL 2 G.cells c),(44,.int .i64 c.length),(45,.int .i64 i),(50,encL 1 cW o),(51,.int .i64 o.length),(52,.int .i64 j)],[(0,.row 3 (ztv at') 0)])) 1 (λj=>j<=o.length/\(o.take j).all (λa=>(idxA at' a).isSome)=true) (λj=>o.length-j) 0 ⟨Wc _,rfl⟩ (Xb [(0,0,0)] [] rfl (Qap @ua) (Qap @ua)) ?_;rintro j ⟨hj,D⟩ wf;clear wf;refine dcU zgS.eq_1 ?_;by_cases x:j<o.length
 case neg=>
  obtain rfl:j=o.length:=by omega
  rw[Wg,<-t]at D;rw[D]at n;refine Qa ?_;intros;refine dcU zgT.eq_1 ?_;refine Gw0 ?_;intros;exact⟨i+1,⟨d,n⟩,by omega,(Xb [(0,0,0)] [] rfl (Qap @ua) (Qap @ua))⟩
 have T:(o.map cW).getD j []=[.int .u32 o[j]]:=zj (f:=cW) x;have I:(o.take (j+1)).all (λa=>(idxA at' a).isSome)=(idxA at' o[j]).isSome:=by rw[Wo x,Wx,D];simp
 have O:o[j]∈o:=Wf x;generalize o[j]=a at T I O;have m:=zCz (a:=a) (l:=at'.zipIdx) (i:=0);rw[zGT]at m;by_cases y:a∈at'
 .rw[zEc,decide_eq_true y]at I;obtain⟨q,F⟩:=m.2 y;refine Gw4 @dT T @ztv.eq_1 F ?_;intros;rw[show[Xh .i64 (at'.length:Int),.undef,.undef]::at'.zipIdx.map cU=ztv at' from rfl];exact⟨j+1,⟨x,I⟩,by omega,(Xb [(0,0,0)] [] rfl (Qap @ua) (Qap @ua))⟩
 .have F:=m.1 y;have V:resG g at'=false:=WU.2 λh=>by rw[h]at t;have:=Wl.1 t.symm a O;rw[zEc,decide_eq_false y]at this;cases this
  rw[if_neg (A V)];refine Gw5 @dT T @ztv.eq_1 F @zbB.eq_1 ?_;intros;exact izO
theorem unL_or{a b}:unL a b=svO (orI a b) 12:=by
 unfold unL svO;congr 1;refine WA λv _=>?_
 unfold orI;rw[WG,decide_eq_true_iff,Bool.or_eq_true]
 have h:∀l:List Int,hasI l v=true↔(v:Int)∈l:=λl=>by
  by_cases c:(v:Int)∈l
  .rw[zjA c];simp[c]
  .rw[znl c];simp[c]
 rw[h,h]
theorem zMA{a b}{f}(c:a=svO f 12):cmL a b=svO (andI a b) 12:=by
 have e:(Wd 12).filter (andI a b)=((Wd 12).filter f).filter λ(v:Nat)=>hasI b (v:Int):=by
  rw[List.filter_filter];refine WA λv d=>?_
  unfold andI;rw[c,zz1 (Wu.1 d),Bool.and_comm]
 unfold cmL;conv=>lhs;rw[c]
 unfold svO;rw[e,List.filter_map];rfl
def ptS(N:List Sgn)(n k:Nat):List (List AV):=(Wd n).map λj=>if j<k then(N.getD j zaS).cells else[.nilsl,.nilsl,.nilsl]
theorem zgr{N}{n k}:zE (ptS N n k):=zy λj=>by split<;>rfl
theorem zIw{N}{n k}:(ptS N n k).length=n:=by simp[ptS]
theorem zK7{N}{n k}(e:k<n):(ptS N n k).set k (N.getD k zaS).cells=ptS N n (k+1):=by
 apply WS
 .simp[ptS]
 .intro j c d;rw[List.getElem_set];simp only[ptS,W6,List.getElem_range];by_cases h:k=j
  .subst h;rw[if_pos rfl,if_pos (by omega)]
  .rw[if_neg h];by_cases b:j<k
   .rw[if_pos b,if_pos (by omega)]
   .rw[if_neg b,if_neg (by omega)]
theorem zHv{N}{n}(h:N.length=n):ptS N n n=N.map Xa:=by subst h;unfold ptS;rw[<-zid (l:=N) (d:=zaS) (f:=Xa)];exact WX λj b=>if_pos (Wu.1 b)
theorem Qaq{b p:Prop}(a0:b)(h:b->p:=by intro a0;(try simp only[evWB,Nat.reduceBEq,Nat.reduceAdd,Nat.reduceSub,Nat.reduceLeDiff,Nat.reduceLT,implies_true,a0])<;>(repeat' with_reducible apply And.intro)<;>first|(first|exact zf|exact RowV.of_flat zgr;done)|exact fin6):p:=h a0
theorem pal_l3(b)(d)(out)(X:b.length<=1000)(T:∀g∈b,fewC g)(F:∀g∈b,zc1 g=0)(W:d.length=b.length)(x:CanA b.length out)(c)(es)(Z:TabS out d es){Q}(w:Q .normal [(0,encL 2 G.cells b),(5,encL 1 cW d),(6,encL 3 Xa out),(10,.mp 0 0),(11,.own 1 0 0 0 b.length),(61,encL 2 G.cells b),(62,.int .i64 b.length),(63,.int .i64 b.length),(64,.bool false)] [(0,.row 3 (tabM c es) 0),(1,.row 3 ((zf8 b d out).map Xa) 0)] 2){K}{H}{nx}(m:Ent 0 K H nx [(0,encL 2 G.cells b),(5,encL 1 cW d),(6,encL 3 Xa out),(10,.mp 0 0),(11,.own 1 0 0 0 b.length),(61,encL 2 G.cells b),(62,.int .i64 b.length),(63,.int .i64 (0:Nat))] [(0,.row 3 (tabM c es) 0),(1,.row 3 (ptS (zf8 b d out) b.length 0) 0)] 2) :
  zoT Z9 0 zhr (zdH 6 Q) K H nx:=by
 have hB:=hBig;have C:(zf8 b d out).length=b.length:=zmW.1;have B:∀k (h:k<b.length),(zf8 b d out).getD k zaS=zm9 (out.getD k zaS) (sigG b[k] out d):=λk h=>by unfold zf8;simp[Wk,h]
 generalize zf8 b d out=N at C B w m;have Y:=x.1
 have D:∀a,SgnLe 12 (zaz out d a):=λa=>by
  unfold zaz
  cases idxA d a with
  |none=>exact⟨Wc _,Wc _,Wc _⟩
  |some k=>
   simp only;by_cases O:k<out.length
   .have e:out.getD k zaS=out[k]:=by simp[Wk,O]
    rw[e];have:=zt1 (x.2 _ (Wf O));exact⟨this.1,this.2.1,this.2.2⟩
   .have e:out.getD k zaS=zaS:=by simp[Wk,O]
    rw[e];exact⟨Wc _,Wc _,Wc _⟩
 refine zd (λk:Nat=>([(0,encL 2 G.cells b),(5,encL 1 cW d),(6,encL 3 Xa out),(10,.mp 0 0),(11,.own 1 0 0 0 b.length),(61,encL 2 G.cells b),(62,.int .i64 b.length),(63,.int .i64 k)],[(0,.row 3 (tabM c es) 0),(1,.row 3 (ptS N b.length k) 0)])) 2 (λk=>k<=b.length) (λk=>b.length-k) 0 (Wc _) m ?_;clear m;rintro k O wf;clear wf;refine dcU zhr.eq_1 ?_;by_cases s:k<b.length
 case neg=>
  obtain rfl:k=b.length:=by omega
  rw[zHv C];refine Qa ?_;intros;exact w
 have t:k<out.length:=by omega
 have S:(b.map G.cells).getD k []=b[k].cells:=zj (f:=G.cells) s;have go:(out.map Xa).getD k []=(out.getD k zaS).cells:=by rw[zj (f:=Xa) t];simp[Wk,t]
 have j:b[k]∈b:=Wf s;have p:=zyn (T _ j) (F _ j);have u:=zri b[k] (T _ j) p.1 p.2 (zAg (F _ j)) out d c es Z (λa=>We (D a).args (by decide)) (λa=>We (D a).res (by decide))
 have y:CanS (out.getD k zaS):=by
  have e:out.getD k zaS=out[k]:=by simp[Wk,t]
  rw[e];exact x.2 _ (Wf t)
 have q:=B k s;have v:=zK7 (N:=N) (n:=b.length) s;have A:(sigG b[k] out d).args.length<=12/\(sigG b[k] out d).res.length<=12:=⟨by unfold sigG;rw[Wi];exact We (WL _ _) (by simp),by unfold sigG;rw[Wi];exact We (WL _ _) (by simp)⟩;clear p;generalize b[k]=g at S u q A;generalize sigG g out d=sg at u q A;generalize out.getD k zaS=o at go y q;rw[q]at v;have P:=zt1 y;obtain⟨oa,R,os⟩:=o;obtain⟨sa,sr,ss⟩:=sg;simp only at P A;have J:=zm2 oa sa (by rw[Wn];omega);have L:=zm2 R sr (by rw[Wn];omega);have M:=zsL os ss (by omega);obtain⟨fs,I⟩:=y.sav;simp only at I;rw[unL_or]at J L;rw[zMA I]at M;have t2:[g.cells.getD 0 .undef,g.cells.getD 1 .undef]=g.cells:=rfl;have V:g.cells.length=2:=rfl;have U:∀l:List AV,(Xi l).cells=l:=λ_=>rfl
 have s0:∀l:List AV,(Xi l).solid=true:=λ_=>rfl
 simp only[Xa,zm9]at go u v;refine Gw6 @dT S t2 V @zu @uc ?_;intros;refine zH [(0,0,0)] 1 _ u rfl rfl (Qaq @ua) (Qaq @ua) ?_;rintro _ _ _ ⟨rfl,rfl,rfl⟩
 (repeat first|simp(disch:=try exact dis1) only[evD,Xc,Xd,Xe,zmN,Xk,Wj,Wq,renE,U,s0,go,zu,WI,za]|with_reducible first|intro _|refine aJ ?_)
 refine zp (zb J rfl) ?_;refine Gw4 go @zu @uc @ua ?_;intros;refine zp (zb L rfl) ?_;refine Gw4 go @zu @uc @ua ?_;intros;refine zp (zb M rfl) ?_;simp only[za]at v;refine Gw6 go @zu @uc @ua @zIw v ?_;intros;exact⟨k+1,by omega,by omega,(Xb [(0,0,0),(1,1,0)] [] rfl (Qaq @ua) (Qaq @ua))⟩
theorem Qar{p:Prop}(h:p:=by(try simp only[evWB,Nat.reduceBEq,Nat.reduceAdd,Nat.reduceSub,Nat.reduceLeDiff,Nat.reduceLT,implies_true])<;>(repeat' with_reducible apply And.intro)<;>first|(first|exact zf|exact RowV.of_flat zgr;done)|exact fin6):p:=h
theorem pal_k6(gl)(at')(F:gl.length<=1000)(P:∀g∈gl,fewC g)(C:∀g∈gl,zc1 g=0)(B:at'.length=gl.length){Q}{K}{H}{nx}(q:∀c y,(allF gl at' (muA (zaQ gl.length)+1) (zaQ gl.length)).length=gl.length->Q .ret [(64,.bool false),(2,.own 1 0 0 0 gl.length),(3,.int .i64 0)] [(0,.row 3 (tabM c y) 0),(1,.row 3 ((allF gl at' (muA (zaQ gl.length)+1) (zaQ gl.length)).map Xa) 0)] 2)(p:Ent 0 K H nx [(0,encL 2 G.cells gl),(5,encL 1 cW at'),(6,encL 3 Xa (zaQ gl.length))] [] 0) :
  zoT Z9 0 zhB (zdH 4 Q) K H nx:=by
 have Y:=hBig;generalize M:allF gl at' (muA (zaQ gl.length)+1) (zaQ gl.length)=R at q;refine zd (λs:List Sgn=>([(0,encL 2 G.cells gl),(5,encL 1 cW at'),(6,encL 3 Xa s)],[])) 0 (λs=>CanA gl.length s/\∃m,muA s<m/\allF gl at' m s=R) (λs=>muA s) (zaQ gl.length) ⟨zts _,_,WR _,M⟩ p ?_;clear p M;rintro out ⟨o,m,S,d⟩ wf;clear wf;obtain⟨m,rfl⟩:∃V,m=V+1:=⟨m-1,by omega⟩;rw[allF]at d;have v:=zCk (at':=at') o;have j:=zmW (gl:=gl) (at':=at') (out:=out);have T:=o.1;have L:∀s∈out,SgnLe 1000000 s:=λs h=>by have:=zt1 (o.2 s h);exact⟨by omega,by omega,by omega⟩
 refine dcU zhB.eq_1 ?_;refine Gw0 ?_;intros;refine zH [] 0 _ (zfV out at' (by omega) (by omega)) rfl rfl Qar Qar ?_;rintro _ _ _ ⟨rfl,rfl,c,y,rfl,U⟩;have O:((gl.length:Nat):Int).toNat=gl.length:=WI _
 have w:Wh gl.length [AV.nilsl,.nilsl,.nilsl]=ptS (zf8 gl at' out) gl.length 0:=by
  apply WS
  .simp[ptS]
  .intro k W X;simp[ptS]
 (repeat first|simp(disch:=try exact dis1) only[evD,Xc,Xd,Xe,zmN,Xk,O,w]|with_reducible first|intro _|refine aJ ?_)
 (repeat' with_reducible apply Wa)
 all_goals try omega
 refine pal_l3 gl at' out F P C B o c y U ?_ (Xb [(0,0,0),(1,1,0)] [] rfl (Qaq @ua) (Qaq @ua));have x:∀s∈zf8 gl at' out,SgnLe 1000000 s:=λs h=>by have:=zt1 (j.2 s h);exact⟨by omega,by omega,by omega⟩
 have heq:=zrR (zf8 gl at' out) out (by rw[j.1];omega) (by omega) x L;generalize zf8 gl at' out=N at d v j x heq⊢;have n:=j.1;refine Gw0 ?_;intros;unfold zlU;refine Gw0 ?_;intros;refine zc (zaM (D:=allR) heq (.cons (zru n trivial rfl (by omega)) (.cons (zZ rfl) (.cons (.fn _ _ _ _ rfl λi a b h _=>by cases h) .nil))) (.inl rfl)) ?_;by_cases t:eqSL N out=true
 .rw[if_pos t]at d;have A:N=out:=zrt (of_decide_eq_true t);refine Gw1 t ?_;intros;have u:N=R:=by rw[A];exact d
  rw[u];exact q c y (by rw[<-u];exact n)
 .rw[if_neg t]at d;have J:eqSL N out=false:=WU.2 t
  have I:muA N<muA out:=by
   rcases v with e|e
   .exact absurd (zr2 e) t
   .exact e
  refine Gw1 J ?_;intros;exact⟨N,⟨j,m,by omega,d⟩,I,(Xb [] [1] rfl (by((try simp only[evWB,Xc,Xd,Xf,Xe,Xg,implies_true,za])<;>(repeat' with_reducible apply Wa)<;>first|(exact zru n rfl rfl (by omega);done)|exact fin6)) (by((try simp only[evWB,Xc,Xd,Xf,Xe,Xg,implies_true,za])<;>(repeat' with_reducible apply Wa)<;>first|(exact zru n rfl rfl (by omega);done)|exact fin6)))⟩
end Go.Ab
