/-
  Part 16 of the proof: how the calls of this program run, over values instead of memory, and what each function computes.
-/
import Derived.KernelRfl
import Derived.Test.YtihlaappclhhaaaGreatJo
set_option maxRecDepth 100000
set_option linter.unusedVariables false
set_option linter.unusedSimpArgs false
set_option linter.unnecessarySimpa false
set_option linter.unusedSectionVars false
open Go.Ab.Ent renaming tabB->Xa,tab->Xf,keep->Xo
open Go.Ab.St renaming cells->Xb,eight->Xn,flat->Xp
open Nat renaming reduceBEq->Xc,reduceAdd->Xd,reduceLeDiff->Xe,reduceSub->Xk,reduceLT->Xl
open Go.Ab.AV renaming int->Xg,ren->Xj,agg->Xm
open Go.Ab.Bl renaming cells->Xh
open Go.Ab.AObj renaming ren->Xi
open Go.Proofs.Tryz renaming prog->Z9
open And renaming intro→Wa
open Nat renaming le_trans→Wc,zero_le→Wg,le_refl→Wt
open List renaming replicate→Wd,cons_append→We,nil_append→Wf,mem_append→Wh,getElem_mem→Wi,take_length→Wk,length_append→Wl,map_cons→Wm,mem_singleton→Wn,all_eq_true→Wo,append_nil→Wp,range→Wq,map_append→Wr,map_nil→Ws,mem_flatMap→Wu,filter_congr→Wv,getD_eq_getElem?_getD→Ww,getElem?_eq_getElem→Wx,eq_nil_of_length_eq_zero→Wy,take_succ_eq_append_getElem→Wz,length_singleton→WC,drop_eq_getElem_cons→WF,ext_getElem?→WG,length_reverse→WH,length_nil→WI,length_take→WJ,not_mem_nil→WK,length_cons→WL,drop_of_length_le→WN,getElem?_map→WO,length_drop→WP,drop_length→WQ,getD_cons_zero→WR,reverse_reverse→WS
open Bool renaming and_eq_true→Wj,not_false→WA,and_true→WB,true_or→WD,false_or→WE
open Int renaming natCast_nonneg→WM
namespace Go.Ab
open Go.RowKit Go.Proofs
theorem zJ0{a}{x y}:addL a (x++y)=addL (addL a x) y:=List.foldl_append ..
def savL(b:Sgn):List Int:=if hasI b.sav 7=true then[7]else[]
def chgL(l:List Sgn)(b:List Int)(s:St):List Int:=znl s++(if s.op=5 then(zaJ l b s.tgt).res++savL (zaJ l b s.tgt)else[])
theorem zKG{l}{b}{s}{y}:y∈chgL l b s↔chV l b s y=true:=by
 unfold chgL chV znl savL;rw[Wh];generalize zaJ l b s.tgt=g;by_cases d:s.op=5
 .rw[if_pos d,if_pos d,if_neg (by omega),Wh]
  have j:(y∈(if hasI g.sav 7=true then[(7:Int)]else[]))↔(y=7/\y∈g.sav):=by
   by_cases e:(7:Int)∈g.sav
   .rw[if_pos (znv e),Wn];exact⟨λh=>⟨h,by rw[h];exact e⟩,λh=>h.1⟩
   .rw[znu e,if_neg (by decide)];exact⟨λh=>by(cases h),λh=>(e (h.1▸h.2)).elim⟩
  rw[j,Bool.or_eq_true,Wj,decide_eq_true_eq,decide_eq_true_eq,decide_eq_true_eq];simp
 .rw[if_neg d,if_neg d,Wj,decide_eq_true_eq,decide_eq_true_eq];by_cases c:s.op=1\/s.op=3
  .rw[if_pos c];simp only[Wn,WK,or_false];exact⟨λh=>⟨c,h.symm⟩,λh=>h.2.symm⟩
  .rw[if_neg c];simp only[WK,or_false,false_iff];exact λh=>c h.1
theorem zGC(s):(znl s).length<=1:=by unfold znl;split<;>simp
theorem Qw{p:Prop}(h:p:=by(try simp only[evWB,Nat.reduceBEq,Nat.reduceAdd,Nat.reduceSub,Nat.reduceLeDiff,Nat.reduceLT,implies_true,za,zo])<;>(repeat' with_reducible apply And.intro)<;>first|(first|exact zb|exact zj|exact zX|exact RowV.of_flat zaI|exact RowV.of_flat zaE|exact RowV.of_flat zeD;done)|exact fin6):p:=h
theorem rs_l5(F:Int)(bl)(sv)(ord)(i:Nat)(l)(p)(c:Int)(es)(ht:TabS l p es)(W:∀a,(zaJ l p a).res.length<=9223372036854775807)(g)(a0)(hss:g.length<=9223372036854775807){Q}(V:∀a:MS,(∀y,y∈a.keys↔y∈a0.keys\/∃s∈g,chV l p s y=true)->Q .normal ([(1,.mp 0 0),(2,za sv),(3,encP 2 [.int .u32 F,encL 2 Xh bl]),(7,.mp 1 0),(18,zo ord),(19,.int .i64 ord.length),(20,.int .i64 i),(29,encL 8 Xb g),(30,.int .i64 g.length),(31,.int .i64 g.length)]++[(32,.bool false)]) [(0,.row 3 (tabM c es) 0),(1,.row 3 (setN a) 0)] 2){K}{H}{S:Nat}(M:Ent 1 K H S [(1,.mp 0 0),(2,za sv),(3,encP 2 [.int .u32 F,encL 2 Xh bl]),(7,.mp 1 0),(18,zo ord),(19,.int .i64 ord.length),(20,.int .i64 i),(29,encL 8 Xb g),(30,.int .i64 g.length),(31,.int .i64 (0:Nat))] [(0,.row 3 (tabM c es) 0),(1,.row 3 (setN a0) 0)] 2) :
  znL Z9 1 zeN (zdB 2 Q) K H S:=by
 have hB:=hBig;refine zc (λt:Nat×MS=>([(1,.mp 0 0),(2,za sv),(3,encP 2 [.int .u32 F,encL 2 Xh bl]),(7,.mp 1 0),(18,zo ord),(19,.int .i64 ord.length),(20,.int .i64 i),(29,encL 8 Xb g),(30,.int .i64 g.length),(31,.int .i64 t.1)],[(0,.row 3 (tabM c es) 0),(1,.row 3 (setN t.2) 0)])) 2 (λt=>t.1<=g.length/\∀y,y∈t.2.keys↔y∈a0.keys\/∃s∈g.take t.1,chV l p s y=true) (λt=>g.length-t.1) (0,a0) ⟨Wg _,λy=>by simp⟩ M ?_;clear M;rintro⟨k,a⟩ ⟨hk,C⟩ wf;simp only at hk C;clear wf;refine dcU zeN.eq_1 ?_;by_cases B:k<g.length
 case neg=>
  obtain rfl:k=g.length:=by omega
  rw[Wk]at C;have R:=V a C;simp only[We,Wf]at R;refine Qa ?_;intros;exact R
 have gk:(g.map Xb).getD k []=g[k].cells:=zk (f:=Xb) (d:=[]) B
 have o:∀b:MS,b=addL a (chgL l p g[k])->∀y,y∈b.keys↔y∈a0.keys\/∃s∈g.take (k+1),chV l p s y=true:=λb hb y=>by
  rw[hb,zlM,C,zKG,Wz B];simp only[Wh,Wn];constructor
  .rintro((h|⟨s,h1,h2⟩)|h)
   .exact .inl h
   .exact .inr ⟨s,.inl h1,h2⟩
   .exact .inr ⟨_,.inr rfl,h⟩
  .rintro(h|⟨s,h1|rfl,h2⟩)
   .exact .inl (.inl h)
   .exact .inl (.inr ⟨s,h1,h2⟩)
   .exact .inr h2
 have L:=zov g[k];unfold chgL at o;generalize g[k]=s at gk o L;have hdl:=zGC s;have u:=ztg ht s.tgt;have X:=W s.tgt;have n:=ztN (a:=s.tgt) (es:=es) (i:=0);generalize zaJ l p s.tgt=A at o u X;have N:[s.cells.getD 0 .undef,s.cells.getD 1 .undef,s.cells.getD 2 .undef,s.cells.getD 3 .undef,s.cells.getD 4 .undef,s.cells.getD 5 .undef,s.cells.getD 6 .undef,s.cells.getD 7 .undef]=s.cells:=Xn _;have hc8:s.cells.length=8:=rfl;have hop:s.cells.getD 0 .undef=.int .i64 s.op:=rfl;have x:s.cells.getD 5 .undef=.int .u32 s.tgt:=rfl;refine Gw6 @dT gk @ub @zC N hc8 ?_;intros;refine zg (ze L rfl) ?_;refine Gw1 @ua ?_;intros;refine rs_l0 F bl sv ord i c es g k s (znl s) a (by omega) ?_ (Xa [(0,0,0),(1,1,0),(2,2,0)] [] rfl rfl rfl Qw Qw);simp only[We,Wf];generalize hD:addL a (znl s)=d;refine Gw0 ?_;intros;refine dcU zil.eq_1 ?_;refine Gw2 hop x ?_;intros;by_cases h5:s.op=5;case neg=>rw[if_neg h5,Wp]at o;refine Qd ?_;intros;unfold za7;refine Gw0 ?_;intros;exact⟨(k+1,d),⟨B,o d hD.symm⟩,by simp only;omega,(Xa [(0,0,0),(1,1,0)] [] rfl rfl rfl Qw Qw)⟩
 rw[if_pos h5]at o;simp only[zJ0,hD]at o;have m:tabM c es=[Xg .i64 c,.undef,.undef]::es.map cT:=rfl;have J:=zaK A.sav 7;have O:=o (addL (addL d A.res) (savL A)) rfl;have Z:savL A=if hasI A.sav 7=true then[7]else[]:=rfl
 generalize w:addL (addL d A.res) (savL A)=e at O
 have v:∀(K:Kn)(H:AH)(S:Nat),Ent 1 K H S [(1,.mp 0 0),(2,za sv),(3,encP 2 [.int .u32 F,encL 2 Xh bl]),(7,.mp 1 0),(18,zo ord),(19,.int .i64 ord.length),(20,.int .i64 i),(29,encL 8 Xb g),(30,.int .i64 g.length),(31,.int .i64 ((k+1:Nat):Int))] [(0,.row 3 (tabM c es) 0),(1,.row 3 (setN e) 0)] 2->∃P:Nat×MS,(P.1<=g.length/\∀y,y∈P.2.keys↔y∈a0.keys\/∃s∈g.take P.1,chV l p s y=true)/\g.length-P.1<g.length-k/\Ent 1 K H S [(1,.mp 0 0),(2,za sv),(3,encP 2 [.int .u32 F,encL 2 Xh bl]),(7,.mp 1 0),(18,zo ord),(19,.int .i64 ord.length),(20,.int .i64 i),(29,encL 8 Xb g),(30,.int .i64 g.length),(31,.int .i64 P.1)] [(0,.row 3 (tabM c es) 0),(1,.row 3 (setN P.2) 0)] 2 :=
  λK H S h=>⟨(k+1,e),⟨B,O⟩,by simp only;omega,h⟩
 clear o O
 cases U:atT es s.tgt with
 |none=>rw[U]at u n;simp only at u n;subst u;refine Gw5 @dT @dF x @uu n ?_;intros;rw[<-m];refine rs_l1 F bl sv ord i c es g k s zbF.res d (Wg _) ?_ (Xa [(0,0,0),(1,1,0),(2,2,0)] [] rfl rfl rfl Qw Qw);simp only[We,Wf];generalize addL d zbF.res=I at w⊢;refine Gw0 ?_;intros;refine dcU zeT.eq_1 ?_;refine Gw3 x @uu n ?_;intros;refine zg (zaH (D:=noR) J (.cons zj (.cons (.int _ _ _) .nil)) (.inl rfl)) ?_;rw[show savL zbF=[]from rfl,show addL I []=I from rfl]at w;subst w;refine Gw1 (show hasI zbF.sav 7=false from rfl) ?_;intros;unfold za7;refine Gw0 ?_;intros;rw[<-m];exact v _ _ _ (Xa [(0,0,0),(1,1,0)] [] rfl rfl rfl Qw Qw)
 |some j=>
  rw[U]at u n;simp only at u n;rw[u]at n;refine Gw7 @dT @dF x @uu n @Sgn.cells.eq_1 @ua ?_;intros;rw[<-m];refine rs_l1 F bl sv ord i c es g k s A.res d X ?_ (Xa [(0,0,0),(1,1,0),(2,2,0)] [] rfl rfl rfl Qw Qw);simp only[We,Wf];generalize addL d A.res=I at w⊢;refine Gw0 ?_;intros;refine dcU zeT.eq_1 ?_;refine Gw4 x @uu n @Sgn.cells.eq_1 ?_;intros;refine zg (ze J rfl) ?_
  cases Y:hasI A.sav 7 with
  |false=>rw[Z,Y,if_neg (by decide),show addL I []=I from rfl]at w;subst w;refine Gw0 ?_;intros;unfold za7;refine Gw0 ?_;intros;rw[<-m];exact v _ _ _ (Xa [(0,0,0),(1,1,0)] [] rfl rfl rfl Qw Qw)
  |true=>
   rw[Z,Y,if_pos rfl,show addL I [7]=add1 I 7 from rfl]at w;obtain⟨T,ps⟩:=I;by_cases hm:(7:Int)∈ps.map (·.1)
   .obtain⟨q,hq,hqe,R⟩:=zm1 hm;rw[show add1 (T,ps) 7=(T,ps)from if_pos hm]at w;subst w;have hov:=zJA hq hqe;refine Gw4 @ue @evSN R hov ?_;intros;unfold za7;refine Gw0 ?_;intros;rw[<-m];exact v _ _ _ (Xa [(0,0,0),(1,1,0)] [] rfl rfl rfl Qw Qw)
   .have R:=zkN hm;rw[show add1 (T,ps) 7=(T+1,ps++[(7,T)])from if_neg hm]at w;subst w;refine Gw3 @ue @evSN R ?_;intros;unfold za7;refine Gw0 ?_;intros;rw[<-m];exact v _ _ _ (Xa [(0,0,0),(1,1,0)] [] rfl rfl rfl (QZ @ue @ua @ug @zzK) (QZ @ue @ua @ug @zzK))
def rsL(g:G)(l:List Sgn)(b:List Int)(c:List Int):List Int:=((Wq 12).filter λv=>chgP g l b v && !hasI c v).map λ(v:Nat)=>(v:Int)
theorem zMm{g}{l}{at' sv}{a}(h:∀y,y∈a.keys↔∃b∈ordG g,∃s∈(blkG g b).stmts,chV l at' s y=true):srtL a sv=rsL g l at' sv:=by
 unfold srtL rsL;congr 1;refine Wv λv _=>?_
 unfold srtP chgP;congr 1;rw[Bool.eq_iff_iff,decide_eq_true_iff,h];simp only[List.any_eq_true]
theorem zrB(g)(K:fewC g)(Z:OkG g)(l)(at')(c)(A)(T:TabS l at' A)(F:∀a,(zaJ l at' a).res.length<=9223372036854775807)(sv):
  z7 Z9 za5 [.agg g.cells,.mp 0 0,za sv] [(0,.row 3 (tabM c A) 0)] 1
  (λv H U=>v=za (rsL g l at' sv)/\H=[(0,.row 3 (tabM c A) 0)]/\U=1):=by
 refine zS (fn_x zrD rfl ?_);refine dcU zlh.eq_1 ?_;have W:=hBig;have m:=zgK g K;have k:=zwv g;have hole:=zzj g;have C:=K.blocks;have x:=λb (w:b<g.blocks.length)=>K.stmts _ (Wi w)
 have j:=λb (w:b<g.blocks.length)=>zaR w
 have e:=λ(a:MS) h=>zMm (g:=g) (l:=l) (at':=at') (sv:=sv) (a:=a) h
 generalize rsL g l at' sv=R at e⊢;generalize ordG g=d at m k hole e;generalize blkG g=I at j e;obtain⟨M,u⟩:=g;simp only[G.cells]at m k hole C x j⊢;refine Gw2 @ub @zC ?_;intros;refine zg (ze m rfl) ?_;refine Gw1 @ug ?_;intros;refine zc (λt:Nat×MS=>([(1,.mp 0 0),(2,za sv),(3,encP 2 [.int .u32 M,encL 2 Xh u]),(7,.mp 1 0),(18,zo d),(19,.int .i64 d.length),(20,.int .i64 t.1)],[(0,.row 3 (tabM c A) 0),(1,.row 3 (setN t.2) 0)])) 2 (λt=>t.1<=d.length/\∀y,y∈t.2.keys↔∃b∈d.take t.1,∃s∈(I b).stmts,chV l at' s y=true) (λt=>d.length-t.1) (0,(0,[])) ⟨Wg _,λy=>by simp[MS.keys]⟩ (Xa [(0,0,0),(1,2,0)] [] rfl rfl rfl Qw Qw) ?_;rintro⟨i,a⟩ ⟨S,p⟩ wf;simp only at S p;clear wf;refine dcU zie.eq_1 ?_;by_cases o:i<d.length
 case pos=>
  have O:(d.map λ(n:Nat)=>[Xg .i64 (n:Int)]).getD i []=[.int .i64 (d[i]:Int)]:=zk (f:=λ(n:Nat)=>[Xg .i64 (n:Int)]) o
  have q:∀y,(∃b∈d.take (i+1),∃s∈(I b).stmts,chV l at' s y=true)↔(∃b∈d.take i,∃s∈(I b).stmts,chV l at' s y=true)\/∃s∈(I d[i]).stmts,chV l at' s y=true:=λy=>by
   rw[Wz o];simp only[Wh,Wn];constructor
   .rintro⟨b,h|rfl,J⟩
    .exact .inl ⟨b,h,J⟩
    .exact .inr J
   .rintro(⟨b,h,J⟩|h)
    .exact⟨b,.inl h,J⟩
    .exact⟨_,.inr rfl,h⟩
  have w:=k _ (Wi o);generalize d[i]=b at O w q;have D:(u.map Xh).getD b []=Xh u[b]:=zk w;have L:=x b w;rw[j b w]at q;have B:u[b].cells.getD 1 .undef=encL 8 Xb u[b].stmts:=by cases u[b];rfl
  generalize u[b]=N at D L q B;have X:(i:Int)<=8:=by omega
  have Y:(N.stmts.length:Int)<=10:=by omega
  refine Gw11 @dT @ug @ua @ub @zC O D B @ud @ul @m9M ?_;intros;refine rs_l5 M u sv d i l at' c A T F N.stmts a (by omega) (λP V=>?_) (Xa [(0,0,0),(1,1,0)] [] rfl rfl rfl Qw Qw);simp only[We,Wf];refine Gw0 ?_;intros;refine dcU zii.eq_1 ?_;refine Gw0 ?_;intros;exact⟨(i+1,P),⟨o,λy=>by rw[V,p];exact(q y).symm⟩,by simp only;omega,(Xa [(0,0,0),(1,1,0)] [] rfl rfl rfl Qw Qw)⟩
 case neg=>
  obtain rfl:i=d.length:=by omega
  rw[Wk]at p;have Q:=e a p;refine Qa ?_;intros;refine dcU zin.eq_1 ?_;refine Gw0 ?_;intros;refine zx [(0,1,0)] 1 _ (zkz a sv) rfl rfl (Gin6_1 @ua) (Gin6_1 @ua) ?_;rintro _ _ _ ⟨rfl,rfl,rfl⟩;rw[Q];refine Gw3 @renM @renE @zkD.eq_1 ?_;intros;exact⟨za R,[(0,.row 3 (tabM c A) 0)],1,(Xa [(0,0,0)] [] rfl rfl rfl Qw Qw),rfl,rfl,rfl⟩
theorem Qab{d e g p:Prop}(a0:d)(b:e)(c:g)(h:d->e->g->p:=by intro a0 b c;(try simp only[evWB,Nat.reduceBEq,Nat.reduceAdd,Nat.reduceSub,Nat.reduceLeDiff,Nat.reduceLT,implies_true,a0,b,c])<;>(repeat' with_reducible apply And.intro)<;>first|(first|exact zj;done)|exact fin8):p:=h a0 b c
theorem zrN(n b)(p:b<n)(S)(sk):z7 Z9 zah [.mp 0 (b+1),za sk] [(0,famS n S)] 1
  (λv H w=>v=za (srtL (S b) sk)/\H=[(0,famS n S)]/\w=1):=by
 refine zS (fn_x zhG rfl ?_);refine dcU zeV.eq_1 ?_;have y:=hBig;have e:=λx=>zaK sk x
 refine Gw0 ?_;intros;refine zc (λs:Nat×Nat=>([(0,.mp 0 (b+1)),(1,za sk),(5,.own 1 0 s.2 0 (outN (S b) sk s.1).length),(7,.int .i64 s.1)],[(0,famS n S),(1,.row 1 ((outN (S b) sk s.1).map λn=>[.int .i64 n]) s.2)])) 2 (λs=>s.1<=12) (λs=>12-s.1) (0,0) (Wg _) (by rw[show outN (S b) sk (0,0).1=[]from rfl];exact(Xa [(0,0,0),(1,2,0)] [] rfl rfl rfl (Qab @uf @zd @ua) (Qab @uf @zd @ua))) ?_;rintro⟨j,γ⟩ hj wf;simp only at hj;clear wf;refine dcU zdD.eq_1 ?_;by_cases q:j<12
 case neg=>
  obtain rfl:j=12:=by omega
  have g:=zp6 (a:=S b) (sk:=sk) (j:=12);refine Qa ?_;intros;refine dcU zdG.eq_1 ?_;generalize t:outN (S b) sk 12=O at g⊢;refine Gw0 ?_;intros;refine zx [(0,1,0)] 1 _ (zc7 γ O (by omega)) rfl rfl fin8 fin8 ?_;rintro _ _ _ ⟨rfl,rfl,rfl⟩
  (repeat first|simp(disch:=try exact dis1) only[evD,Xc,Xd,Xe,zwo,Xj,show Tab.to [(0,1,0)] 2 0=1 from rfl,zfa]|with_reducible intro _|((with_reducible apply Wa);omega))
  exact⟨za (srtL (S b) sk),[(0,famS n S)],1,by rw[show srtL (S b) sk=O from t];exact(Xa [(0,0,0)] [1] rfl rfl rfl (Qab @uf @zd @ua) (Qab @uf @zd @ua)),rfl,rfl,rfl⟩
 have c:=zwV (a:=S b) (sk:=sk) (j:=j);have g:=zp6 (a:=S b) (sk:=sk) (j:=j);have d:=e j;by_cases o:(j:Int)∈(S b).2.map (·.1)
 .obtain⟨i,A,u,m⟩:=zft o
  cases k:hasI sk j with
  |true=>
   rw[if_neg (by unfold srtP;rw[k];simp)]at c;rw[k]at d
   (repeat first|simp(disch:=try exact dis1) only[evD,Xc,Xd,Xe,dT,famS,zre p,zd,m]|with_reducible first|intro _|refine aJ ?_)
   refine zg (ze d rfl) ?_;refine Gw0 ?_;intros;refine⟨(j+1,γ),by omega,by simp only;omega,by rw[c];exact(Xa [(0,0,0),(1,1,0)] [] rfl rfl rfl (Qab @uf @zd @ua) (Qab @uf @zd @ua))⟩
  |false=>
   rw[if_pos (by unfold srtP;rw[k];simp only[WA,WB];exact decide_eq_true o)]at c;rw[k]at d
   (repeat first|simp(disch:=try exact dis1) only[evD,Xc,Xd,Xe,dT,famS,zre p,zd,m]|with_reducible first|intro _|refine aJ ?_)
   refine zg (ze d rfl) ?_;refine Gw0 ?_;intros;refine⟨(j+1,γ+1),by omega,by simp only;omega,by rw[c,Wl,WC,Wr];exact(Xa [(0,0,0),(1,1,0)] [] rfl rfl rfl (by((try simp only[evWB,Xc,Xd,Xk,Xe,Xl,implies_true,famS,zd,za,Wm,Ws])<;>(repeat' with_reducible apply Wa)<;>first|(first|exact zj;done)|exact fin8)) (by((try simp only[evWB,Xc,Xd,Xk,Xe,Xl,implies_true,famS,zd,za,Wm,Ws])<;>(repeat' with_reducible apply Wa)<;>first|(first|exact zj;done)|exact fin8)))⟩
 .have m:=zeb o;rw[if_neg (by unfold srtP MS.keys;simp only[Wj,decide_eq_true_eq];exact λh=>o h.1)]at c
  (repeat first|simp(disch:=try exact dis1) only[evD,Xc,Xd,Xe,dT,famS,zre p,zd,m]|with_reducible first|intro _|refine aJ ?_)
  refine⟨(j+1,γ),by omega,by simp only;omega,by rw[c];exact(Xa [(0,0,0),(1,1,0)] [] rfl rfl rfl (Qab @uf @zd @ua) (Qab @uf @zd @ua))⟩
mutual
theorem zJd:∀(e:Ex),zg7 e=true->∀y∈occX e,0<=y
 |
  .mk op n v w l,h,y,b=>by
  rw[zg7,Wj]at h;rw[occX]at b;rcases Wh.1 b with b|b
  .by_cases c:op=2
   .rw[if_pos c,Wn]at b;have d:=h.2;unfold zy at d;have g:=of_decide_eq_true d;omega
   .rw[if_neg c]at b;cases b
  .exact zwH l h.1 y b
theorem zwH:∀(l:List Ex),zeh l=true->∀y∈zeo l,0<=y
 |[],_,y,b=>by rw[zeo]at b;cases b
 |
  e::l,h,y,b=>by
  rw[zeh,Wj]at h;rw[zeo]at b;rcases Wh.1 b with b|b
  .exact zJd e h.1 y b
  .exact zwH l h.2 y b
end
theorem zBg:∀{l:List Ex},(∀e∈l,zg7 e=true)->zeh l=true
 |[],_=>by rw[zeh]
 |e::l,h=>by rw[zeh,Wj];exact⟨h e (by simp),zBg λx b=>h x (by simp[b])⟩
theorem zIM{s}(h:OkS s):∀y∈zjd s,0<=y:=λy b=>by
 unfold zjd at b;rcases(zsb _ _).1 b with b|b
 .cases b
 .exact zwH _ (zBg h.form) y b
theorem zrv{α β:Type}{f:α->List β}{m:Nat}:∀{l:List α},(∀a∈l,(f a).length<=m)->(l.flatMap f).length<=l.length*m
 |[],_=>by simp
 |
  a::l,h=>by
  rw[List.flatMap_cons,Wl,WL,Nat.succ_mul];have c:=h a (by simp);have d:=zrv (l:=l) λx b=>h x (by simp[b])
  omega
def allU(g:G):List Int:=(g.blocks.flatMap λb=>b.stmts.flatMap zjd)++zax true
theorem zEl{g}(c:fewC g):(allU g).length<=24012:=by
 unfold allU;have h:(g.blocks.flatMap λb=>b.stmts.flatMap zjd).length<=g.blocks.length*3000:=zrv λb d=>by refine Wc (zrv (m:=300) λs e=>Wc (zw5 s) (c.size b d s e)) ?_;have:=c.stmts b d;omega
 have j:=c.blocks;rw[Wl,show(zax true).length=12 from rfl];omega
theorem zwn(b):(zax b).length<=12:=by
 cases b
 .exact Wg _
 .exact Wt _
theorem zIg(b):∀x∈zax b,x∈zax true:=λx c=>by
 cases b
 .cases c
 .exact c
theorem zCV{g:G}(d:fewC g)(v:OkG g)(j:∀b∈g.blocks,∀s∈b.stmts,OkS s)(l:List Sgn)(o:List Int)(q:Bool)(u:∀a,(zaJ l o a).args.length<=9223372036854775807):SizC (allU g) g l o (zax q) 900 where
 uses b e s j x c:=Wh.2 (.inl (Wu.2 ⟨b,e,Wu.2 ⟨s,j,c⟩⟩))
 more b e s j x c:=by
  refine Wh.2 (.inr ?_);unfold zlo at c;split at c
  .have p:=(List.mem_filter.1 c).2;unfold inG at p;have m:=of_decide_eq_true p;exact(zBH m.1).2 ⟨rfl,m.2⟩
  .split at c
   .exact zIg q x c
   .cases c
 pos x c:=by
  rcases Wh.1 c with h|h
  .obtain⟨b,e,t⟩:=Wu.1 h;obtain⟨s,p,m⟩:=Wu.1 t;exact zIM (j b e s p) x m
  .unfold zax at h;rw[if_pos rfl]at h;obtain⟨n,_,rfl⟩:=List.mem_map.1 h;exact WM _
 len:=Wc (zEl d) (by decide)
 mlen b e s j:=zIX (Wc (zwn q) (by decide)) (by decide)
 nlen:=by decide
 ok:=v
 blk:=Wc d.blocks (by decide)
 room k hk:=by
  have t:=zu6 d hk;have p:(blkG g k).stmts.length<=10:=by rw[zaR hk];exact d.stmts _ (Wi hk)
  have m:=zEl d;have w:(edgB g k).length*(allU g).length<=8*24012:=Nat.mul_le_mul t m;omega
 edg k hk:=Wc (zu6 d hk) (by decide)
 sts k hk:=by rw[zaR hk];exact Wc (d.stmts _ (Wi hk)) (by decide)
 siz b e s j:=⟨d.size b e s j,Wc (d.cases b e s j) (by decide)⟩
 exl:=Wc (zwn q) (by decide)
 n12:=by decide
 arg:=u
def zjT:ACode:=Z8 0x7d1100d21003d067d2210007cb510a216d813c0101001115c02c00203d25101d210b220021315307014301c003d361d2113 []
def zji:ACode:=Z8 0x0df1102e21005e0602100007e12c72128120cf2407c2205c00110611308f261000000000ed3cb100c212002f70105f3631531136c11331531137c1133af61003c0ee2b130000007e711111017c2813feeede149eade236c227e22ce12aeaae23111017c2813feee1ae49eade23cebe2aeaae236c227e232228e231111017c2813feee1ae49eade23ce12aeaae236c22032227e23403294c231111017c2813feeede149eade236c227e22cebe2aeaae23111017c2813feee1ae49eade23cebe2aeaae232227e23403294c23111017c2813feeede149eade232227e22403294c23111017c2813feeedeae49eade23403294c2311000f12813403294c23feeede149eade236c227e23ce12aeaae231111017c2813feee1ae49eade23cebe2aeaae23403294c23111017c2813feeedeae49eade23403294c2311000f12813403294c23feee1ae49eade23cebe2aeaae236c227e236c228e2311111017c2813feee1ae49eade23ce12aeaae232228e23403294c231111017c2813feee1ae49eade23cebe2aeaae23403294c23111017c2813feeedeae49eade23403294c2311000f12813403294c23feee1ae49eade23ce12aeaae236c22036c227e231c0020c0be22209e22230003e49e6c2817e02c2403293c212205e3e24020061355347014304e5e363e2113 []
def zjH:ACode:=Z8 0x09645fd1000001501106113fd2413000bd4101c212ed38ea01c000c00622bd2513ad11000c211335270140c13c0ad21133 [zji]
def zjJ:ACode:=Z8 0x8fc002d010539000072192816220ef2313 []
def zjN:ACode:=Z8 0x190962502000c21133070d316281117ea06228d2313 [zjH,zjJ]
def znb:ACode:=Z8 0x1909605000000d21133016c01130021c0401810921228da050040dc241308001c40017107229281b00040329c0413149c10001860109c22130005c41082128c30ea05004006225c2513360200000403296217c32313 [zjT,zjN]
attribute[irreducible]zjT zji zjH zjJ zjN
def zio:List ARet:=[.cell 6 true 2,.tmp 7]
theorem zs1:zL Z9 zbl (qRoL [] [(19,[0,1,2,4,5,7,8,9,10,11,12,13,14,15,16,17,18,19,20,21,22,23,24,25,26,27,28,29,30,31,32,33,34,35,36,37,38,39,40,41,42,43,44,45,46,47,48,49,50,51,52,53,54,55,56,57,58,59,60,61,62,63,64,65,66,67,68,69,70,71,72,73,74,75,76,77,78,79,80,81,82,83,84,85,86,87,88,89,90,91,92,93,94,95,96,97,98,99,100,101,102,103,104,105,106,107,108,109,110,111,112,113,114,115,116,117,118,119,120,121,122,123,124,125,126,127,128,129,130,131,132,133,134,135,136,137,138,139,140,141,142,143,144,145,146,147,148,149])])=some (znb.strip,zio,75):=by kernel_rfl
def zjZ:ACode:=Z8 0x063447c18814403000000000089b221 []
def zf6:ACode:=Z8 0x000048c11005b12ddcd413fa0a109102c8208105100000ac9610c18118d24f83c0101440300000000008185c02c8200c105114000000000000005c3c1201d701114fa3152300015431132c1638e6100120bc701cc210494c31132c113381cd610010018601102c1035c24c13315 []
def zjf:ACode:=Z8 0x8dd421b281722021306d9321181711300c1031306d00551115fa00c1ed2213 []
def zms:ACode:=Z8 0x2919094c3c21b0500c21112fa011071130c23133041901130000440329061c057c047c017c42513 [zjZ,zf6,zjf]
attribute[irreducible]zjZ zf6 zjf
def zmC:List ARet:=[.cell 8 true 2]
theorem ztk:zL Z9 zY (qRo [7])=some (zms.strip,zmC,47):=by kernel_rfl
def zmw:ACode:=.seq (.region [(oN 1 (.rbox (.t 0))),Yab] [0,2]) (.seq (.region [(oF 3 0 1 1),(oL 4 3),(oC 5 .eql 4 18),(oM 6 5),(oG 7 6 false (.fldaddr 4 1 (.t 1))),(oG 8 6 false (.load false 1 (.t 7))),(oG 9 6 false (.call zac [(.t 8),(.c (.fn (.func zeG) []))])),(oN 10 (.pick (.t 6) (.c (.bool true)) (.t 9))),(oM 2 10)] [1,3,4,5,6,7,8,9,10]) (.ret))
def zir:List ARet:=[.tmp 2]
theorem ztC:zL Z9 zeG (qRo [1])=some (zmw.strip,zir,11):=by kernel_rfl
def zgU:ACode:=Z8 0x0ef110be2100ee060ef2210000000000000007e65c1021581306f05f54021111fb0215202125402900211021163021284028002700290021102116302128402800270ee2220ce210622002135534701430deee36ce2113 []
def zgV:ACode:=Z8 0x7c04e5410ec21001d060ff221 []
def zgZ:ACode:=Z8 0x190964500005e5000001501101163012840800700713000000000bda5e118111730fded8401110fa01101173012840800700800700b130000000001dabd1181116305d4d840110ffa01101163012840800700800201d2b130fc2105220021335327014300d1d36fc2113 [zgU,zgV]
def zgS:ACode:=Z8 0x000005e08c03a16f118111130214f240700600110411310f271 []
def zgW:ACode:=.region [(oC 82 .add 14 1),(oM 14 82)] [82]
def zg4:ACode:=Z8 0x291909625cc10000015010cc231330000005c71042110efa0110111301224060011041135c281303c2103220021315307014304c5c363c2113 [zgZ,zgS,zgW]
def zgT:ACode:=Z8 0x808f0b141528142217f2213 []
def zi1:ACode:=Z8 0x19096050b200000150110411304133000742118141130110dfa01102113725130140329017c0213 [zg4,zgT]
attribute[irreducible]zgU zgV zgZ zgS zgW zg4 zgT
def ziR:List ARet:=[.cell 2 true 2]
theorem zpq:zL Z9 zf1 (qRo [])=some (zi1.strip,ziR,84):=by kernel_rfl
def zha:ACode:=Z8 0xcc110b21002c06cc221000000000a3b102158137c6c54021111fb0215202125402600211024143026002110241432c22200c2103220021315307014301c2c360c2113 []
def zhH:ACode:=Z8 0x81c081415581452dc2213 []
def zjQ:ACode:=Z8 0x190960508200000150110414304133000442118141430110ffa01102143425130140000030059017c0213 [zha,zhH]
attribute[irreducible]zha zhH
def zjU:List ARet:=[.cell 2 true 5]
theorem zqg:zL Z9 zex (qRo [])=some (zjQ.strip,zjU,26):=by kernel_rfl
def zpd:ACode:=Z8 0x5092410321001060600c231083c113200221131400002b61117fa015201254060011041432c261315307014000741a3601501104143060725133 []
def zpn:ACode:=.seq (.region [ Yab] [1,3]) (.ret)
def zuj:ACode:=Z8 0x19096053220000011330841220022113140427c0017601102103423133102100011c0213 [zpd,zpn]
attribute[irreducible]zpd zpn
def zl0:List ARet:=[.tmp 2]
theorem zz1:zL Z9 znK (qRo [1])=some (zuj.strip,zl0,20):=by kernel_rfl
def zqZ:ACode:=Z8 0x9d09c06510a210010601c01d2310800de00400190df0020621c00b009f24130bf4000000000000000cdb5c010c02201207ffeee618fb0250024002101f00f319fb02201203f02f50afb02500240022c00262202b002622022c002011be8cc02100106021c0020c08e2223000002e610b211011130128401c000c00613037140000000000000020d4c120cd701117fa31523000154311311633128431c030c00ef6100100186011011030128401c000c03d24c1333532701400dc310d3601500c001c0dc24133 []
def zqR:ACode:=Z8 0x0609410821001060b05c231 []
def zqX:ACode:=Z8 0x19096250000001130000024c710921101113012240b0011061137c2713153070140000c413c36015011061130b00c25133 [zqZ,zqR]
def zqJ:ACode:=Z8 0x84001490000900062213 []
def zvO:ACode:=Z8 0x1909605000000113305030000000006211c32313 [zqX,zqJ]
attribute[irreducible]zqZ zqR zqX zqJ
def zrE:List ARet:=[.tmp 6,.tmp 7]
theorem zC3:zL Z9 zp7 (qRo [3])=some (zvO.strip,zrE,71):=by kernel_rfl
def zlP:List AOper:=[(oN 47 (.buildSl 8 0 [.int .i64 0,.int .i64 0,.int .i64 0,.int .i64 0,.int .i64 0,.int .u32 0,.nilsl,.nilsl] [])),(oF 48 1 1 11),(oL 49 48),(oM 50 10),(oN 51 (.slice 8 (.t 49) none (some (.t 50)))),(oN 52 (.append 8 96 (.t 47) (.t 51))),(oF 53 1 1 11),(oL 54 53),(oM 55 10),(oC 56 .add 55 1),(oN 57 (.slice 8 (.t 54) (some (.t 56)) none)),(oN 58 (.append 8 96 (.t 52) (.t 57))),(oF 59 1 1 11),(oS 1 59 58)]
def zrl:List (List Nat):=[[],[],[1],[],[2,3],[0,4],[],[6],[],[8],[7,9],[5,10,5],[0,1,2,3,4,5,6,7,8,9,10,11],[12,11,11,0,1,2,3,4,5,6,7,8,9,10,11]]
def zna:List Nat:=[0,5,11,13]
def zuT:List (List Nat):=[[],[],[1],[],[1,2,3],[0,1,2,3,4],[],[6],[],[8],[6,7,8,9],[0,1,2,3,4,5,6,7,8,9,10],[0,1,2,3,4,5,6,7,8,9,10,11],[0,1,2,3,4,5,6,7,8,9,10,11,12]]
def zsZ:List (List Nat):=[[],[0],[0,5],[0,5,11],[0,5,11,13]]
def zk8:Plan:=[(0,[],[0]),(1,[],[]),(2,[],[]),(2,[0],[0]),(3,[],[]),(4,[],[]),(4,[0],[0]),(5,[0],[0,5]),(6,[],[]),(7,[],[]),(7,[0],[0]),(7,[0,5],[0,5]),(8,[],[]),(9,[],[]),(10,[],[]),(10,[0],[0]),(10,[0,5],[0,5]),(11,[0,5],[0,5,11]),(12,[0,5,11],[0,5,11]),(13,[0,5,11],[0,5,11,13])]
def zoU:ACode:=.seq (.seq (.region [(oM 33 9),(oC 34 .geq 33 0)] [33]) (.cond (.t 34) (.skip) (.exit 0))) (.seq (.block 1 (.seq (.region [(oF 42 1 1 3),(oL 43 42),(oM 44 9),(oI 45 2 43 44),(oA 46 2 45),(oN 11 (.alloc [.int .u32 0,.nilsl])),(oS 2 11 46)] [34,42,43,44,45,46]) (.seq (.draw (zgb zlP zrl 14 (Wd 14 false)) [10,47,48,49,50,51,52,53,54,55,56,57,58,59]) (.region [(oF 60 1 1 3),(oL 61 60),(oM 62 9),(oA 63 2 11),(oI 64 2 61 62),(oS 2 64 63)] [9,11,60,61,62,63,64])))) (.region [(oA 36 2 3),(oM 37 1),(oM 38 2),(oN 39 (.call zp7 [(.t 36),(.t 37),(.t 38)])),(oM 35 39),(oT 40 0 35),(oT 41 1 35),(oM 9 40),(oM 10 41)] [35,36,37,38,39,40,41]))
def zo3:ACode:=Z8 0x8ae0500160000721928162205f2313 []
def zuv:ACode:=Z8 0x1909605000000ec77d0020921d12c0102c3d210ec2122d3bea0500400622fc2913300002907821181611301cc4d23c01106113004032025c9c26130800940017107229281b00040329c0413145c10001860105c2213300000c51082123c31ea05001504006220c261360200000403296217c32313 [zoU,zo3]
attribute[irreducible]zoU zo3
def zoY:List ARet:=[.cell 6 true 2,.tmp 7]
theorem zz6:zL Z9 zrK (qRo [])=some (zuv.strip,zoY,66):=by kernel_rfl
def zjB:ACode:=Z8 0x800000000001d00073c10621012700ba25f61001012e701225da30c223a221bf6100127601c00b0cd20c130000001d001aed00dd128140329928d12c0102cad2105d2129d34da05004006226d2a13000000014c6a110108222a28130d12c02102c3d2210dc224d11d33db2d222d18cb0d22622ec2240329723110108222a28130d12c02102c3d2210dc224d3d133db2d22622ec2240329723110108222a28130d12c02102c3d2210dc224d3d1d33db2d22403297231107d0026d12813403297230d12c02102c3d2210dc224d3d133db2d23622ec232d18cb0d23110108222a28130d12c02102c3d2210dc224d11d33db2d222d18cb0d2240329723110108222a28130d12c02102c3d2210dc224d3d1d33db2d22403297231107d0026d12813403297230d12c02102c3d2210dc224d11d33db2d232d18cb0d23622ec23501d2240fc22230807c001510620ba02131400000000000b0c120ac70600156315350ad61001205c7010c3116ca3400d610010c0115ca0622b21c1335021006211c32213 []
def zcy:List ARet:=[.tmp 6]
theorem zqv:zL Z9 zli (qRo [3])=some (zjB.strip,zcy,51):=by kernel_rfl
theorem zti:∀l:List Ex,zAf l=l.any zsa
 |[]=>by rw[zAf];rfl
 |x::l=>by rw[zAf,zti l];rfl
theorem zmN:∀(k:Nat)(e:Ex),zbn e<=k->zw Z9 zeG [.agg (encX e)] (·=.bool (zsa e)):=by
 intro k
 induction k with
 |zero=>intro e h;obtain⟨_,_,_,_,l⟩:=e;rw[zbn]at h;omega
 |succ k j=>
 intro e d;obtain⟨op,n,v,w,l⟩:=e;refine fn_x ztC rfl ?_;unfold zmw;have m:=hBig;rw[zbn]at d;rw[zdh,zsa,zti];by_cases b:op=18
 .rw[decide_eq_true b,WD];refine Gw4 @ub @dT @uk @zir.eq_1 ?_;intros;exact bzO
 .rw[decide_eq_false b,WE];have c:PredE (.fn (.func zeG) []) l zsa:=⟨_,_,rfl,by kernel_rfl,rfl,λs g=>j s (by have:=zd7 g;omega)⟩;refine Qi ?_;intros;refine zg (zaH (D:=noR) (zaa l _ _ c) (.cons (zM rfl) (.cons (zhs c) .nil)) (.inl rfl)) ?_;refine Gw1 @zir.eq_1 ?_;intros;exact bzO
theorem zBu:∀(k:Nat)(e:Ex),zbn e<=k->zw Z9 znK [.agg (encX e)] (·=.bool (zsa e)):=by
 intro k
 induction k with
 |zero=>intro e h;obtain⟨_,_,_,_,l⟩:=e;rw[zbn]at h;omega
 |succ k m=>
 intro e j;obtain⟨op,n,v,w,l⟩:=e;refine fn_x zz1 rfl ?_;refine dcU zuj.eq_1 ?_;have o:=hBig;rw[zbn]at j;rw[zdh,zsa,zti];by_cases d:op=18
 .rw[decide_eq_true d,WD];refine Gw3 @ub @dT @zl0.eq_1 ?_;intros;exact bzO
 rw[decide_eq_false d,WE];refine Qi ?_;intros;refine zc (λi:Nat=>([(1,encP 5 [.int .i64 op,.int .u32 n,.int .i64 v,.int .i64 w,encL 5 encX l]),(3,.int .i64 i)],[])) 0 (λi=>i<=l.length/\(l.drop i).any zsa=l.any zsa) (λi=>l.length-i) 0 ⟨Wg _,rfl⟩ (Xo rfl fin5) ?_;rintro i ⟨p,b⟩ wf;refine dcU zpd.eq_1 ?_;by_cases c:i<l.length
 .have q:=zd7 (Wi c);rw[WF c,List.any_cons]at b;refine Gw5 @ub @dT (gmp c) @zam @zab ?_;intros;refine zg (ze (m l[i] (by omega)) (flX rfl)) ?_
  cases g:zsa l[i]with
  |true=>rw[g,WD]at b;rw[<-b];refine Gw1 @zl0.eq_1 ?_;intros;exact bzO
  |false=>rw[g,WE]at b;refine Gw0 ?_;intros;exact⟨i+1,⟨by omega,b⟩,by omega,Xo rfl fin5⟩
 .rw[WN (by omega)]at b;rw[<-b,List.any_nil];refine Qi ?_;intros;unfold zpn;refine Gw2 @ub @zl0.eq_1 ?_;intros;exact bzO
def st0:St:=⟨0,0,0,0,0,0,[],[]⟩
def revP(l:List St)(i x:Nat):St:=if x<i\/l.length-i<=x then l.getD (l.length-1-x) st0 else l.getD x st0
def revL(l:List St)(i:Nat):List St:=(Wq l.length).map (revP l i)
theorem zzN{l}{i}:(revL l i).length=l.length:=by simp[revL]
theorem zpN{l}:revL l 0=l:=by
 apply WG;intro x;unfold revL revP;by_cases b:x<l.length
 .have:¬l.length<=x:=by omega
  simp[b,Ww,this]
 .simp[b]
theorem zzz{l}{i}(h:l.length<=2*i+1):revL l i=l.reverse:=by
 apply WG;intro x;unfold revL revP;by_cases b:x<l.length
 .rw[List.getElem?_reverse b];simp only[WO,List.getElem?_range b,Option.map_some];by_cases c:x<i\/l.length-i<=x
  .rw[if_pos c];rw[Ww,Wx (show l.length-1-x<l.length by omega)];rfl
  .rw[if_neg c,show l.length-1-x=x by omega,Ww,Wx b];rfl
 .simp[b]
theorem zsi{l}{i x}(b:x<l.length):((revL l i).map Xb).getD x []=(revP l i x).cells:=by simp[revL,Ww,b]
theorem zvl{l}{i}(h:2*i+1<l.length):
  (((revL l i).map Xb).set i (revP l i (l.length-1-i)).cells).set (l.length-1-i) (revP l i i).cells=(revL l (i+1)).map Xb:=by
 unfold revL;rw[List.map_map,List.map_map,zfH,zfH];refine List.map_congr_left λx e=>?_
 have g:=List.mem_range.1 e;unfold updF;simp only[Function.comp];by_cases c:x=l.length-1-i
 .rw[if_pos c];unfold revP;rw[if_neg (by omega),if_pos (by omega),show l.length-1-x=i by omega]
 .rw[if_neg c];by_cases b:x=i
  .rw[if_pos b];unfold revP;rw[if_neg (by omega),if_pos (by omega),b]
  .rw[if_neg b];unfold revP;by_cases d:x<i\/l.length-i<=x
   .rw[if_pos d,if_pos (by omega)]
   .rw[if_neg d,if_neg (by omega)]
theorem renS{ρ:Nat->Nat}{l:List St}{g:Nat}:Xi ρ (.row 8 (l.map Xb) g)=.row 8 (l.map Xb) g:=by simp only[Xi];rw[zgm (zK λs=>s.flat)]
theorem ziB(l:List St)(g:Nat)(n:l.length<=1000000):z7 Z9 zbx [.own 0 0 g 0 l.length] [(0,.row 8 (l.map Xb) g)] 1
  (λv H j=>v=.tup []/\H=[(0,.row 8 (l.reverse.map Xb) g)]/\j=1):=by
 refine zS (fn_x zgQ rfl ?_);refine dcU zc6.eq_1 ?_;have k:=hBig;refine Gw0 ?_;intros;refine zc (λi:Nat=>([(0,.own 0 0 g 0 l.length),(2,.int .i64 i),(3,.int .i64 ((l.length:Int)-1-i))],[(0,.row 8 ((revL l i).map Xb) g)])) 1 (λi=>2*i<=l.length+1) (λi=>l.length+1-i) 0 (by omega) (Xa [(0,0,0)] [] rfl rfl rfl (Gin2_1 @zpN) (Gin2_1 @zpN)) ?_;intro i m wf;refine dcU zct.eq_1 ?_;refine Gw0 ?_;intros;(refine zz (λh=>?_) (λh=>?_))<;>(try simp only[dcd]at h)
 .have e:((l.length:Int)-1-i).toNat=l.length-1-i:=by omega
  have b:=zvl (l:=l) (i:=i) (by omega);have c:=zsi (l:=l) (i:=i) (show l.length-1-i<l.length by omega);have d:=zsi (l:=l) (i:=i) (show i<l.length by omega);refine Gw7 e @zzN c d @St.len @St.eight @m9S ?_;intros;rw[b];exact⟨i+1,by omega,by omega,(Xa [(0,0,0)] [] rfl rfl rfl Qn Qn)⟩
 ·(refine Gw1 @zdf.eq_1 ?_;intros);refine⟨.tup [],[(0,.row 8 (l.reverse.map Xb) g)],1,?_,rfl,rfl,rfl⟩;rw[zzz (by omega)];exact(Xa [(0,0,0)] [] rfl rfl rfl Qn Qn)
def stV(l:List St)(γ:Nat):AV:=if l.length=0 then .nilsl else .own 7 0 γ 0 l.length
def stH(l:List St)(γ:Nat):AH:=if l.length=0 then[]else[(7,.row 8 (l.map Xb) γ)]
theorem zzH{γ}:stV [] γ=.nilsl:=rfl
theorem zzn{γ}:stH [] γ=[]:=rfl
theorem zsy{l}{γ}(h:¬l.length=0):stV l γ=.own 7 0 γ 0 l.length:=if_neg h
theorem zsr{l}{γ}(h:¬l.length=0):stH l γ=[(7,.row 8 (l.map Xb) γ)]:=if_neg h
theorem stV1{s}{γ}:stV [s] γ=.own 7 0 γ 0 1:=rfl
theorem stH1{s}{γ}:stH [s] γ=[(7,.row 8 [s.cells] γ)]:=rfl
theorem zp4{l}{s}{γ}:stV (l++[s]) γ=.own 7 0 γ 0 (l.length+1):=by rw[zsy (by simp),Wl,WC]
theorem zpR{l}{s}{γ}:stH (l++[s]) γ=[(7,.row 8 (l.map Xb++[s.cells]) γ)]:=by rw[zsr (by simp),Wr];rfl
theorem zfP{H H2}{σ}{D}{t}{r q g}{l}(b:D r q)(d:H.get r q=some (.row 8 (l.map Xb) g))(c:l.length<=big):Vw H H2 σ D t (.own r q g 0 l.length) (encL 8 Xb l) :=
 zhg b d c λa _ j e=>zcL (zfB (Xp a))
structure RoomB(U:List Int)(l:List Sgn)(at':List Int)(m:Nat)(ss:List St)(a0:MS):Prop where
 sts:∀s∈ss,(∀x∈zjd s,x∈U)/\(∀x∈zlo l at' (zax true) s,x∈U)/\(nub (zlo l at' (zax true) s)).length<=m/\zZ s.e<=300
 ok:∀s∈ss,OkS s
 inU:InU U a0
 b1:a0.1+(ss.length:Int)*1300<=900000
 b2:a0.2.length+ss.length*1300<=900000
 m12:12<=m
 m1000:m<=1000
 arg:∀a,(zaJ l at' a).args.length<=9223372036854775807
theorem QC{p:Prop}(h:p:=by(try simp only[evWB,Nat.reduceBEq,Nat.reduceAdd,Nat.reduceSub,Nat.reduceLeDiff,Nat.reduceLT,implies_true,zd,za,stV1,stH1,List.cons_append,List.nil_append])<;>(repeat' with_reducible apply And.intro)<;>first|(first|exact zb|exact zj|exact zfP rfl rfl (by omega);done)|exact fin6):p:=h
theorem QE{p:Prop}(h:p:=by(try simp only[evWB,Nat.reduceBEq,Nat.reduceAdd,Nat.reduceSub,Nat.reduceLeDiff,Nat.reduceLT,implies_true,zd,za,zzH,zzn,List.append_nil])<;>(repeat' with_reducible apply And.intro)<;>first|(first|exact zb|exact zj|exact zfP rfl rfl (by omega);done)|exact fin6):p:=h
theorem QD{p:Prop}(h:p:=by(try simp only[evWB,Nat.reduceBEq,Nat.reduceAdd,Nat.reduceSub,Nat.reduceLeDiff,Nat.reduceLT,implies_true,zd,za,zp4,zpR,List.cons_append,List.nil_append])<;>(repeat' with_reducible apply And.intro)<;>first|(first|exact zb|exact zj|exact zfP rfl rfl (by omega);done)|exact fin6):p:=h
theorem Qac{c d p:Prop}(a0:c)(b:d)(h:c->d->p:=by intro a0 b;(try simp only[evWB,Nat.reduceBEq,Nat.reduceAdd,Nat.reduceSub,Nat.reduceLeDiff,Nat.reduceLT,implies_true,a0,b])<;>(repeat' with_reducible apply And.intro)<;>first|(first|exact zb|exact zj|exact zfP rfl rfl (by omega);done)|exact fin6):p:=h a0 b
theorem Qad{c d p:Prop}(a0:c)(b:d)(h:c->d->p:=by intro a0 b;(try simp only[evWB,Nat.reduceBEq,Nat.reduceAdd,Nat.reduceSub,Nat.reduceLeDiff,Nat.reduceLT,implies_true,a0,b])<;>(repeat' with_reducible apply And.intro)<;>first|(exact zb;done)|exact fin6):p:=h a0 b
set_option maxHeartbeats 2000000 in
theorem ztq(ba)(ss)(l)(g)(U)(m)(a0)(M:RoomB U l g m ss a0)(hne:ze1 l g (λv=>decide (v∈a0.keys)) ss≠[])(c)(Y)(ht:TabS l g Y):
  z7 Z9 zY [.agg (Xh ⟨ba,ss⟩),.mp 0 0,.mp 1 0,za (zax true)] [(0,.row 3 ((setM a0.1 a0.2).map cm) 0),(1,.row 3 (tabM c Y) 0)] 2
  (λv H nx=>v=.agg (Xh ⟨ba,ze1 l g (λv=>decide (v∈a0.keys)) ss⟩)/\H=[(0,.row 3 ((setM (zib l g (zax true) ss a0).1 (zib l g (zax true) ss a0).2).map cm) 0),(1,.row 3 (tabM c Y) 0)]/\nx=2):=by
 refine zS (fn_x ztk rfl ?_);refine dcU zms.eq_1 ?_;have hB:=hBig;have hlen:ss.length<=700:=by have:=M.b2;omega
 have hbw:=zhy ss (by omega)
 have hbd:∀s,InU U (zib l g (zax true) (ss.drop s) a0)/\(zib l g (zax true) (ss.drop s) a0).1<=900000/\(zib l g (zax true) (ss.drop s) a0).2.length<=900000:=λs=>by
  have hd:(ss.drop s).length<=ss.length:=by rw[WP];exact Nat.sub_le _ _
  have hd2:(ss.drop s).length*1300<=ss.length*1300:=Nat.mul_le_mul_right _ hd;have hd3:((ss.drop s).length:Int)*1300<=(ss.length:Int)*1300:=by omega
  have h1:=M.b1;have S:=M.b2;obtain⟨e1,e2,e3⟩:=zvc M.m1000 (ss:=ss.drop s) (a:=a0) (λx hx=>M.sts x (List.mem_of_mem_drop hx)) M.inU (Int.le_trans (Int.add_le_add_left hd3 _) h1) (Wc (Nat.add_le_add_left hd2 _) S);exact⟨e1,by omega,by omega⟩
 simp only[Xh];have eS:∀x:List Int,(za x).solid=true:=λ_=>rfl
 have eC:∀x:List Int,(za x).cells=[za x]:=λ_=>rfl
 have eF:∀x:List Int,zR [za x]=true:=λ_=>rfl
 refine Gw5 @ub @zC eS eC eF ?_;intros;refine zg (ze hbw rfl) ?_;refine Gw0 ?_;intros
 refine zo9 rfl (λc hc=>by rw[Wn.1 hc];exact .iptr _ _) (zfW ss (by omega)) (λs x s' h=>by cases s with|zero=>cases h|succ s=>cases h;rfl) [(4,.ptr 2 0 0 0 0),(5,.ptr 3 0 0 0 0),(6,.ptr 4 0 0 0 0),(7,encP 1 [za (zax true)]),(8,.ptr 5 0 0 0 0),(9,.ptr 6 0 0 0 0)] (λt:MS×List St×Nat=>([(0,.row 3 ((setM (t.1).1 (t.1).2).map cm) 0),(1,.row 3 (tabM c Y) 0),(2,.row 2 [[.int .u32 ba,encL 8 Xb ss]] 0),(3,.row 1 [[.mp 0 0]] 0),(4,.row 1 [[.mp 1 0]] 0),(5,.row 2 [[.int .u32 0,.nilsl]] 0),(6,.row 1 [[stV t.2.1 t.2.2]] 0)]++stH t.2.1 t.2.2)) 8
  (λt s=>s<=ss.length/\t.1=zib l g (zax true) (ss.drop s) a0/\t.2.1=(ze1 l g (λv=>decide (v∈a0.keys)) (ss.drop s)).reverse) (λt e=>False) (a0,([],0)) (λa s h=>trivial) ⟨Wt _,by rw[WQ];rfl,by rw[WQ];rfl⟩ ?_ ?_ ?_ (λa e h=>h.elim)
 .simp only[zzH,zzn,Wp];exact(Xa [(0,0,0),(1,1,0),(2,2,0),(3,3,0),(4,4,0),(5,5,0),(6,6,0)] [] rfl rfl rfl (Qac @zd @ua) (Qac @zd @ua))
 .rintro⟨a,I,γ⟩ s x s' ⟨h1,S,R⟩ hx wf;clear wf;simp only at h1 S R
  cases s with
  |zero=>cases hx
  |succ s=>
  simp only[zB3,Option.some.injEq,Prod.mk.injEq]at hx;obtain⟨rfl,rfl⟩:=hx;have V:s<ss.length:=by omega
  have hgs:ss.getD s noSt=ss[s]:=by simp[List.getD,V]
  have hdr:ss.drop s=ss[s]::ss.drop (s+1):=WF V;have hnew:zib l g (zax true) (ss.drop s) a0=befT l g (zax true) ss[s] a:=by rw[hdr,S];rfl
  have hsw:ze1 l g (λv=>decide (v∈a0.keys)) (ss.drop s)=if remP ss[s] (bef l g (ss.drop (s+1)) (λv=>decide (v∈a0.keys)))=true then ze1 l g (λv=>decide (v∈a0.keys)) (ss.drop (s+1))else ss[s]::ze1 l g (λv=>decide (v∈a0.keys)) (ss.drop (s+1)):=by rw[hdr];rfl
  obtain⟨q1,q2,q3⟩:=hbd (s+1);rw[<-S]at q1 q2 q3;have hst:=M.sts ss[s] (Wi V);have P:=M.ok ss[s] (Wi V);have hm1:=M.m1000;have A:=zhe a ss[s] l g (zax true) c Y ht q1.ok (by omega) m (by omega) (Wc (zwn true) M.m12) M.m12 M.arg (by omega) (by omega)
  have k:∀(q:Bool),q=remP ss[s] (bef l g (ss.drop (s+1)) (λv=>decide (v∈a0.keys)))->(ze1 l g (λv=>decide (v∈a0.keys)) (ss.drop s)).reverse=if q=true then I else I++[ss[s]]:=λq hq=>by
   rw[hsw,R,<-hq];split
   .rfl
   .rw[List.reverse_cons]
  have K:0<=ss[s].var->bef l g (ss.drop (s+1)) (λv=>decide (v∈a0.keys)) ss[s].var=decide (ss[s].var∈a.keys):=λh0=>by rw[S];exact(zss h0).symm
  have hkl:I.length<=ss.length:=by rw[R,WH];exact Wc zqa (by rw[WP];omega)
  rw[hgs];rw[<-hnew]at A;have u:∀(b':MS)(Q:List St)(X:Nat)(H:AH)(nx:Nat),b'=zib l g (zax true) (ss.drop s) a0->Q=(ze1 l g (λv=>decide (v∈a0.keys)) (ss.drop s)).reverse->Ent 2 [(4,.ptr 2 0 0 0 0),(5,.ptr 3 0 0 0 0),(6,.ptr 4 0 0 0 0),(7,encP 1 [za (zax true)]),(8,.ptr 5 0 0 0 0),(9,.ptr 6 0 0 0 0)] H nx [(4,.ptr 2 0 0 0 0),(5,.ptr 3 0 0 0 0),(6,.ptr 4 0 0 0 0),(7,encP 1 [za (zax true)]),(8,.ptr 5 0 0 0 0),(9,.ptr 6 0 0 0 0)] ([(0,.row 3 ((setM (b').1 (b').2).map cm) 0),(1,.row 3 (tabM c Y) 0),(2,.row 2 [[.int .u32 ba,encL 8 Xb ss]] 0),(3,.row 1 [[.mp 0 0]] 0),(4,.row 1 [[.mp 1 0]] 0),(5,.row 2 [[.int .u32 0,.nilsl]] 0),(6,.row 1 [[stV Q X]] 0)]++stH Q X) 8->∃t:MS×List St×Nat,(s<=ss.length/\t.1=zib l g (zax true) (ss.drop s) a0/\t.2.1=(ze1 l g (λv=>decide (v∈a0.keys)) (ss.drop s)).reverse)/\Ent 2 [(4,.ptr 2 0 0 0 0),(5,.ptr 3 0 0 0 0),(6,.ptr 4 0 0 0 0),(7,encP 1 [za (zax true)]),(8,.ptr 5 0 0 0 0),(9,.ptr 6 0 0 0 0)] H nx [(4,.ptr 2 0 0 0 0),(5,.ptr 3 0 0 0 0),(6,.ptr 4 0 0 0 0),(7,encP 1 [za (zax true)]),(8,.ptr 5 0 0 0 0),(9,.ptr 6 0 0 0 0)] ([(0,.row 3 ((setM (t.1).1 (t.1).2).map cm) 0),(1,.row 3 (tabM c Y) 0),(2,.row 2 [[.int .u32 ba,encL 8 Xb ss]] 0),(3,.row 1 [[.mp 0 0]] 0),(4,.row 1 [[.mp 1 0]] 0),(5,.row 2 [[.int .u32 0,.nilsl]] 0),(6,.row 1 [[stV t.2.1 t.2.2]] 0)]++stH t.2.1 t.2.2) 8:=λb' Q X H nx hb w hE=>⟨(b',Q,X),⟨by omega,hb,w⟩,hE⟩
  unfold remP at k;clear hsw hdr hgs hbw R;generalize D:zib l g (zax true) (ss.drop s) a0=b at A;generalize F:(ze1 l g (λv=>decide (v∈a0.keys)) (ss.drop s)).reverse=kl' at k;generalize bef l g (ss.drop (s+1)) (λv=>decide (v∈a0.keys))=BE at k K;generalize ss[s]=o at A k K P hst;have d:[o.cells.getD 0 .undef,o.cells.getD 1 .undef,o.cells.getD 2 .undef,o.cells.getD 3 .undef,o.cells.getD 4 .undef,o.cells.getD 5 .undef,o.cells.getD 6 .undef,o.cells.getD 7 .undef]=o.cells:=Xn _;have n:o.cells.length=8:=rfl;have L:o.cells.getD 0 .undef=.int .i64 o.op:=rfl;have W:o.cells.getD 1 .undef=.int .i64 o.var:=rfl;have T:o.cells.getD 6 .undef=encL 5 encX o.e:=rfl;simp only[znG,We,Wf];refine dcU zjZ.eq_1 ?_;by_cases B:I.length=0
  .obtain rfl:I=[]:=Wy B;simp only[zzH,zzn,Wp];refine Gw3 @ub d n ?_;intros;refine dcU zf6.eq_1 ?_;by_cases p:o.op=1;case neg=>have w:=k false (by rw[decide_eq_false p];rfl);rw[if_neg (by decide)]at w;refine Gw6 @dT @ub @zC d n L ?_;intros;refine Gw5 @uk @ub @zC d n ?_;intros;refine zx [(0,0,0),(1,1,0)] 2 _ A rfl rfl (Qad @zd @uh) (Qad @zd @uh) ?_;rintro _ _ _ ⟨rfl,rfl,rfl⟩;simp only[bfH];refine Gw2 @renM @zdP ?_;intros;exact u b [o] 0 _ _ D.symm (w.symm.trans F.symm) (Xa [(0,0,0),(1,1,0),(2,2,0),(3,3,0),(4,4,0),(5,5,0),(6,6,0),(7,10,0)] [] rfl rfl rfl QC QC)
   have h0v:=P.var (.inl p);have hlv:=K h0v;rw[hlv]at k;by_cases C:o.var∈a.keys;case pos=>have w:=k false (by rw[decide_eq_true C,decide_eq_true p];simp);rw[if_neg (by decide)]at w;obtain⟨j,hj,hje,hf⟩:=zft (ps:=a.2) C;refine Gw10 @dF @dT @ub @zC d n L W @zd hf ?_;intros;refine Gw5 @uk @ub @zC d n ?_;intros;refine zx [(0,0,0),(1,1,0)] 2 _ A rfl rfl (Qad @zd @uh) (Qad @zd @uh) ?_;rintro _ _ _ ⟨rfl,rfl,rfl⟩;simp only[bfH];refine Gw2 @renM @zdP ?_;intros;exact u b [o] 0 _ _ D.symm (w.symm.trans F.symm) (Xa [(0,0,0),(1,1,0),(2,2,0),(3,3,0),(4,4,0),(5,5,0),(6,6,0),(7,10,0)] [] rfl rfl rfl QC QC)
   have hf:=zeb (ps:=a.2) C;have hen:=P.asg p
   obtain⟨J,Z,N⟩:∃J Z,o.e=J::Z:=by
    cases hl:o.e with
    |nil=>exact absurd (by rw[hl];rfl) hen
    |cons x y=>exact⟨x,y,rfl⟩
   have hhx:zE7 o=J:=by unfold zE7;rw[N];rfl
   have O:=zmN _ J (Wt _);rw[hhx]at k;rw[N]at T;have hx0:((J::Z).map encX).getD 0 []=encX J:=rfl;generalize zsa J=lx at O k
   (repeat first|simp(disch:=try exact dis1) only[evD,Xc,Xd,Xe,dF,dT,fldP,zC,d,n,L,W,T,zd,hf,hx0,Int.toNat_zero,Wm,WR,zam,zab]|with_reducible first|intro _|refine aJ ?_)
   refine zg (ze O (flX rfl)) ?_
   cases lx with
   |true=>have w:=k false (by rw[decide_eq_true p];rfl);rw[if_neg (by decide)]at w;refine Gw4 @ub @zC d n ?_;intros;refine Gw5 @uk @ub @zC d n ?_;intros;refine zx [(0,0,0),(1,1,0)] 2 _ A rfl rfl (Qad @zd @uh) (Qad @zd @uh) ?_;rintro _ _ _ ⟨rfl,rfl,rfl⟩;simp only[bfH];refine Gw2 @renM @zdP ?_;intros;exact u b [o] 0 _ _ D.symm (w.symm.trans F.symm) (Xa [(0,0,0),(1,1,0),(2,2,0),(3,3,0),(4,4,0),(5,5,0),(6,6,0),(7,10,0)] [] rfl rfl rfl QC QC)
   |false=>have w:=k true (by rw[decide_eq_true p,decide_eq_false C];rfl);rw[if_pos rfl]at w;refine Gw4 @ub @zC d n ?_;intros;refine Gw5 @uk @ub @zC d n ?_;intros;refine zx [(0,0,0),(1,1,0)] 2 _ A rfl rfl (Qad @zd @uh) (Qad @zd @uh) ?_;rintro _ _ _ ⟨rfl,rfl,rfl⟩;simp only[bfH];refine Gw2 @renM @zdP ?_;intros;exact u b [] 0 _ _ D.symm (w.symm.trans F.symm) (Xa [(0,0,0),(1,1,0),(2,2,0),(3,3,0),(4,4,0),(5,5,0),(6,6,0)] [] rfl rfl rfl QE QE)
  .rw[zsy B,zsr B];try simp only[We,Wf]
   refine Gw3 @ub d n ?_;intros;refine dcU zf6.eq_1 ?_;by_cases p:o.op=1;case neg=>have w:=k false (by rw[decide_eq_false p];rfl);rw[if_neg (by decide)]at w;refine Gw6 @dT @ub @zC d n L ?_;intros;refine Gw5 @uk @ub @zC d n ?_;intros;refine zx [(0,0,0),(1,1,0)] 2 _ A rfl rfl (Qad @zd @uh) (Qad @zd @uh) ?_;rintro _ _ _ ⟨rfl,rfl,rfl⟩;simp only[bfH];refine Gw2 @renM @zdP ?_;intros;exact u b (I++[o]) (γ+1) _ _ D.symm (w.symm.trans F.symm) (Xa [(0,0,0),(1,1,0),(2,2,0),(3,3,0),(4,4,0),(5,5,0),(6,6,0),(7,7,0)] [] rfl rfl rfl QD QD)
   have h0v:=P.var (.inl p);have hlv:=K h0v;rw[hlv]at k;by_cases C:o.var∈a.keys;case pos=>have w:=k false (by rw[decide_eq_true C,decide_eq_true p];simp);rw[if_neg (by decide)]at w;obtain⟨j,hj,hje,hf⟩:=zft (ps:=a.2) C;refine Gw10 @dF @dT @ub @zC d n L W @zd hf ?_;intros;refine Gw5 @uk @ub @zC d n ?_;intros;refine zx [(0,0,0),(1,1,0)] 2 _ A rfl rfl (Qad @zd @uh) (Qad @zd @uh) ?_;rintro _ _ _ ⟨rfl,rfl,rfl⟩;simp only[bfH];refine Gw2 @renM @zdP ?_;intros;exact u b (I++[o]) (γ+1) _ _ D.symm (w.symm.trans F.symm) (Xa [(0,0,0),(1,1,0),(2,2,0),(3,3,0),(4,4,0),(5,5,0),(6,6,0),(7,7,0)] [] rfl rfl rfl QD QD)
   have hf:=zeb (ps:=a.2) C;have hen:=P.asg p
   obtain⟨J,Z,N⟩:∃J Z,o.e=J::Z:=by
    cases hl:o.e with
    |nil=>exact absurd (by rw[hl];rfl) hen
    |cons x y=>exact⟨x,y,rfl⟩
   have hhx:zE7 o=J:=by unfold zE7;rw[N];rfl
   have O:=zmN _ J (Wt _);rw[hhx]at k;rw[N]at T;have hx0:((J::Z).map encX).getD 0 []=encX J:=rfl;generalize zsa J=lx at O k
   (repeat first|simp(disch:=try exact dis1) only[evD,Xc,Xd,Xe,dF,dT,fldP,zC,d,n,L,W,T,zd,hf,hx0,Int.toNat_zero,Wm,WR,zam,zab]|with_reducible first|intro _|refine aJ ?_)
   refine zg (ze O (flX rfl)) ?_
   cases lx with
   |true=>have w:=k false (by rw[decide_eq_true p];rfl);rw[if_neg (by decide)]at w;refine Gw4 @ub @zC d n ?_;intros;refine Gw5 @uk @ub @zC d n ?_;intros;refine zx [(0,0,0),(1,1,0)] 2 _ A rfl rfl (Qad @zd @uh) (Qad @zd @uh) ?_;rintro _ _ _ ⟨rfl,rfl,rfl⟩;simp only[bfH];refine Gw2 @renM @zdP ?_;intros;exact u b (I++[o]) (γ+1) _ _ D.symm (w.symm.trans F.symm) (Xa [(0,0,0),(1,1,0),(2,2,0),(3,3,0),(4,4,0),(5,5,0),(6,6,0),(7,7,0)] [] rfl rfl rfl QD QD)
   |false=>have w:=k true (by rw[decide_eq_true p,decide_eq_false C];rfl);rw[if_pos rfl]at w;refine Gw4 @ub @zC d n ?_;intros;refine Gw5 @uk @ub @zC d n ?_;intros;refine zx [(0,0,0),(1,1,0)] 2 _ A rfl rfl (Qad @zd @uh) (Qad @zd @uh) ?_;rintro _ _ _ ⟨rfl,rfl,rfl⟩;simp only[bfH];refine Gw2 @renM @zdP ?_;intros;exact u b I γ _ _ D.symm (w.symm.trans F.symm) (Xa [(0,0,0),(1,1,0),(2,2,0),(3,3,0),(4,4,0),(5,5,0),(6,6,0),(7,7,0)] [] rfl rfl rfl (by((try simp only[evWB,Xc,Xd,Xk,Xe,Xl,implies_true,zd,za,zsy B,zsr B,We,Wf])<;>(repeat' with_reducible apply Wa)<;>first|(first|exact zb|exact zj|exact zfP rfl rfl (by omega);done)|exact fin6)) (by((try simp only[evWB,Xc,Xd,Xk,Xe,Xl,implies_true,zd,za,zsy B,zsr B,We,Wf])<;>(repeat' with_reducible apply Wa)<;>first|(first|exact zb|exact zj|exact zfP rfl rfl (by omega);done)|exact fin6)))
 .rintro⟨a,I,γ⟩ s ⟨h1,S,R⟩ hx;have hs0:s=0:=by cases s with|zero=>rfl|succ s=>cases hx
  subst hs0;simp only[List.drop_zero]at S R
  have B:¬I.length=0:=λh=>hne (by
   have:=congrArg List.reverse R;rw[WS,Wy h]at this
   exact this.symm)
  have hrv:I.reverse=ze1 l g (λv=>decide (v∈a0.keys)) ss:=by rw[R,WS]
  have hkl:I.length<=ss.length:=by rw[R,WH];exact zqa
  rw[<-S,<-hrv];simp only[zsy B,zsr B,We,Wf];have hrs:=ziB I γ (by omega);have hrl:I.reverse.length=I.length:=WH;clear R hrv hne;generalize I.reverse=kr at hrs hrl⊢;rw[zsH];refine Gw0 ?_;intros;refine dcU zjf.eq_1 ?_;refine Gw2 @zC @ub ?_;intros;refine zx [(0,7,0)] 1 _ hrs rfl rfl QX QX ?_;rintro _ _ _ ⟨rfl,rfl,rfl⟩;refine Gw6 @renM @zdP @renS @zC @ub @zmC.eq_1 ?_;intros;rw[<-hrl];exact⟨.agg [.int .u32 ba,encL 8 Xb kr],[(0,.row 3 ((setM a.1 a.2).map cm) 0),(1,.row 3 (tabM c Y) 0)],2,(Xa [(0,0,0),(1,1,0)] [7] rfl rfl rfl (Qac @zd @ua) (Qac @zd @ua)),rfl,rfl,rfl⟩
def zdk:ACode:=Z8 0x80003051022124d23c030004032025c524130830226c221131431100ec030021332126c22113 []
def zaB:List ARet:=[.tmp 2]
theorem zgI:zL Z9 zbw (qRo [])=some (zdk.strip,zaB,8):=by kernel_rfl
def zdI:ACode:=Z8 0x800030510221224f83c03000440300000000008085c524130830286c221131431100ec030021332186c22113 []
def zaP:List ARet:=[.tmp 2]
theorem zhS:zL Z9 zbM (qRo [])=some (zdI.strip,zaP,8):=by kernel_rfl
theorem zdT{l:List Ex}:zA (l.map encX):=zK λ_=>zu
theorem zkZ{l:List St}:zA (l.map Xb):=zK Xp
theorem zLz{H H2}{σ}{D}{t}{r q g}{l}(b:D r q)(d:H.get r q=some (.row 5 (l.map encX) g))(c:l.length<=big):Vw H H2 σ D t (.own r q g 0 l.length) (encL 5 encX l) :=
 zhg b d c λ_ _ _ _=>zcL (zfB zu)
theorem Qae{p:Prop}(h:p:=by(try simp only[evWB,Nat.reduceBEq,Nat.reduceAdd,Nat.reduceSub,Nat.reduceLeDiff,Nat.reduceLT,implies_true])<;>(repeat' with_reducible apply And.intro)<;>first|(exact RowV.of_flat zdT;done)|exact fin6):p:=h
theorem zBO(l)(j:l.length<=100000000):z7 Z9 zaS [encL 5 encX l] [] 0 (λv H g=>v=.own 0 0 0 0 l.length/\H=[(0,.row 5 (l.map encX) 0)]/\g=1):=by
 refine zS (fn_x zhj rfl ?_);refine dcU zdA.eq_1 ?_;have h:=hBig;have c:∀H,zec 5 (encL 5 encX l) H=some (l.map encX):=λH=>zfD λ_ _=>zam
 refine Gw1 @zpo ?_;intros
 cases d:(l.length == 0)with
 |true=>
  have e:l=[]:=Wy (by simpa using d);subst e;refine Gw0 ?_;intros;rename_i b;cases b
  ·(refine Gw2 c @zaN.eq_1 ?_;intros);exact⟨.own 0 0 0 0 0,[(0,.row 5 [] 0)],1,(Xf [(0,1,1)] [] rfl Qn Qn),rfl,rfl,rfl⟩
  ·(refine Gw1 @zaN.eq_1 ?_;intros);exact⟨.own 0 0 0 0 0,[(0,.row 5 [] 0)],1,(Xf [(0,1,0)] [] rfl Qn Qn),rfl,rfl,rfl⟩
 |false=>refine Gw2 c @zaN.eq_1 ?_;intros;exact⟨.own 0 0 0 0 l.length,[(0,.row 5 (l.map encX) 0)],1,(Xf [(0,1,1)] [] rfl Qae Qae),rfl,rfl,rfl⟩
theorem zKv{α:Type}{l:List α}{i:Nat}{a:α}(h:l[i]?=some a):l.set i a=l:=by
 apply WG;intro j;rw[List.getElem?_set];split
 .rename_i e;subst e;obtain⟨b,_⟩:=List.getElem?_eq_some_iff.mp h;rw[if_pos b,h]
 .rfl
theorem zlI{α β:Type}{f:α->β}{l:List α}{i:Nat}(h:i<l.length):(l.map f).set i (f l[i])=l.map f:=zKv (by rw[WO,Wx h];rfl)
theorem Qaf{p:Prop}(h:p:=by(try simp only[evWB,Nat.reduceBEq,Nat.reduceAdd,Nat.reduceSub,Nat.reduceLeDiff,Nat.reduceLT,implies_true])<;>(repeat' with_reducible apply And.intro)<;>first|(first|exact RowV.of_flat zdT|exact zb;done)|exact fin6):p:=h
theorem zqo:∀(k:Nat)(e:Ex),zbn e<=k->zbn e<=100000->zw Z9 zex [.agg (encX e)] (·=.agg (encX e)):=by
 intro k
 induction k with
 |zero=>intro e h;obtain⟨_,_,_,_,l⟩:=e;rw[zbn]at h;omega
 |succ k u=>
 intro e q t;obtain⟨op,p,v,w,l⟩:=e;refine fn_x zqg rfl ?_;refine dcU zjQ.eq_1 ?_;have y:=hBig;rw[zbn]at q t;have s:l.length<=100000:=by have:=zpU l;omega
 rw[zdh];refine Gw2 @ub @dT ?_;intros;refine zx [] 0 _ (zBO l (by omega)) rfl rfl Qae Qae ?_;rintro _ _ _ ⟨rfl,rfl,rfl⟩;refine Gw1 @renX ?_;intros;refine zc (λi:Nat=>([(1,.ptr 0 0 0 0 0),(2,.ptr 1 0 0 0 0),(10,.int .i64 l.length),(11,.int .i64 i)],[(0,.row 5 [[.int .i64 op,.int .u32 p,.int .i64 v,.int .i64 w,.own 2 0 0 0 l.length]] 0),(1,.row 5 [[.int .i64 0,.int .u32 0,.int .i64 0,.int .i64 0,.nilsl]] 0),(2,.row 5 (l.map encX) 0)])) 3 (λi=>i<=l.length) (λi=>l.length-i) 0 (by omega) (Xa [(0,0,0),(1,1,0),(2,2,0)] [] rfl rfl rfl Qaf Qaf) ?_;intro i A wf;refine dcU zha.eq_1 ?_;by_cases c:i<l.length
 .have n:(l.map encX).getD i []=encX l[i]:=zk (f:=encX) (d:=[]) c;have o:=u l[i] (by have:=zd7 (Wi c);omega) (by have:=zd7 (Wi c);omega);have g:=zlI (f:=encX) c;generalize l[i]=x at n o g;refine Gw6 @dT n @zam @zab @ub @zC ?_;intros;refine zF (ze o (flX rfl)) ?_;refine Gw5 @dT @zam @zab @ub @zC ?_;intros;rw[g];exact⟨i+1,by omega,by omega,(Xa [(0,0,0),(1,1,0),(2,2,0)] [] rfl rfl rfl Qaf Qaf)⟩
 ·(refine Qa ?_;intros);refine dcU zhH.eq_1 ?_;refine Gw3 @zC @ub @zjU.eq_1 ?_;intros;refine⟨_,.agg _ _ (.int .i64 op::.int .u32 p::.int .i64 v::.int .i64 w::[encL 5 encX l]) rfl (λi a b j m=>?_),rfl⟩
  match i with
  |0=>cases j;cases m;exact .int _ _ _
  |1=>cases j;cases m;exact .int _ _ _
  |2=>cases j;cases m;exact .int _ _ _
  |3=>cases j;cases m;exact .int _ _ _
  |4=>cases j;cases m;exact zLz trivial rfl (by omega)
  |i+5=>cases j
theorem zEf{v}:hasI [] v=false:=rfl
theorem zLM{g}{l}{at'}{U}{S}(h:LiveR U g l at' false S)(b:0<g.blocks.length):srtL (S 0) []=(sigG g l at').args:=by
 unfold srtL;show _=((Wq 12).filter (argP g l at')).map λ(v:Nat)=>(v:Int)
 congr 1;refine Wv λv _=>?_
 unfold srtP argP;rw[zEf,WA,WB];exact h.bit v (WM _) 0 b
theorem res_of{g}{l}{at'}:rsL g l at' (savG g l at')=(sigG g l at').res:=by
 unfold rsL;show _=((Wq 12).filter (resP g l at')).map λ(v:Nat)=>(v:Int)
 congr 1;refine Wv λv _=>?_
 unfold resP;congr 2;by_cases b:(v:Int)∈savG g l at'
 .rw[znv b,decide_eq_true b]
 .rw[znu b,decide_eq_false b]
theorem Qag{b p:Prop}(a0:b)(h:b->p:=by intro a0;(try simp only[evWB,Nat.reduceBEq,Nat.reduceAdd,Nat.reduceSub,Nat.reduceLeDiff,Nat.reduceLT,implies_true,a0])<;>(repeat' with_reducible apply And.intro)<;>first|(first|exact zb|exact zj|exact RowV.of_flat zaF;done)|exact fin8):p:=h a0
theorem Qah{c d p:Prop}(a0:c)(b:d)(h:c->d->p:=by intro a0 b;(try simp only[evWB,Nat.reduceBEq,Nat.reduceAdd,Nat.reduceSub,Nat.reduceLeDiff,Nat.reduceLT,implies_true,a0,b])<;>(repeat' with_reducible apply And.intro)<;>first|(first|exact zb|exact zj|exact RowV.of_flat zaF;done)|exact fin8):p:=h a0 b
theorem Qai{d e g p:Prop}(a0:d)(b:e)(c:g)(h:d->e->g->p:=by intro a0 b c;(try simp only[evWB,Nat.reduceBEq,Nat.reduceAdd,Nat.reduceSub,Nat.reduceLeDiff,Nat.reduceLT,implies_true,a0,b,c])<;>(repeat' with_reducible apply And.intro)<;>first|(first|exact zb|exact zj|exact RowV.of_flat zaF;done)|exact fin8):p:=h a0 b c
theorem zrb(g)(w:fewC g)(x:OkG g)(L:∀b∈g.blocks,∀s∈b.stmts,OkS s)(B:∀b∈g.blocks,endsOk b.stmts=true)(l)(d)(c)(m)(I:TabS l d m)(N:∀a,(zaJ l d a).args.length<=9223372036854775807)(O:∀a,(zaJ l d a).res.length<=9223372036854775807):
  z7 Z9 zg9 [.agg g.cells,.mp 0 0] [(0,.row 3 (tabM c m) 0)] 1
  (λv H P=>v=.agg (sigG g l d).cells/\H=[(0,.row 3 (tabM c m) 0)]/\P=1):=by
 refine zS (fn_x zxu rfl ?_);refine dcU zq7.eq_1 ?_;have U:=hBig;have p:=zs9 g w x L B l d c m I;have k:=zuO g l d false (allU g) 900 c m I (zCV w x L l d false N);have j:=zrB g w x l d c m I O (savG g l d);have e:=x.pos;have q:=w.blocks;have o:=λS (h:LiveR (allU g) g l d false S)=>zLM h e
 rw[res_of]at j;have F:(sigG g l d).cells=[za (sigG g l d).args,za (sigG g l d).res,za (savG g l d)]:=rfl;rw[F];generalize (sigG g l d).args=A at o⊢;generalize (sigG g l d).res=R at j⊢;generalize savG g l d=V at p j⊢;generalize W:g.blocks.length=n at k e q;generalize LiveR (allU g) g l d false=LR at k o;generalize t:g.cells=C at p k j⊢;obtain⟨Q,T⟩:=g;simp only[G.cells]at t;subst t;refine Gw2 @ub @zC ?_;intros;(refine zx [(0,0,0)] 1 _ (p) rfl rfl (Qag @ua) (Qag @ua) ?_);rintro _ _ _ ⟨rfl,rfl,rfl⟩;refine Gw4 @zdP @renE @ub @zC ?_;intros;have J:Tab.to [(0,0,0)] 3 1=4:=rfl;have K:Tab.to [(0,0,0)] 3 2=5:=rfl;have D:(mps 5 n).getD (Int.toNat 0) []=[.mp 5 1]:=ztM e
 (repeat' with_reducible apply Wa)
 all_goals(refine zx [(0,0,0)] 1 _ (k) rfl rfl (Qah @ua @zax.eq_1) (Qah @ua @zax.eq_1) ?_)
 all_goals(rintro _ _ _ ⟨S,rfl,rfl,rfl,y⟩;have M:=o S y;have u:=zrN n 0 e S [];rw[M]at u;simp only[zKJ])
 all_goals(repeat first|simp(disch:=try exact dis1) only[evD,Xc,Xd,Xe,zdP,renP,renF,Xj,J,K,zs6,D,fldP,zC]|with_reducible first|intro _|refine aJ ?_)
 all_goals(repeat' with_reducible apply Wa)
 all_goals try omega
 all_goals(refine zx [(0,5,0)] 1 _ (u) rfl rfl (Qah @ua @uf) (Qah @ua @uf) ?_)
 all_goals(rintro _ _ _ ⟨rfl,rfl,rfl⟩;(refine Gw4 @renF @renE @ub @zC ?_;intros;try with_reducible exact trivial))
 all_goals(repeat' with_reducible apply Wa)
 all_goals try omega
 all_goals(refine zx [(0,0,0)] 1 _ (j) rfl rfl (Qah @ua @uf) (Qah @ua @uf) ?_)
 all_goals(rintro _ _ _ ⟨rfl,rfl,rfl⟩;(refine Gw6 @zdP @renE @ub @zC @ua @zqV.eq_1 ?_;intros;try with_reducible exact trivial))
 all_goals exact⟨.agg [za A,za R,za V],[(0,.row 3 (tabM c m) 0)],1,(Xa [(0,0,0)] [] rfl rfl rfl (Qai @zd @ua @ug) (Qai @zd @ua @ug)),rfl,rfl,rfl⟩
def zsK(g:G):List Int:=zbG (zfF (tgB g.blocks))
theorem zIN{a}{l}:a∈tgB l↔∃b∈l,∃s∈b.stmts,s.op=5/\s.tgt=a:=by unfold tgB tgS;simp only[Wu,List.mem_map,List.mem_filter,decide_eq_true_eq,and_assoc]
theorem zAV{g}:zsK g=ze5 [] (tgB g.blocks):=zul _ _ (zm7 (by simp[Asc])) λx=>by rw[zmz];simp
theorem ztH{g}{a}:a∈zsK g↔∃b∈g.blocks,∃s∈b.stmts,s.op=5/\s.tgt=a:=by rw[zAV,zmz,<-zIN];simp
theorem zDm{g}(b:fewC g):(tgB g.blocks).length<=80:=by have c:=zDF (l:=g.blocks) (n:=10) b.stmts;have d:=b.blocks;omega
theorem zxZ{g}(c:fewC g):(zsK g).length<=80:=by
 have d:(zsK g).Nodup:=by rw[zAV];exact(zm7 (a:=[]) (by simp[Asc])).imp λh e=>by omega
 refine Wc (List.Nodup.length_le_of_subset d λx b=>?_) (zDm c);rw[ztH,<-zIN]at b;exact b
theorem zys{g}{at'}:resG g at'=(zsK g).all λa=>(idxA at' a).isSome:=by
 rw[Bool.eq_iff_iff,Wo];unfold resG;rw[Wo];constructor
 .intro h a o;obtain⟨b,j,s,n,e,rfl⟩:=ztH.1 o;have c:=h b j;unfold resB at c;rw[Wo]at c;have d:=c s n;unfold resS at d;rw[decide_eq_true e]at d
  cases m:idxA at' s.tgt with
  |none=>rw[m]at d;exact absurd d (by decide)
  |some k=>rfl
 .intro h b j;unfold resB;rw[Wo];intro s n;unfold resS;by_cases e:s.op=5
  .have c:=h s.tgt (ztH.2 ⟨b,j,s,n,e,rfl⟩)
   cases m:idxA at' s.tgt with
   |none=>rw[m]at c;cases c
   |some k=>simp
  .rw[decide_eq_false e];rfl
theorem Qk{p q:Prop}(k:q)(h:Im q p:=by(repeat first|simp(disch:=try exact dis1) only[evD,Nat.reduceBEq,Nat.reduceAdd,Nat.reduceLeDiff,zdP,AV.ren,fldP,zC]|((with_reducible apply Im.i);intro _)|((with_reducible apply Im.a);omega));exact Im.r):p:=h k
theorem Qaj{p:Prop}(h:p:=by(try simp only[evWB,Nat.reduceBEq,Nat.reduceAdd,Nat.reduceSub,Nat.reduceLeDiff,Nat.reduceLT,implies_true])<;>(repeat' with_reducible apply And.intro)<;>first|(first|exact zb|exact zj|exact RowV.of_flat (zdg _ _);done)|exact fin6):p:=h
theorem Qak{b p:Prop}(a0:b)(h:b->p:=by intro a0;(try simp only[evWB,Nat.reduceBEq,Nat.reduceAdd,Nat.reduceSub,Nat.reduceLeDiff,Nat.reduceLT,implies_true,a0])<;>(repeat' with_reducible apply And.intro)<;>first|(first|exact zb|exact zj|exact RowV.of_flat (zdg _ _);done)|exact fin6):p:=h a0
theorem zmZ(g)(w:fewC g)(l)(at')(M:at'.length<=1000000)(N:l.length<=1000000):zw Z9 zgq [.agg g.cells,encL 3 Sgn.cells l,encL 1 cW at'] (·=.int .i64 (errC g l.length at')):=by
 refine fn_x zs4 rfl ?_;refine dcU zmR.eq_1 ?_;have T:=hBig;have t:=zmO g (ztx w) (λb D s O=>Wc (w.cases b D s O) (by decide));have o:=znc g (Wc (zDm w) (by decide)) (Wc w.blocks (by decide)) (λb D=>Wc (w.stmts b D) (by decide));have n:=zys (g:=g) (at':=at');have u:=zxZ w;unfold errC;rw[show zbG (zfF (tgB g.blocks))=zsK g from rfl]at o;generalize zsK g=e at o n u;generalize resG g at'=Q at n⊢;generalize zdJ g=L at t⊢;generalize y:g.cells=C at t o⊢;obtain⟨R,S⟩:=g;simp only[G.cells]at y;subst y;by_cases F:l.length=at'.length;case neg=>rw[if_pos (by omega)];refine Gw4 @dT @ub @zC @zd1.eq_1 ?_;intros;exact izO
 rw[if_neg (by omega)];refine Gw3 @dF @ub @zC ?_;intros;refine zg (ze t rfl) ?_;by_cases J:L=0;case neg=>rw[if_pos J];refine Gw2 @dT @zd1.eq_1 ?_;intros;exact izO
 rw[if_neg (λh=>h J)];refine Qa ?_;intros;refine zx [] 0 _ (zdS l at' M F) rfl rfl Qaj Qaj ?_;rintro _ _ _ ⟨rfl,rfl,c,es,rfl,P⟩;refine Qk ?_;intros;refine zg (ze o rfl) ?_;refine Gw0 ?_;intros;refine zc (λi:Nat=>([(8,.mp 0 0),(27,encL 1 cW e),(28,.int .i64 e.length),(29,.int .i64 i)],[(0,.row 3 (tabM c es) 0)])) 1 (λi=>i<=e.length/\(e.take i).all (λa=>(idxA at' a).isSome)=true) (λi=>e.length-i) 0 ⟨Wg _,rfl⟩ (Xf [(0,0,0)] [] rfl (Qak @ua) (Qak @ua)) ?_;rintro i ⟨U,k⟩ wf;clear wf;refine dcU zjs.eq_1 ?_;by_cases p:i<e.length
 case neg=>
  obtain rfl:i=e.length:=by omega
  rw[Wk,<-n]at k;rw[if_pos k];refine Qa ?_;intros;unfold zjV;refine Gw1 @zd1.eq_1 ?_;intros;exact izO
 have B:(e.map cW).getD i []=[.int .u32 e[i]]:=zk (f:=cW) p;have m:=zHm P e[i];have d:=ztN (a:=e[i]) (es:=es) (i:=0);have v:(e.take (i+1)).all (λa=>(idxA at' a).isSome)=(idxA at' e[i]).isSome:=by rw[Wz p,List.all_append,k];simp
 have q:e[i]∈e:=Wi p;generalize e[i]=a at B m d v q;have I:∀l:List AV,(Xm l).cells=l:=λ_=>rfl
 have K:∀l:List AV,(Xm l).solid=true:=λ_=>rfl
 have A:tabM c es=[Xg .i64 c,.undef,.undef]::es.map cT:=rfl
 cases x:atT es a with
 |none=>
  rw[x]at m d;simp only at d;have H:Q≠true:=λh=>by rw[h]at n;have:=Wo.1 n.symm a q;rw[<-m]at this;cases this
  rw[if_neg H]
  (repeat first|simp(disch:=try exact dis1) only[evD,Xc,Xd,Xe,dT,B,tabM,d,I,K,Option.isSome_none,zd1]|with_reducible first|intro _|refine aJ ?_)
  exact izO
 |some j=>
  rw[x]at m d;simp only at d;rw[<-m]at v;generalize (es.getD j ⟨0,zbF,0⟩).sg=V at d
  (repeat first|simp(disch:=try exact dis1) only[evD,Xc,Xd,Xe,dT,B,tabM,d,I,K,Sgn.cells,Option.isSome_some]|with_reducible first|intro _|refine aJ ?_)
  rw[<-A];exact⟨i+1,⟨p,v⟩,by omega,(Xf [(0,0,0)] [] rfl (Qak @ua) (Qak @ua))⟩
theorem zvw{g}(h:zdJ g=0):∀b∈g.blocks,endsOk b.stmts=true:=λb j=>by
 have c:=zvC h;unfold zyn at c;split at c;case isFalse=>cases c
 rename_i e;rw[Wj,Wo]at e;have d:=e.2 b j;unfold zf3 at d;rw[Wj,Wj]at d;exact d.2.1
theorem Qal{p:Prop}(h:p:=by(try simp only[evWB,Nat.reduceBEq,Nat.reduceAdd,Nat.reduceSub,Nat.reduceLeDiff,Nat.reduceLT,implies_true])<;>(repeat' with_reducible apply And.intro)<;>first|(first|exact zb|exact zj|exact RowV.of_flat (zdg _ _)|exact zM rfl;done)|exact fin6):p:=h
theorem zxN(g)(u:fewC g)(l)(d)(I:d.length<=1000000)(w:l.length<=1000000)(M:∀a,(zaJ l d a).args.length<=9223372036854775807)(N:∀a,(zaJ l d a).res.length<=9223372036854775807):
  zw Z9 znZ [.agg g.cells,encL 3 Sgn.cells l,encL 1 cW d] (·=ofG g l d):=by
 refine fn_x zxk rfl ?_;unfold zq6 ofG;conv in Z8 _ _=>reduce
 have S:=hBig;have o:=zmZ g u l d I w;have e:=λ(j:errC g l.length d=0) c v D=>zrb g u (zBj u (zhb j).2.1).1 (zBj u (zhb j).2.1).2 (zvw (zhb j).2.1) l d c v D M N
 have s:=λ(j:errC g l.length d=0)=>(zhb j).1
 generalize errC g l.length d=L at o e s⊢;generalize sigG g l d=F at e⊢;generalize q:g.cells=C at o e⊢;obtain⟨Q,R⟩:=g;simp only[G.cells]at q;subst q;have J:∀l:List AV,(Xm l).cells=l:=λ_=>rfl
 have P:∀l:List AV,(Xm l).solid=true:=λ_=>rfl
 have K:F.cells.length=3:=rfl
 have m:∀(H:AH)(x:AV)(y:Sgn)(n:Int),Frz H x (.agg y.cells)->∃a,Frz H (.tup [x,.int .i64 n]) a/\a=.tup [.agg y.cells,.int .i64 n]:=λH x y n O=>⟨.tup [.agg y.cells,.int .i64 n],.tup _ _ _ rfl (λi a b k p=>match i with
  |0=>by cases k;cases p;exact O
  |1=>by cases k;cases p;exact .int _ _ _
  |i+2=>by cases k),rfl⟩
 have t:∀H:AH,Frz H (.agg [.nilsl,.nilsl,.nilsl]) (.agg zbF.cells):=λH=>.agg _ _ _ rfl (λi a b k p=>match i with
  |0=>by cases k;cases p;exact .nil0 _ _ _
  |1=>by cases k;cases p;exact .nil0 _ _ _
  |2=>by cases k;cases p;exact .nil0 _ _ _
  |i+3=>by cases k)
 refine Gw2 @ub @zC ?_;intros;refine zg (ze o rfl) ?_;by_cases j:L=0;case neg=>rw[if_pos j];refine Gw2 @dT @zme.eq_1 ?_;intros;exact m _ _ zbF _ (t _)
 rw[if_neg (λh=>h j)];have B:∀ρ:Nat->Nat,Xj ρ (.agg F.cells)=.agg F.cells:=λρ=>by simp only[Xj,Sgn.cells,Wm,Ws,renE]
 have e:=e j;have A:=zdS l d I (s j);refine Gw3 @dF @ub @zC ?_;intros
 (repeat' with_reducible apply Wa)
 all_goals(refine zx [] 0 _ A rfl rfl Qal Qal ?_)
 all_goals(rintro _ _ _ ⟨rfl,rfl,c,v,rfl,D⟩;(refine Qk ?_;intros))
 all_goals(refine zx [(0,1,0)] 1 _ (e c v D) rfl rfl Qal Qal ?_)
 all_goals(rintro _ _ _ ⟨rfl,rfl,rfl⟩;(refine Gw6 @zdP B J P K @zme.eq_1 ?_;intros;try with_reducible exact trivial))
 all_goals exact m _ _ _ _ (zM rfl)
def zl9:ACode:=Z8 0x9e110ad2100dd06021000000000003d91c9e1181112301e0e34016e813c0101001115c00c001101123012340a00900a0090dd21c10bd210922002133532701430800dd36bd2113 []
def zlv:ACode:=Z8 0x3c2d73100d21003d06ae221 []
def zlu:ACode:=Z8 0x19096250000001130000cc86211819d8d140110b1030a00805d26130001d47db2815d072403298212203d1d24020061315307014302d3d361d2113 [zl9,zlv]
def zh0:ACode:=Z8 0x27f11003f210006f0627f221000000000000000000000000000ce10c2d102138130ff0ef34021121ff1117f10344439c02124f2bdb0211025c1230211021123021234023c002900211cf2adb0211025c1130211021113021234023c0029002114f2adb0211025c1030211021103021234023c00290023c0022c00bf22200ae1c40df1381444392c21229da01c004c2208f251300004f40af4c28108f00c2403291c2122006f04f240200613753670143005f06f3604f2113 []
def zl6:ACode:=.seq (.seq (.region [(oM 100 11),(oM 101 6),(oN 102 (.call zD [(.t 100),(.t 101),(.c (.fn (.func zeI) []))]))] [6,10,61,62,63,100,101]) (.cond (.t 102) (.seq (.region [(oM 103 11),(oM 2 103),(oK 3 0)] [0,5,11,102,103]) (.ret)) (.skip))) (.region [(oM 104 11),(oM 6 104)] [2,3,11,102,104])
def zh8:ACode:=Z8 0x19096650000001503001f2313300ee310b21144430cf3ac015030ee241300be310a21228da080090be241355 [zh0,zl6]
def zlY:ACode:=.block 4 (.loop zh8)
def zoV:ACode:=Z8 0x190960500000015030ec2313300bc310621144430cf3ac015030bc24130011c002710521103141ac0150308c24130801c304ac0036c22700313145c10001860105c221303c21042117da0303c231330220000036c22213 [zlu,zlY]
attribute[irreducible]zl9 zlv zlu zh0 zl6 zlY
def zkQ:List ARet:=[.tmp 2,.tmp 3]
theorem zv7:zL Z9 zmj (qRo [])=some (zoV.strip,zkQ,105):=by kernel_rfl
def zho:ACode:=Z8 0x17c224106c21009c06fc221080600a407102280021314cc1000186010cc221305c43105211dea0122ac2313007c3cc12814032942122027c24041315307014308c9c367c2113 []
def zhO:ACode:=Z8 0xed1103d21006d060210001d526201ed37a4c1110b103090bd241086008c150780002211314007d31ad210794c0110b1030907d24133004d39d12814032982122024d24041335327014305d6d364d2113 []
def zhk:ACode:=Z8 0x0ce23108e2100be0600f221086004008d686c000221131400fd0c410c012210794c03c0090ce2413009e3100c211029e1403137536701430aebe369e2113 []
def zhl:ACode:=Z8 0x8006e4101e21004e0601f221 []
def zhC:ACode:=Z8 0x1909665ada20000015011eea01225e2413002e37e128140329a2122022e24041355347014303e4e362e2113 [zhk,zhl]
def zhD:ACode:=.seq (.region [(oK 2 0)] [6,43,44,45]) (.ret)
def zhV:ACode:=Z8 0x1909645000d040000015010fd23133 [zhC,zhD]
def zhx:ACode:=Z8 0x1909625000000150301d231339004c41062014c0d2213 [zhO,zhV]
def zjp:ACode:=Z8 0x19096050c2200000150304c23133082c026000221131401c25d001560150301c2313321000022113 [zho,zhx]
attribute[irreducible]zho zhO zhk zhl zhC zhD zhV zhx
def zbI:List ARet:=[.tmp 2]
theorem zqd:zL Z9 zgA (qRo [])=some (zjp.strip,zbI,62):=by kernel_rfl
def zjI:ACode:=Z8 0x8c1102c21005c060210a73201234a4c1a00806c231003c3107211023c14031315307014304c5c363c2113 []
def zjE:ACode:=Z8 0x80600656104240126ea0809c2313 []
def zmu:ACode:=Z8 0x1909605007005000001501101fa01120241215c040030926133811052014c822134116c42113 [zjI,zjE]
attribute[irreducible]zjI zjE
def zmV:List ARet:=[.tmp 4]
theorem ztB:zL Z9 zgr (qRo [])=some (zmu.strip,zmV,23):=by kernel_rfl
def ziQ:ACode:=Z8 0x487310a21001c069c22100000876105218c813c0101001115c0a00800511402c212202fa0a00402c231300b310721102b14031315307014300c1c36b2113 []
def ziU:ACode:=Z8 0x80b00231710421103fa080ac2313 []
def zlx:ACode:=Z8 0x1909605010000015030823133016c01134116c42113 [ziQ,ziU]
attribute[irreducible]ziQ ziU
def zlF:List ARet:=[.tmp 4]
theorem zsp:zL Z9 ziD (qRo [])=some (zlx.strip,zlF,24):=by kernel_rfl
def zmW:ACode:=Z8 0x80000000000000000001029c10421018c701ac204fa31136123311351237d61001011c7013c204fa31136113311351139c610019204fa011061030110510308c132003100021c011c22313 []
def zfG:List ARet:=[.tmp 4]
theorem ztI:zL Z9 zeI (qRo [2,3])=some (zmW.strip,zfG,24):=by kernel_rfl
def zN:ACode:=Z8 0x0bc63105c21008c063d221080c000c01610062113140004c08610c01221dbc00c320b32050ec25130002c750d13814443992132012340a0040ac26130006c4ccb381ac072444398213208c6c34020061315307014307c8c366c2113 []
def zO:ACode:=.seq (.region [(oN 6 (.mov (.c (.bool true))))] [1,2,15,16,17]) (.ret)
def zP:ACode:=Z8 0x1909605750300000150303c2313308b00041006211314000a412c86015040015030a251336110062113 [zN,zO]
attribute[irreducible]zN zO
def zr:List ARet:=[.tmp 6]
theorem zan:zL Z9 zD (qRo [])=some (zP.strip,zr,32):=by kernel_rfl
def zfg:ACode:=Z8 0x18c210b21002c06021008c2024c1024c021147c10001360107c2213000955103216c060150800603c2513000c3105211020c14031315307014301c2c360c2113 []
def zfl:ACode:=Z8 0x6d110fc21002d066d22100ac84106212813c0b00903d241000d3108211020d14031335327014301d2d360d2113 []
def zfj:ACode:=.seq (.region [(oM 35 6),(oM 2 35)] [6,25,26,27,35]) (.ret)
def zfu:ACode:=Z8 0x1909625010000015030dc231330b005361062140225fa060bc2313 [zfl,zfj]
def zg2:ACode:=Z8 0x1909605000000150309231330000001132116c22113 [zfg,zfu]
attribute[irreducible]zfg zfl zfj zfu
def zg0:List ARet:=[.tmp 2]
theorem zmr:zL Z9 zeA (qRo [])=some (zg2.strip,zg0,36):=by kernel_rfl
def zih:ACode:=Z8 0x892c004104210ec221300000000002c1b1002110dc1cc0150300122001812c4c04001108c1cc01164c0300300a1143c10001560103c221300000016810121b16011c1601503001164c030040081330062024c1024c0211451000136040021334116c42113 []
def zeO:List ARet:=[.tmp 4]
theorem zoG:zL Z9 zfo (qRo [])=some (zih.strip,zeO,27):=by kernel_rfl
def zfQ:ACode:=Z8 0x07c43101c21004c06dc22108a0a00510042113fc40000000a5901ac860211021214028002400211021214028002304c222302c2105220021315307014303c4c362c2113 []
def zfI:ACode:=.seq (.region [ Yaa] [0,1,12,13]) (.ret)
def zhE:ACode:=Z8 0x190960505430000015030b231330880031004211314000641a860150400150306251334110042113 [zfQ,zfI]
attribute[irreducible]zfQ zfI
def zcJ:List ARet:=[.tmp 4]
theorem znM:zL Z9 zbR (qRo [])=some (zhE.strip,zcJ,26):=by kernel_rfl
def zI:List AV:=[.int .i64 0]
def cI1(n:Int):List AV:=[.int .i64 n]
theorem zDK{l}{H}:zec 1 (za l) H=some (l.map cI1):=zfD (λ_ _=>rfl)
theorem zyA{H}{b}:xopR .capn [.nilsl] H b=⟨True,True,.int .i64 0,H,b⟩:=rfl
theorem zHs{d b}{z}{k}{n}{H}{c}:xopR (.apz d b z) [.nilsl,.int k n] H c=⟨0<=n/\n*b<=140737488355328/\0<d/\0<b,True,.own c 0 0 0 n.toNat,H.set c 0 (.row d (Wd n.toNat z) 0),c+1⟩:=rfl
theorem zDc{s}{k}{b}{H}{c}:zi0 s .nilsl none (some (.int k b)) H c=⟨(0:Int)=0/\b=0,True,.nilsl,H,c⟩:=rfl
theorem zIG{n}{c}(h:zR c=true):zA (Wd n c):=λd hd=>by rw[List.eq_of_mem_replicate hd];exact h
theorem renZI{ρ}{n g}:Xi ρ (.row 1 (Wd n zI) g)=.row 1 (Wd n zI) g:=by simp only[Xi];rw[zgm (zIG rfl)]
theorem zJ4(n:Nat)(g:n<=100000):z7 Z9 zfo [.nilsl,.int .i64 n] [] 0 (λv H c=>v=.own 0 0 0 0 0/\H=[(0,.row 1 (Wd n zI) 0)]/\c=1):=by
 refine zS (fn_x zoG rfl ?_);refine dcU zih.eq_1 ?_;have e:=hBig;by_cases d:0<n
 .have b:((n:Int)-(0-0)).toNat=n:=by omega
  refine Gw7 @dF @dT @zyA @zHs @zDc b @zeO.eq_1 ?_;intros;exact⟨.own 0 0 0 0 0,[(0,.row 1 (Wd n zI) 0)],1,(Xf [(0,1,0)] [] rfl (Gin2_1 @zI.eq_1) (Gin2_1 @zI.eq_1)),rfl,rfl,rfl⟩
 .obtain rfl:n=0:=by omega
  refine Gw3 @dF @zyA @zeO.eq_1 ?_;intros;exact⟨.own 0 0 0 0 0,[(0,.row 1 (Wd 0 zI) 0)],1,(Xf [] [] rfl Qn Qn),rfl,rfl,rfl⟩
def LLI(A:List (List Int)):List (List AV):=A.map λa=>[za a]
theorem zcK{A}:zA (LLI A):=zK λ_=>rfl
def lenI(A:List (List Int)):Nat:=(A.map List.length).sum
theorem zyO{α}{A:List α}{i:Nat}(h:i<A.length):A.take (i+1)=A.take i++[A[i]]:=by rw[List.take_add_one,Wx h];rfl
theorem zBs(A B):lenI (A++B)=lenI A+lenI B:=by unfold lenI;rw[Wr,List.sum_append]
theorem zx7{A:List (List Int)}{i:Nat}(h:i<A.length):lenI (A.take (i+1))=lenI (A.take i)+A[i].length:=by rw[zyO h,zBs];rfl
theorem zu8{A}(i):lenI (A.take i)<=lenI A:=by
 conv=>rhs;rw[<-List.take_append_drop i A,zBs]
 omega
theorem zyR{A:List (List Int)}{i:Nat}(h:i<A.length):(A.take (i+1)).flatten=(A.take i).flatten++A[i]:=by rw[zyO h,List.flatten_append];simp
theorem zup(A):A.flatten.length=lenI A:=by rw[List.length_flatten];rfl
theorem zFD(A)(F:A.length<=1000)(C:lenI A<=100000):z7 Z9 zeA [.own 0 0 0 0 A.length] [(0,.row 1 (LLI A) 0)] 1 (λv H D=>v=.own 1 0 0 0 A.flatten.length/\H=[(0,.row 1 (LLI A) 0),(1,.row 1 (A.flatten.map cI1) 0)]/\D=2):=by
 refine zS (fn_x zmr rfl ?_);refine dcU zg2.eq_1 ?_;have I:=hBig;have c:(LLI A).length=A.length:=by simp[LLI]
 refine Gw0 ?_;intros;refine zc (λi:Nat=>([(0,.own 0 0 0 0 A.length),(3,.int .i64 (lenI (A.take i):Nat)),(9,.own 0 0 0 0 A.length),(10,.int .i64 A.length),(11,.int .i64 i)],[(0,.row 1 (LLI A) 0)])) 1 (λi=>i<=A.length) (λi=>A.length-i) 0 (Wg _) (Xa [(0,0,0)] [] rfl rfl rfl Qn Qn) ?_;intro i B wf;refine dcU zfg.eq_1 ?_;have u:=zu8 (A:=A) i;by_cases b:i<A.length
 .have t:(LLI A).getD i []=[za A[i]]:=zk b;have q:=zx7 b;have g:=zu8 (A:=A) (i+1);have x:decide (((lenI (A.take i):Nat):Int)+((A[i].length:Nat):Int)<0)=false:=decide_eq_false (by omega);refine Gw5 @dT t c x @ua ?_;intros;refine⟨i+1,by omega,by omega,?_⟩;have p:((lenI (A.take (i+1)):Nat):Int)=((lenI (A.take i):Nat):Int)+((A[i].length:Nat):Int):=by omega
  rw[p];exact(Xa [(0,0,0)] [] rfl rfl rfl Qn Qn)
 ·(refine Qa ?_;intros);refine dcU zfu.eq_1 ?_;obtain rfl:i=A.length:=by omega
  rw[Wk];refine Gw1 c ?_;intros;refine zx [] 0 _ (zJ4 (lenI A) C) rfl rfl Gin1_0 Gin1_0 ?_;rintro _ _ _ ⟨rfl,rfl,rfl⟩;refine Gw2 c @renZI ?_;intros;refine zc (λj:Nat×Nat=>([(6,.own 1 0 0 0 (lenI (A.take j.1))),(25,.own 0 0 0 0 A.length),(26,.int .i64 A.length),(27,.int .i64 j.1)],[(0,.row 1 (LLI A) 0),(1,.row 1 ((A.take j.1).flatten.map cI1++Wd j.2 zI) 0)])) 2 (λj=>j.1<=A.length/\(j.1=0->j.2=lenI A)/\(j.1≠0->j.2=0)) (λj=>A.length-j.1) (0,lenI A) ⟨Wg _,λ_=>rfl,λh=>absurd rfl h⟩ ?_ ?_
  .exact(Xa [(0,0,0),(1,1,0)] [] rfl rfl rfl Qn Qn)
  .rintro⟨i,m⟩ ⟨B,k,o⟩ wf;refine dcU zfl.eq_1 ?_;have u:=zu8 (A:=A) i;simp only at B k o;by_cases b:i<A.length
   .have t:(LLI A).getD i []=[za A[i]]:=zk b;have q:=zx7 b;have g:=zu8 (A:=A) (i+1);have e:((A.take i).flatten.map cI1).length=lenI (A.take i):=by rw[List.length_map,zup]
    have y:((A.take i).flatten.map cI1++Wd m zI).take (lenI (A.take i))=(A.take i).flatten.map cI1:=List.take_left' e;have w:((A.take i).flatten.map cI1++Wd m zI).length=lenI (A.take i)+m:=by rw[Wl,e,List.length_replicate]
    have s:∀H,zec 1 (encL 1 (λn=>[Xg .i64 n]) A[i]) H=some (A[i].map cI1):=λH=>zDK
    have p:((lenI (A.take (i+1)):Nat):Int)=((lenI (A.take i):Nat):Int)+((A[i].length:Nat):Int):=by omega
    have d:(A.take (i+1)).flatten.map cI1++Wd 0 zI=(A.take i).flatten.map cI1++A[i].map cI1:=by rw[zyR b,Wr];simp
    refine Gw7 @dT t c s y w @ua ?_;intros;refine⟨(i+1,0),⟨by simp only;omega,λh=>absurd h (Nat.succ_ne_zero i),λ_=>rfl⟩,by simp only;omega,?_⟩;simp only;rw[d,q];exact(Xa [(0,0,0),(1,1,1)] [] rfl rfl rfl Qn Qn)
   ·(refine Qa ?_;intros);unfold zfj;obtain rfl:i=A.length:=by omega
    obtain rfl:m=0:=by
     by_cases h:A.length=0
     .rw[k h,Wy h];rfl
     .exact o h
    have d:(A.take A.length).flatten.map cI1++Wd 0 zI=A.flatten.map cI1:=by rw[Wk];simp
    rw[d,Wk,<-zup];refine Gw1 @zg0.eq_1 ?_;intros;exact⟨.own 1 0 0 0 A.flatten.length,[(0,.row 1 (LLI A) 0),(1,.row 1 (A.flatten.map cI1) 0)],2,(Xa [(0,0,0),(1,1,0)] [] rfl rfl rfl Qn Qn),rfl,rfl,rfl⟩
theorem renLLI{ρ}{A}{g}:Xi ρ (.row 1 (LLI A) g)=.row 1 (LLI A) g:=by simp only[Xi];rw[zgm zcK]
theorem renC1{ρ:Nat->Nat}{l:List Int}{g:Nat}:Xi ρ (.row 1 (l.map cI1) g)=.row 1 (l.map cI1) g:=by simp only[Xi];rw[zgm (zK λ_=>rfl)]
def unL(a b:List Int):List Int:=((Wq 12).filter λ(v:Nat)=>decide ((v:Int)∈a\/(v:Int)∈b)).map λ(v:Nat)=>(v:Int)
theorem zMb{a b}:srtL (addL (0,[]) (a++b)) []=unL a b:=by
 unfold srtL unL;congr 1;refine Wv λv _=>?_
 unfold srtP;rw[zEf,WA,WB];refine decide_eq_decide.2 ?_;rw[zlM,Wh];simp[MS.keys]
theorem Qam{p:Prop}(h:p:=by(try simp only[evWB,Nat.reduceBEq,Nat.reduceAdd,Nat.reduceSub,Nat.reduceLeDiff,Nat.reduceLT,implies_true])<;>(repeat' with_reducible apply And.intro)<;>first|(first|exact zj|exact RowV.of_flat zcK;done)|exact fin6):p:=h
theorem Qan{b p:Prop}(a0:b)(h:b->p:=by intro a0;(try simp only[evWB,Nat.reduceBEq,Nat.reduceAdd,Nat.reduceSub,Nat.reduceLeDiff,Nat.reduceLT,implies_true,a0])<;>(repeat' with_reducible apply And.intro)<;>first|(first|exact zj|exact RowV.of_flat zcK;done)|exact fin6):p:=h a0
theorem Qao{d e g p:Prop}(a0:d)(b:e)(c:g)(h:d->e->g->p:=by intro a0 b c;(try simp only[evWB,Nat.reduceBEq,Nat.reduceAdd,Nat.reduceSub,Nat.reduceLeDiff,Nat.reduceLT,implies_true,a0,b,c])<;>(repeat' with_reducible apply And.intro)<;>first|(first|exact zj|exact RowV.of_flat zcK;done)|exact fin6):p:=h a0 b c
theorem Qap{d e g j p:Prop}(a0:d)(b:e)(c:g)(a3:j)(h:d->e->g->j->p:=by intro a0 b c a3;(try simp only[evWB,Nat.reduceBEq,Nat.reduceAdd,Nat.reduceSub,Nat.reduceLeDiff,Nat.reduceLT,implies_true,a0,b,c,a3])<;>(repeat' with_reducible apply And.intro)<;>first|(first|exact zj|exact RowV.of_flat zcK;done)|exact fin6):p:=h a0 b c a3
theorem zne(a b)(A:(a++b).length<=10000):zw Z9 zgr [za a,za b] (·=za (unL a b)):=by
 refine fn_x ztB rfl ?_;refine dcU zmu.eq_1 ?_;have D:=hBig;have g:=zFD [a,b] (by simp) (by unfold lenI;simp only[Wm,Ws,List.sum_cons,List.sum_nil];rw[Wl]at A;omega);rw[show[a,b].flatten=a++b by simp]at g;have B:LLI [a,b]=[(za a).cells,(za b).cells]:=rfl;rw[<-zMb];generalize a++b=c at A g⊢;simp only[WL,WI]at g;refine Gw0 ?_;intros;refine⟨⟨⟨rfl,rfl⟩,rfl,rfl,by decide⟩,?_⟩;rw[<-B];refine zx [(0,2,0)] 1 _ g rfl rfl Qam Qam ?_;rintro _ _ _ ⟨rfl,rfl,rfl⟩
 (repeat first|simp(disch:=try exact dis1) only[evD,Xc,Xd,Xe,renLLI,renC1,Xj,show Tab.to [(0,2,0)] 3 1=4 from rfl]|with_reducible intro _|((with_reducible apply Wa);omega))
 refine zc (λi:Nat=>([(5,.mp 0 0),(12,za c),(13,.int .i64 c.length),(14,.int .i64 i)],[(0,.row 3 ((setM (addL (0,[]) (c.take i)).1 (addL (0,[]) (c.take i)).2).map cm) 0)])) 1
  (λi=>i<=c.length) (λi=>c.length-i) 0 (Wg _) (by rw[List.take_zero,show addL (0,[]) []=(0,[])from rfl];exact(Xf [(0,1,0)] [4] rfl (Qan @zd) (Qan @zd))) ?_
 rintro i F wf;clear wf;refine dcU zjI.eq_1 ?_;by_cases h:i<c.length
 .have o:(c.map λn=>[Xg .i64 n]).getD i []=[.int .i64 c[i]]:=zk (f:=λn=>[Xg .i64 n]) h;have e:=zku (s:=(0,[])) h;have k:=zeJ (l:=c.take i) (s:=(0,[]));rw[WJ]at k;have y:=znw (l:=c.take i) zzD (by simp only[WJ];omega) (by simp only[WJ,WI];omega);generalize addL (0,[]) (c.take i)=d at y k e⊢;obtain⟨m,q⟩:=d;have p:=y.top;simp only[WI]at k p;by_cases t:c[i]∈q.map (·.1)
  .obtain⟨j,C,w,v⟩:=zft t;have u:add1 (m,q) c[i]=(m,q):=if_pos t;rw[u]at e;have x:=zsM C w;refine Gw6 @dT o @ua @zd v x ?_;intros;exact⟨i+1,h,by omega,(Xf [(0,0,0)] [] rfl (Qao @zd @ua e) (Qao @zd @ua e))⟩
  .have v:=zeb t;have u:add1 (m,q) c[i]=(m+1,q++[(c[i],m)]):=if_neg t;rw[u]at e;refine Gw5 @dT o @ua @zd v ?_;intros;exact⟨i+1,h,by omega,(Xf [(0,0,0)] [] rfl (Qap @zd @ua e @zgs) (Qap @zd @ua e @zgs))⟩
 .obtain rfl:i=c.length:=by omega
  rw[Wk];generalize addL (0,[]) c=d;refine Qa ?_;intros;refine dcU zjE.eq_1 ?_;refine Gw0 ?_;intros;refine zx [(0,0,0)] 1 _ (zrU d []) rfl rfl (Qan @zd) (Qan @zd) ?_;rintro _ _ _ ⟨rfl,rfl,rfl⟩;refine Gw3 @renM @renE @zmV.eq_1 ?_;intros;exact⟨_,zM rfl,rfl⟩
def cmL(a b:List Int):List Int:=a.filter (hasI b)
theorem QF{p:Prop}(h:p:=by(try simp only[evWB,Nat.reduceBEq,Nat.reduceAdd,Nat.reduceSub,Nat.reduceLeDiff,Nat.reduceLT,implies_true,za,List.length_append,List.length_singleton,List.map_append,List.map_cons,List.map_nil])<;>(repeat' with_reducible apply And.intro)<;>first|(first|exact zj|exact RowV.of_flat zcK;done)|exact fin6):p:=h
theorem Qaq{c d p:Prop}(a0:c)(b:d)(h:c->d->p:=by intro a0 b;(try simp only[evWB,Nat.reduceBEq,Nat.reduceAdd,Nat.reduceSub,Nat.reduceLeDiff,Nat.reduceLT,implies_true,a0,b])<;>(repeat' with_reducible apply And.intro)<;>first|(first|exact zj|exact RowV.of_flat zcK;done)|exact fin6):p:=h a0 b
theorem zsB(a b)(t:a.length<=10000):zw Z9 ziD [za a,za b] (·=za (cmL a b)):=by
 refine fn_x zsp rfl ?_;unfold zlx cmL;conv in Z8 _ _=>reduce
 have q:=hBig;have h:=λx=>zaK b x
 have k:=List.length_filter_le (hasI b) a;generalize o:a.filter (hasI b)=R at k;refine Gw1 @ua ?_;intros;refine zc (λs:Nat×List Int×Nat=>([(1,za b),(5,.own 0 0 s.2.2 0 s.2.1.length),(8,za a),(9,.int .i64 a.length),(10,.int .i64 s.1)],[(0,.row 1 (s.2.1.map λn=>[.int .i64 n]) s.2.2)])) 1 (λs=>s.1<=a.length/\s.2.1.length<=s.1/\s.2.1++(a.drop s.1).filter (hasI b)=R) (λs=>a.length-s.1) (0,[],0) ⟨Wg _,Wt _,o⟩ (Xf [(0,1,0)] [] rfl (Qaq @zd @ua) (Qaq @zd @ua)) ?_;rintro⟨i,out,γ⟩ ⟨p,m,c⟩ wf;simp only at p m c;clear wf o;refine dcU ziQ.eq_1 ?_;by_cases d:i<a.length
 case neg=>
  rw[WN (by omega),List.filter_nil,Wp]at c;subst c;refine Qa ?_;intros;refine dcU ziU.eq_1 ?_;refine Gw0 ?_;intros;refine zx [(0,0,0)] 1 _ (zc7 γ out (by omega)) rfl rfl Qam Qam ?_;rintro _ _ _ ⟨rfl,rfl,rfl⟩
  (repeat first|simp(disch:=try exact dis1) only[evD,Xc,Xd,Xe,zwo,Xj,show Tab.to [(0,0,0)] 1 0=0 from rfl,zlF]|with_reducible intro _|((with_reducible apply Wa);omega))
  exact⟨_,zbv trivial rfl (by omega),rfl⟩
 rw[WF d,List.filter_cons]at c;have e:(a.map λn=>[Xg .i64 n]).getD i []=[.int .i64 a[i]]:=zk (f:=λn=>[Xg .i64 n]) d;have g:=h a[i];generalize a[i]=x at c e g;have em:(out.map λn=>[Xg .i64 n])++[[Xg .i64 x]]=(out++[x]).map λn=>[Xg .i64 n]:=by simp
 cases j:hasI b x with
 |true=>rw[j,if_pos rfl]at c;rw[j]at g;refine Gw3 @dT e @ua ?_;intros;refine zg (ze g rfl) ?_;refine Gw1 em ?_;intros;exact⟨(i+1,out++[x],γ+1),⟨d,by simp;omega,by rw[<-c];simp⟩,by simp only;omega,(Xf [(0,0,0)] [] rfl QF QF)⟩
 |false=>rw[j,if_neg (by decide)]at c;rw[j]at g;refine Gw3 @dT e @ua ?_;intros;refine zg (ze g rfl) ?_;refine Gw0 ?_;intros;exact⟨(i+1,out,γ),⟨d,by simp only;omega,c⟩,by simp only;omega,(Xf [(0,0,0)] [] rfl (Qaq @zd @ua) (Qaq @zd @ua))⟩
end Go.Ab
