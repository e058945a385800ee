/-
  Part 23 of the proof: how the calls of this program run, over values instead of memory, and what each function computes.
-/
import Derived.KernelRfl
import Derived.Test.YtmlhipilbnjhiaaGreatNv
set_option maxRecDepth 100000
set_option linter.unusedVariables false
set_option linter.unusedSimpArgs false
set_option linter.unnecessarySimpa false
set_option linter.unusedSectionVars false
open Go.Ab.Bl renaming cells->Xa
open Go.Ab.AV renaming int->Xb,undef->Xi,nilsl->Xk,ren->Xo,lt0->Xq,flat0->Xs,flat->Xt
open Nat renaming reduceBEq->Xc,reduceAdd->Xd,reduceLeDiff->Xe,reduceSub->Xg,reduceLT->Xh
open Go.Ab.Ent renaming tab->Xf,tabB->Xr,low->Xv
open Go.Ab.AH renaming cutL->Xj,look_put->Xm,put->Xn,look->Xp,over->Xu
open Go.Ab.RowV renaming of_flat->Xl
open Go.Proofs.Tryz renaming prog->Z9
open And renaming intro→Wa
open List renaming replicate→Wc,range→Wd,length_map→We,eq_nil_of_length_eq_zero→Wi,all_eq_true→Wk,take_length→Wl,map_map→Wo,getD_eq_getElem?_getD→Wp,getElem_mem→Wq,map_cons→Wr,length_eq_one_iff→Ws,take_of_length_le→Wt,length_cons→Wu,length_nil→Wv,append_nil→Ww,getElem_map→Wx,map_congr_left→Wy,take_succ_eq_append_getElem→WA,length_take→WB,mem_singleton→WC,length_singleton→WD,length_append→WE,length_filter_le→WF,count_le_length→WG,getD_cons_succ→WH,getD_cons_zero→WI
open Nat renaming le_refl→Wf,blt→Wg,zero_le→Wh,beq→Wm,blt_eq→Wn,le_trans→Wz,lt_of_lt_of_le→WJ
open Bool renaming and_eq_true→Wj
namespace Go.Ab
open Go.RowKit Go.Proofs
def zF(b e lb:Int)(d c:Nat):Prop :=
 1<=b/\b<=12/\((b=3\/b=5\/b=6)->d=1)/\(b=3\/b=5\/b=6\/d=0) /\
 (b=1\/(b=3/\c=2)\/((b=4\/b=5)/\c=1)\/(b=6/\1<=c/\c<=64)\/((b=2\/7<=b)/\c=0)) /\
 (b=2\/b=5\/e=0)/\(b=9\/b=10\/lb=0)/\0<=lb
instance (kd bl lb:Int) (cn ln:Nat):Decidable (zF kd bl lb cn ln):=by unfold zF;infer_instance
def zb5(d b lb:Int)(c:List Ex)(g:Nat):Bool:=decide (zF d b lb c.length g)&&c.all λe=>decide (zji e=0)
theorem noF{d b lb:Int}{c:List Ex}{n:Nat}(h:¬zF d b lb c.length n):false=zb5 d b lb c n:=by unfold zb5;rw[dF h];rfl
theorem yesF{c b lb:Int}{n:Nat}(h:zF c b lb 0 n):zb5 c b lb [] n=true:=by unfold zb5;rw[dT (show zF c b lb ([]:List Ex).length n from h)];rfl
theorem yesX{c b lb:Int}{e:Ex}{n:Nat}(h:zF c b lb 1 n):zb5 c b lb [e] n=decide (zji e=0):=by unfold zb5;rw[dT (show zF c b lb [e].length n from h)];simp
theorem hgX{e:Ex}:[encX e].getD (Int.toNat 0) []=encX e:=rfl
theorem Qd{p q:Prop}(k:q)(h:Im q p:=by(repeat first|simp(disch:=try exact dis1) only[evD,Nat.reduceBEq,Nat.reduceAdd,Nat.reduceLeDiff,dT,dF,fldP,zb]|((with_reducible apply Im.i);intro _)|((with_reducible apply Im.a);omega));exact Im.r):p:=h k
theorem zIT{b d lb:Int}{c:List Ex}{l:List Nd}(h:b=7\/b=8\/b=11\/b=12):zo Z9 zP [.agg [.int .i64 b,.int .i64 d,.int .i64 lb,encL 5 encX c,encL 5 encN l]] (·=.bool (zb5 b d lb c l.length)):=by
 refine fn_x zam rfl ?_;unfold zae;have g:=hBig;refine Qd ?_;intros;by_cases e:c.length=0<;>(refine Qd ?_;intros)
 case neg=>exact bxO (noF (by unfold zF;omega))
 by_cases j:l.length=0<;>(refine Qd ?_;intros)
 case neg=>exact bxO (noF (by unfold zF;omega))
 by_cases k:d=0<;>(refine Qd ?_;intros)
 case neg=>exact bxO (noF (by unfold zF;omega))
 by_cases m:lb=0<;>(refine Qd ?_;intros)
 case neg=>exact bxO (noF (by unfold zF;omega))
 obtain rfl:c=[]:=Wi e;exact bxO ((yesF (by unfold zF;omega)).symm)
theorem zJ3{b d lb:Int}{c:List Ex}{l:List Nd}(h:b=2):zo Z9 zP [.agg [.int .i64 b,.int .i64 d,.int .i64 lb,encL 5 encX c,encL 5 encN l]] (·=.bool (zb5 b d lb c l.length)):=by
 refine fn_x zam rfl ?_;unfold zae;have g:=hBig;refine Qd ?_;intros;by_cases e:c.length=0<;>(refine Qd ?_;intros)
 case neg=>exact bxO (noF (by unfold zF;omega))
 by_cases j:l.length=0<;>(refine Qd ?_;intros)
 case neg=>exact bxO (noF (by unfold zF;omega))
 by_cases k:lb=0<;>(refine Qd ?_;intros)
 case neg=>exact bxO (noF (by unfold zF;omega))
 obtain rfl:c=[]:=Wi e;exact bxO ((yesF (by unfold zF;omega)).symm)
theorem zJf{d b lb:Int}{c:List Ex}{l:List Nd}(h:d=9):zo Z9 zP [.agg [.int .i64 d,.int .i64 b,.int .i64 lb,encL 5 encX c,encL 5 encN l]] (·=.bool (zb5 d b lb c l.length)):=by
 refine fn_x zam rfl ?_;unfold zae;have g:=hBig;refine Qd ?_;intros;by_cases e:c.length=0<;>(refine Qd ?_;intros)
 case neg=>exact bxO (noF (by unfold zF;omega))
 by_cases j:l.length=0<;>(refine Qd ?_;intros)
 case neg=>exact bxO (noF (by unfold zF;omega))
 by_cases k:b=0<;>(refine Qd ?_;intros)
 case neg=>exact bxO (noF (by unfold zF;omega))
 by_cases m:0<=lb<;>(refine Qd ?_;intros)
 case neg=>exact bxO (noF (by unfold zF;omega))
 obtain rfl:c=[]:=Wi e;exact bxO ((yesF (by unfold zF;omega)).symm)
theorem zIa{d b lb:Int}{c:List Ex}{l:List Nd}(h:d=10):zo Z9 zP [.agg [.int .i64 d,.int .i64 b,.int .i64 lb,encL 5 encX c,encL 5 encN l]] (·=.bool (zb5 d b lb c l.length)):=by
 refine fn_x zam rfl ?_;unfold zae;have g:=hBig;refine Qd ?_;intros;by_cases e:c.length=0<;>(refine Qd ?_;intros)
 case neg=>exact bxO (noF (by unfold zF;omega))
 by_cases j:l.length=0<;>(refine Qd ?_;intros)
 case neg=>exact bxO (noF (by unfold zF;omega))
 by_cases k:b=0<;>(refine Qd ?_;intros)
 case neg=>exact bxO (noF (by unfold zF;omega))
 by_cases m:0<=lb<;>(refine Qd ?_;intros)
 case neg=>exact bxO (noF (by unfold zF;omega))
 obtain rfl:c=[]:=Wi e;exact bxO ((yesF (by unfold zF;omega)).symm)
theorem zJG{d b lb:Int}{c:List Ex}{l:List Nd}(h:d=1):zo Z9 zP [.agg [.int .i64 d,.int .i64 b,.int .i64 lb,encL 5 encX c,encL 5 encN l]] (·=.bool (zb5 d b lb c l.length)):=by
 refine fn_x zam rfl ?_;unfold zae;have g:=hBig;refine Qd ?_;intros;by_cases e:c.length=0<;>(refine Qd ?_;intros)
 case neg=>exact bxO (noF (by unfold zF;omega))
 by_cases j:b=0<;>(refine Qd ?_;intros)
 case neg=>exact bxO (noF (by unfold zF;omega))
 by_cases k:lb=0<;>(refine Qd ?_;intros)
 case neg=>exact bxO (noF (by unfold zF;omega))
 obtain rfl:c=[]:=Wi e;exact bxO ((yesF (by unfold zF;omega)).symm)
theorem zKQ{d b lb:Int}{c:List Ex}{l:List Nd}(h:d=4):zo Z9 zP [.agg [.int .i64 d,.int .i64 b,.int .i64 lb,encL 5 encX c,encL 5 encN l]] (·=.bool (zb5 d b lb c l.length)):=by
 refine fn_x zam rfl ?_;unfold zae;have g:=hBig;refine Qd ?_;intros;by_cases e:c.length=0<;>(refine Qd ?_;intros)
 case neg=>exact bxO (noF (by unfold zF;omega))
 by_cases j:l.length=1<;>(refine Qd ?_;intros)
 case neg=>exact bxO (noF (by unfold zF;omega))
 by_cases k:b=0<;>(refine Qd ?_;intros)
 case neg=>exact bxO (noF (by unfold zF;omega))
 by_cases m:lb=0<;>(refine Qd ?_;intros)
 case neg=>exact bxO (noF (by unfold zF;omega))
 obtain rfl:c=[]:=Wi e;exact bxO ((yesF (by unfold zF;omega)).symm)
theorem zJT{d b lb:Int}{c:List Ex}{l:List Nd}(h:d=3):zo Z9 zP [.agg [.int .i64 d,.int .i64 b,.int .i64 lb,encL 5 encX c,encL 5 encN l]] (·=.bool (zb5 d b lb c l.length)):=by
 refine fn_x zam rfl ?_;unfold zae;have j:=hBig;refine Qd ?_;intros;by_cases g:c.length=1;case neg=>refine Qd ?_;intros;exact bxO (noF (by unfold zF;omega))
 obtain⟨e,rfl⟩:∃e,c=[e]:=Ws.1 g;refine Qd ?_;intros;by_cases k:l.length=2<;>(refine Qd ?_;intros)
 case neg=>exact bxO (noF (by unfold zF;omega))
 by_cases m:b=0<;>(refine Qd ?_;intros)
 case neg=>exact bxO (noF (by unfold zF;omega))
 by_cases n:lb=0<;>(refine Qd ?_;intros)
 case neg=>exact bxO (noF (by unfold zF;omega))
 refine Gw4 @hgX @zbl @zba @zb.eq_1 ?_;intros;refine zd (ze (zgQ e) (flX rfl)) ?_;refine Qd ?_;intros;exact bxO ((yesX (by unfold zF;omega)).symm)
theorem zK8{b d lb:Int}{c:List Ex}{l:List Nd}(h:b=5):zo Z9 zP [.agg [.int .i64 b,.int .i64 d,.int .i64 lb,encL 5 encX c,encL 5 encN l]] (·=.bool (zb5 b d lb c l.length)):=by
 refine fn_x zam rfl ?_;unfold zae;have j:=hBig;refine Qd ?_;intros;by_cases g:c.length=1;case neg=>refine Qd ?_;intros;exact bxO (noF (by unfold zF;omega))
 obtain⟨e,rfl⟩:∃e,c=[e]:=Ws.1 g;refine Qd ?_;intros;by_cases k:l.length=1<;>(refine Qd ?_;intros)
 case neg=>exact bxO (noF (by unfold zF;omega))
 by_cases m:lb=0<;>(refine Qd ?_;intros)
 case neg=>exact bxO (noF (by unfold zF;omega))
 refine Gw4 @hgX @zbl @zba @zb.eq_1 ?_;intros;refine zd (ze (zgQ e) (flX rfl)) ?_;refine Qd ?_;intros;exact bxO ((yesX (by unfold zF;omega)).symm)
theorem zKf{d b lb:Int}{c:List Ex}{l:List Nd}(h:d=6):zo Z9 zP [.agg [.int .i64 d,.int .i64 b,.int .i64 lb,encL 5 encX c,encL 5 encN l]] (·=.bool (zb5 d b lb c l.length)):=by
 refine fn_x zam rfl ?_;unfold zae;have j:=hBig;refine Qd ?_;intros;by_cases g:c.length=1;case neg=>refine Qd ?_;intros;exact bxO (noF (by unfold zF;omega))
 obtain⟨e,rfl⟩:∃e,c=[e]:=Ws.1 g;refine Qd ?_;intros;by_cases k:1<=l.length<;>(refine Qd ?_;intros)
 case neg=>exact bxO (noF (by unfold zF;omega))
 by_cases m:l.length<=64<;>(refine Qd ?_;intros)
 case neg=>exact bxO (noF (by unfold zF;omega))
 by_cases n:b=0<;>(refine Qd ?_;intros)
 case neg=>exact bxO (noF (by unfold zF;omega))
 by_cases o:lb=0<;>(refine Qd ?_;intros)
 case neg=>exact bxO (noF (by unfold zF;omega))
 refine Gw4 @hgX @zbl @zba @zb.eq_1 ?_;intros;refine zd (ze (zgQ e) (flX rfl)) ?_;refine Qd ?_;intros;exact bxO ((yesX (by unfold zF;omega)).symm)
theorem zGW{b d lb:Int}{c:List Ex}{l:List Nd}(h:b<1):zo Z9 zP [.agg [.int .i64 b,.int .i64 d,.int .i64 lb,encL 5 encX c,encL 5 encN l]] (·=.bool (zb5 b d lb c l.length)):=by refine fn_x zam rfl ?_;unfold zae;have e:=hBig;refine Qd ?_;intros;exact bxO (noF (by unfold zF;omega))
theorem zIn{b d lb:Int}{c:List Ex}{l:List Nd}(h:12<b):zo Z9 zP [.agg [.int .i64 b,.int .i64 d,.int .i64 lb,encL 5 encX c,encL 5 encN l]] (·=.bool (zb5 b d lb c l.length)):=by refine fn_x zam rfl ?_;unfold zae;have e:=hBig;refine Qd ?_;intros;exact bxO (noF (by unfold zF;omega))
theorem zpI(b e lb:Int)(c:List Ex)(l:List Nd):zo Z9 zP [.agg [.int .i64 b,.int .i64 e,.int .i64 lb,encL 5 encX c,encL 5 encN l]] (·=.bool (zb5 b e lb c l.length)):=by
 rcases Int.lt_or_le b 1 with h|h
 .exact zGW h
 rcases Int.lt_or_le 12 b with g|g
 .exact zIn g
 by_cases j:b=7\/b=8\/b=11\/b=12
 .exact zIT j
 by_cases k:b=2
 .exact zJ3 k
 by_cases m:b=9
 .exact zJf m
 by_cases d:b=10
 .exact zIa d
 by_cases hd:b=1
 .exact zJG hd
 by_cases n:b=4
 .exact zKQ n
 by_cases o:b=3
 .exact zJT o
 by_cases p:b=5
 .exact zK8 p
 exact zKf (by omega)
def St.toS(s:St):Stm:=⟨s.op,s.var,s.width,s.next,s.els,s.tgt,encL 5 encX s.e,s.cases⟩
def Bl.toB(b:Bl):Blk:=⟨b.addr,b.stmts.map St.toS⟩
def G.toG(g:G):Gr:=⟨g.addr,g.blocks.map Bl.toB⟩
theorem zDd{α β:Type}{n:Nat}{f:β->List AV}{h:α->β}{l:List α}:encL n f (l.map h)=encL n (λx=>f (h x)) l:=by unfold encL;rw[We,Wo];rfl
theorem St.toS_cells(s:St):s.toS.cells=s.cells:=rfl
theorem Bl.toB_cells(b:Bl):b.toB.cells=b.cells:=by unfold Bl.toB Blk.cells Xa;simp only[zDd,St.toS_cells]
theorem G.toG_cells(g:G):g.toG.cells=g.cells:=by unfold G.toG Gr.cells G.cells;simp only[zDd,Bl.toB_cells]
theorem Bl.toB_targets(b:Bl):b.toB.targets=zaM b.stmts:=by unfold Blk.targets zaM Bl.toB;simp only[List.getLast?_map];cases b.stmts.getLast? <;> rfl
theorem zdK{g:G}(h:fewG g=true):g.blocks.length<=12/\∀b∈g.blocks,b.stmts.length<=8/\∀s∈b.stmts,s.cases.length<=8/\s.e.length<=3/\zkT s.e=true:=by unfold fewG at h;rw[Wj,decide_eq_true_eq]at h;refine⟨h.2,λb k=>?_⟩;have j:=h.1;rw[Wt (by omega),Wk]at j;have d:=j b k;unfold blOk at d;rw[Wj,decide_eq_true_eq,Wk]at d;refine⟨d.1,λs m=>?_⟩;have c:=d.2 s m;unfold stOk at c;rw[Wj,Wj,decide_eq_true_eq,decide_eq_true_eq]at c;exact⟨c.1,c.2.1,c.2.2⟩
theorem zty{g:G}(h:fewG g=true):fewB g:=⟨(zdK h).1,λb c=>((zdK h).2 b c).1⟩
theorem zwc{g:G}(h:fewG g=true):∀b∈g.blocks,∀s∈b.stmts,s.cases.length<=100000000:=λb c s d=>by have:=(((zdK h).2 b c).2 s d).1;omega
theorem zjm{l:List St}{n:Nat}(c:2<=n)(h:∀s∈l,s.cases.length<=n):(zaM l).length<=n:=by
 unfold zaM
 cases b:l.getLast? with
 |none=>simp
 |some s=>
  have:=h s (List.mem_of_getLast? b);simp only[zfS];split
  .simp only[WD];omega
  .split
   .simp only[Wu,Wv];omega
   .split
    .exact this
    .simp
theorem zry{g:G}(h:fewG g=true):g.toG.small:=by obtain⟨j,d⟩:=zdK h;refine⟨by simp only[G.toG,We];omega,λb c=>?_⟩;simp only[G.toG,List.mem_map]at c;obtain⟨b,c,rfl⟩:=c;rw[Bl.toB_targets];have:=zjm (l:=b.stmts) (n:=8) (by omega) (λs e=>((d b c).2 s e).1);omega
def zlX:Nd->Bool
 |.mk f c l=>zb5 f.kind f.block f.label c l.length
mutual
def zlM:Nd->Bool
 |.mk f c l=>zlV l&&zb5 f.kind f.block f.label c l.length
def zlV:List Nd->Bool
 |[]=>true
 |x::l=>zlM x&&zlV l
end
mutual
theorem zpJ:∀n:Nd,(allN n).all zlX=zlM n
 |
  .mk f c l=>by
  rw[allN,List.all_cons,zsw l,zlM,Bool.and_comm];rfl
theorem zsw:∀l:List Nd,(zag l).all zlX=zlV l
 |[]=>by rw[zag,zlV];rfl
 |x::l=>by rw[zag,List.all_append,zpJ x,zsw l,zlV]
end
theorem zq0(e:Nd):zo Z9 zP [.agg (encN e)] (·=.bool (zlX e)):=by obtain⟨⟨d,b,lb⟩,c,l⟩:=e;rw[zaI];exact zpI d b lb c l
theorem zst(l:List Nd):PredN (.fn (.func zd2) []) l (λx=> !zlX x):=by refine⟨_,_,rfl,by kernel_rfl,rfl,λs b=>?_⟩;refine fn_x zoj rfl ?_;refine dcU zit.eq_1 ?_;refine Gw4 @zx @zt @zC @ub ?_;intros;refine zd (ze (zq0 s) (flN rfl)) ?_;refine Gw1 @ziM.eq_1 ?_;intros;exact bzO
theorem zou(e:Nd)(q:zap e<=1000):z7 Z9 zeC [.agg (encN e)] [] 0 (λv H nx=>v=.own 0 0 0 0 (coll labP e).length/\H=[(0,.row 1 ((coll labP e).map cI) 0)]/\nx=1):=by
 refine zaK (fn_x zpa rfl ?_);refine dcU zjH.eq_1 ?_;have B:=hBig;rw[<-zrM];have o:=zof zDz e;rw[<-zrM]at o;refine Gw3 @zx @zt @zC ?_;intros;refine zd (ze (zfU e q) (flN rfl)) ?_;have p:(allN e).length<=1000:=by rw[zn0];exact q
 generalize allN e=l at *;generalize w:fm labP l=R at o⊢;refine Gw0 ?_;intros;refine zf (λs:Nat×List Int=>([(3,.own 0 0 0 0 s.2.length),(7,encL 5 encN l),(8,.int .i64 l.length),(9,.int .i64 s.1)],[(0,.row 1 (s.2.map cI) 0)])) 1 (λs=>s.1<=l.length/\s.2++fm labP (l.drop s.1)=R) (λs=>l.length-s.1) (0,[]) ⟨Wh _,by simp only[List.drop_zero,List.nil_append];exact w⟩ (Xf [(0,1,0)] [] rfl Qk Qk) ?_;rintro⟨i,x⟩ ⟨z,b⟩ wf;simp only at z b;refine dcU zhf.eq_1 ?_;by_cases h:i<l.length
 .rw[zF4 h]at b;have g:=zg (f:=encN) (d:=[]) h;generalize A:l[i]=y at g b;obtain⟨⟨t,u,lb⟩,c,m⟩:=y;simp only[Nd.f]at b;have k:labP ⟨t,u,lb⟩=if t=10 then[lb]else[]:=rfl
  rw[zaI]at g;simp only at g;have n:=congrArg List.length b;simp only[WE]at n;refine Gw4 @dT g @ui @ug ?_;intros;(refine zi (λj=>?_) (λj=>?_))<;>(try simp only[dcd]at j)
  .rw[if_pos j]at k;rw[k,<-List.append_assoc]at b;refine Gw0 ?_;intros;exact⟨(i+1,x++[lb]),⟨by simp only;omega,b⟩,by simp only;omega,(Xf [(0,0,1)] [] rfl (Gin2_6 @m9A @m9P @ui @ug @m9C @m9N) (Gin2_6 @m9A @m9P @ui @ug @m9C @m9N))⟩
  .rw[if_neg j]at k;rw[k,List.nil_append]at b;refine Gw0 ?_;intros;exact⟨(i+1,x),⟨by simp only;omega,b⟩,by simp only;omega,(Xf [(0,0,0)] [] rfl Qk Qk)⟩
 .rw[List.drop_of_length_le (by omega),zDE,Ww]at b;subst b;refine Gw1 @dF ?_;intros;unfold zhd;refine Gw1 @zju.eq_1 ?_;intros;exact⟨.own 0 0 0 0 x.length,[(0,.row 1 (x.map cI) 0)],1,(Xf [(0,0,0)] [] rfl Qk Qk),rfl,rfl,rfl⟩
def st0:St:=⟨0,0,0,0,0,0,[],[]⟩
def blG(g:G)(k:Nat):Bl:=g.blocks.getD k ⟨0,[]⟩
def zhS(g:G)(k:Nat):St:=(blG g k).stmts.getLast?.getD st0
def oneG(g:G)(k:Nat):Bool:=decide ((blG g k).stmts.length=1)
abbrev eG(g:G):Dm.Adj:=g.toG.E
structure OkB(g:G):Prop where
 small:g.toG.small
 pos:0<g.blocks.length
 ne:∀b∈g.blocks,b.stmts≠[]
 tg:∀b∈g.blocks,∀t∈zaM b.stmts,0<=t/\t<g.blocks.length
 cond:∀b∈g.blocks,∀s∈b.stmts.getLast?,s.op=7\/s.op=8->∃e,s.e=[e]/\zeQ e<=100000
 cases:∀b∈g.blocks,∀s∈b.stmts,s.cases.length<=1000
 stm:∀b∈g.blocks,b.stmts.length<=100000
section
variable {g:G}
theorem zhL:(eG g).length=g.blocks.length:=by rw[Gr.E_len];simp[G.toG]
theorem zrh{k:Nat}(h:k<g.blocks.length):blG g k=g.blocks[k]:=by simp[blG,Wp,h]
theorem zfY{k:Nat}(h:k<g.blocks.length):blG g k∈g.blocks:=by rw[zrh h];exact Wq h
theorem zs0{l:List St}:zaM l=zfS (l.getLast?.getD st0):=by unfold zaM;cases l.getLast? <;> rfl
theorem zGw(h:OkB g){k:Nat}(b:k<g.blocks.length):zaM (blG g k).stmts=(Dm.suc (eG g) k).map λ(t:Nat)=>(t:Int):=by
 have d:=h.tg _ (zfY b)
 have e:Dm.suc (eG g) k=(zaM (blG g k).stmts).map Int.toNat:=by
  show(Gr.E g.toG).getD k []=_;unfold Gr.E;have m:k<g.toG.blocks.length:=by simp only[G.toG,We];exact b
  rw[zg m];have j:(g.toG.blocks[k]).targets=zaM (blG g k).stmts:=by rw[zrh b];simp only[G.toG,Wx];exact Bl.toB_targets _
  rw[j,List.filter_eq_self.2];intro t c;have:=d t c;unfold Dm.edgeOk;simp only[G.toG,We,Wj,decide_eq_true_eq];exact this
 rw[e,Wo];conv=>lhs;rw[<-List.map_id (zaM (blG g k).stmts)]
 refine Wy λt c=>?_
 have:=d t c;simp only[id,Function.comp];omega
theorem zac(h:OkB g):EdgeOk (eG g) (zhS g):=by refine⟨Gr.E_ok _,by rw[zhL];exact h.pos,λk b=>?_⟩;rw[zhL]at b;rw[<-zGw h b,zs0];rfl
theorem zKP(h:OkB g)(k:Nat):(Dm.suc (eG g) k).length<=1000:=by
 by_cases c:k<g.blocks.length
 .have e:=zGw h c;have b:=congrArg List.length e;rw[We]at b;rw[<-b];exact zjm (by omega) (λs d=>h.cases _ (zfY c) s d)
 .unfold Dm.suc;rw[Wp,List.getElem?_eq_none (by rw[zhL];omega)];exact Wh _
theorem zxB(h:OkB g){k:Nat}:(zdw (eG g) k).length<=g.blocks.length:=by unfold zdw;refine Wz (WF _ _) ?_;exact zqV (Dm.rpo (zac h).ok (zac h).pos).nd λx b=>by have:=zen (zac h) b;rwa [zhL]at this
theorem zFO(h:OkB g):(ordE (eG g)).length<=g.blocks.length:=zqV (Dm.rpo (zac h).ok (zac h).pos).nd λx b=>by have:=zen (zac h) b;rwa [zhL]at this
end
noncomputable def cBo(E:Dm.Adj)(p:Nat×Nat):List AV:=[.int .i64 (p.1:Int),zc (zgl E p.1),.int .i64 (p.2:Int)]
noncomputable def boM(E:Dm.Adj)(l:List Nat):List (List AV):=[.int .i64 (l.length:Int),.undef,.undef]::l.zipIdx.map (cBo E)
theorem zs6{E:Dm.Adj}{k:Nat}:∀ {l:List (Nat×Nat)}{i:Nat},(k∉l.map (·.1)->zfp (.int .i64 (k:Int)) (l.map (cBo E)) i=some none)/\(k∈l.map (·.1)->∃j,zfp (.int .i64 (k:Int)) (l.map (cBo E)) i=some (some (j,zc (zgl E k))))
 |[],i=>⟨λ_=>rfl,λh=>by cases h⟩
 |
  p::l,i=>by
  obtain⟨g,m⟩:=zs6 (E:=E) (k:=k) (l:=l) (i:=i+1);by_cases h:k=p.1
  .refine⟨λc=>absurd (by simp[h]) c,λ_=>⟨i,?_⟩⟩;subst h;simp only[Wr,cBo,zfp,zxg,if_true,decide_true]
  .have d:¬(k:Int)=(p.1:Int):=by omega
   have e:zfp (.int .i64 (k:Int)) ((p::l).map (cBo E)) i=zfp (.int .i64 (k:Int)) (l.map (cBo E)) (i+1):=by simp only[Wr,cBo,zfp,zxg,if_true,decide_eq_false d]
   rw[e,Wr];refine⟨λc=>g λb=>c (List.mem_cons_of_mem _ b),λb=>m ?_⟩;rcases List.mem_cons.1 b with b|b
   .exact absurd b h
   .exact b
theorem zKe{E:Dm.Adj}{l:List Nat}{a:Nat}:boM E (l++[a])=[.int .i64 ((l.length:Int)+1),.undef,.undef]::(l.zipIdx.map (cBo E)++[[.int .i64 (a:Int),zc (zgl E a),.int .i64 (l.length:Int)]]):=by unfold boM;rw[List.zipIdx_append,List.map_append,WE,WD];simp[cBo]
theorem zQ{E:Dm.Adj}{l:List Nat}:zy (boM E l):=zaz rfl (zU λ_=>rfl)
noncomputable def hdL(E:Dm.Adj):List Nat:=(ordE E).filter (zoB E)
noncomputable def bldH(g:G)(T:AH):AH :=
 (0,.row 5 [[.int .u32 g.addr,encL 2 Xa g.blocks,Dm.encNN ((Wd g.blocks.length).map (zdw (eG g))),zc ((Wd g.blocks.length).map (cntE (eG g))),.mp 1 0]] 0)::(1,.row 3 (boM (eG g) (hdL (eG g))) 0)::T
def zfF:ACode:=Z8 0x80000095717881182016c8401001160150800103c271300000000400b1052110111301224040011011130120301104c03062a130440300000000008942113 []
def zfJ:List ARet:=[.cell 4 true 8]
theorem zkQ:z6 Z9 zce (qRo [])=some (zfF.strip,zfJ,21):=by kernel_rfl
def zks:ACode:=Z8 0x84320417381632021300000606211816103011000011403005114052000156015030031331100000039047c32213 []
def zgu:List ARet:=[.cell 4 true 3]
theorem zqC:z6 Z9 zbG (qRo [])=some (zks.strip,zgu,13):=by kernel_rfl
def zeb:ACode:=Z8 0x2d110a21001c062d22100041c76104211d813c0101001115c0a0020ec25100001c7610521dc813c0101001115c0a0080051140000002c7100176011012140a00110113301104c0302c281300b310721102b14031315307014300c1c36b2113 []
def zeg:ACode:=Z8 0x808c007067d002042800703d2413 []
def ze7:ACode:=Z8 0x1909605110000015040823133016c016c42213 [zeb,zeg]
attribute[irreducible]zeb zeg
def ze6:List ARet:=[.tmp 4,.tmp 5]
theorem zj4:z6 Z9 zbb (qRo [])=some (ze7.strip,ze6,33):=by kernel_rfl
def zgb:ACode:=Z8 0x805fc141b581112a001024400000059c0400313084fc131b5817001014400000059c6d22131400063c76101d215d760110a1230402d2513843c5141b5818001014400000059c0d22131400065c510bc21fc760110a113040cc25138495141b58140120faac2213140008806105c219c760110a1030406c251380003150081b581124c30ea0a320400301c251314007241092122cea040050a2413053314400000059061c72213 []
def zaS:List ARet:=[.cell 8 true 5]
theorem zlj:z6 Z9 zct (qRo [7])=some (zgb.strip,zaS,37):=by kernel_rfl
def zdH:ACode:=Z8 0x800002000091858112a944dfa063205103004106130440000005952113 []
def zdN:List ARet:=[.cell 5 true 5]
theorem zhk:z6 Z9 zw (qRo [])=some (zdH.strip,zdN,11):=by kernel_rfl
def zcP:List AOper:=[(oF 28 6 1 9),(oL 29 28),(oN 30 (.idx 5 (.t 29) (.c (.int .i64 0)))),(oA 31 5 30),(oN 32 (.callq za1 [(.t 31)])),(oN 33 (.rbuildSl 5 1 [.int .i64 0,.int .u32 0,.int .i64 0,.int .i64 0,.nilsl] [(0,(.t 32))])),(oM 34 10),(oF 35 3 1 9),(oL 36 35),(oN 37 (.callv (.t 34) [(.t 36)])),(oM 38 10),(oF 39 4 1 9),(oL 40 39),(oN 41 (.callv (.t 38) [(.t 40)])),(oN 42 (.rbuildSl 5 2 [.int .i64 0,.int .i64 0,.int .i64 0,.nilsl,.nilsl] [(0,(.t 37)),(1,(.t 41))])),(oN 43 (.build [.int .i64 0,.int .i64 0,.int .i64 0,.nilsl,.nilsl] [(0,1,(.c (.int .i64 3))),(3,1,(.t 33)),(4,1,(.t 42))])),(oS 5 8 43)]
def zfz:List (List Nat):=[[],[0],[1],[2],[3],[4],[],[],[7],[6,8,4],[],[],[11],[10,12,9],[9,13],[5,14],[15,13,0,1,2,3,4,5,6,7,8,9,10,11,12,13,14,15]]
def zcY:List Nat:=[9,13,16]
def zgy:List (List Nat):=[[],[0],[0,1],[0,1,2],[0,1,2,3],[0,1,2,3,4],[],[],[7],[0,1,2,3,4,6,7,8],[],[],[11],[0,1,2,3,4,6,7,8,9,10,11,12],[0,1,2,3,4,6,7,8,9,10,11,12,13],[0,1,2,3,4,5,6,7,8,9,10,11,12,13,14],[0,1,2,3,4,5,6,7,8,9,10,11,12,13,14,15]]
def zgi:List (List Nat):=[[],[9],[9,13],[9,13,16]]
def zcF:Plan:=[(0,[],[]),(1,[],[]),(2,[],[]),(3,[],[]),(4,[],[]),(5,[],[]),(6,[],[]),(7,[],[]),(8,[],[]),(9,[],[9]),(10,[],[]),(11,[],[]),(12,[],[]),(12,[9],[9]),(13,[9],[9,13]),(14,[9,13],[9,13]),(15,[9,13],[9,13]),(16,[9,13],[9,13,16])]
def zdr:ACode:=Z8 0x08f110ce2100fe0608f22100000002e1c911102118132c14302104f0cf53c0307f01440000005158c05f2203f101f22112bc0311102118132c14302104f0cf53c03101440000005158c0206f105fbc04f2303f101f234c0021c002f222c14300f22200de3101c21102de1403132531701430eefe36de2113 []
def zdt:ACode:=Z8 0x80c00ed0a61b5812c5209f2213 []
def zdu:ACode:=Z8 0x820af21b5811c001014400000059c0df2213 []
def zee:ACode:=.seq (.region [(oN 4 (.box (.t 0))),(oN 6 (.rbox (.t 2))),(oN 7 (.rbox (.t 3))),(oN 8 (.alloc [.int .i64 0,.int .i64 0,.int .i64 0,.nilsl,.nilsl]))] [0,2,3]) (.seq (.region [(oL 14 4),(oM 15 1),(oN 16 (.call zce [(.t 14),(.t 15)])),(oN 9 (.alloc [.int .i64 0,.int .i64 0,.int .i64 0,.int .i64 0,.int .i64 0,.int .u32 0,.nilsl,.nilsl])),(oS 8 9 16)] [1,14,15,16]) (.seq (.region [(oN 17 (.mkfn (.func zw) [(.t 4),(.t 6),(.t 7)])),(oM 10 17)] [4,6,7,17]) (.seq (.seq (.region [(oF 18 0 1 9),(oL 19 18)] [18]) (.block 0 (.seq (.region [(oC 21 .eql 19 6),(oM 20 21)] [21]) (.cond (.t 20) (.seq (.region [(oM 22 10),(oF 23 3 1 9),(oL 24 23),(oN 25 (.callv (.t 22) [(.t 24)])),(oS 5 8 25)] [9,10,19,20,22,23,24,25]) (.ret)) (.seq (.region [(oC 27 .eql 19 7),(oM 26 27)] [20,27]) (.cond (.t 26) (.seq (.draw (zfv zcP zfz 17 (Wc 17 false)) [9,10,19,26,28,29,30,31,32,33,34,35,36,37,38,39,40,41,42,43]) (.ret)) (.seq (.region [(oC 45 .eql 19 8),(oM 44 45)] [26,45]) (.cond (.t 44) (.seq (.region [(oF 46 6 1 9),(oL 47 46),(oN 48 (.idx 5 (.t 47) (.c (.int .i64 0)))),(oA 49 5 48),(oN 50 (.call za1 [(.t 49)])),(oN 51 (.rbuildSl 5 1 [.int .i64 0,.int .u32 0,.int .i64 0,.int .i64 0,.nilsl] [(0,(.t 50))])),(oN 52 (.build [.int .i64 0,.int .i64 0,.int .i64 0,.nilsl,.nilsl] [(0,1,(.c (.int .i64 6))),(3,1,(.t 51))])),(oN 11 (.alloc [.int .i64 0,.int .i64 0,.int .i64 0,.nilsl,.nilsl])),(oS 5 11 52)] [19,44,46,47,48,49,50,51,52]) (.seq (.seq (.region [(oF 53 7 1 9),(oL 54 53),(oE 55 54),(oK 56 0)] [9,53]) (.block 1 (.loop zdr))) (zdt))) (.seq (.region [(oC 71 .eql 19 9),(oM 70 71)] [9,10,19,44,71]) (.cond (.t 70) (.seq (.region [(oN 72 (.build [.int .i64 0,.int .i64 0,.int .i64 0,.nilsl,.nilsl] [(0,1,(.c (.int .i64 11)))])),(oS 5 8 72)] [70,72]) (.ret)) (.skip))))))))))) (zdu))))
def zas:List ARet:=[.cell 8 true 5]
theorem zie:z6 Z9 zZ (qRo [6,7,33,42,51,65])=some (zee.strip,zas,74):=by kernel_rfl
def zec:ACode:=Z8 0x9d1101c21004c069d22100000060c008b107215d0cf53c0101440000005158c0126d30ea01c3200c00300a008100000002c88211811c10301101fc1401001060b0040071140007c41bc3601504001001060b07c251336c19c138100000039a28326c23130002c48c006c0821104c2c14020051315307014303c4c362c2113 []
def zd9:ACode:=Z8 0x8cc003130081062a0ad2213 []
def ze4:ACode:=Z8 0x190960500000015040b23133056c011332256c051c52213 [zec,zd9]
attribute[irreducible]zec zd9
def zfc:List ARet:=[.tmp 6]
theorem zj3:z6 Z9 zak (qRo [5,35])=some (ze4.strip,zfc,39):=by kernel_rfl
def zex:ACode:=Z8 0x02f1102d21005d0602f2210004ad2c6100c2101f813c0101001115c05c003c0ee2510000ad2c610b21de813c0101001115c05c002c00511400000000000000ac3c4c101ed701202e713f61001863113121435c03113113331104c3301af610300017631532c013f610010ad24c130006d4103c210c0122cea05c00606d2513003d3102c211023d14031315307014304d5d363d2113 []
def zhj:List AOper:=[(oA 146 5 7),(oA 147 5 21),(oN 148 (.buildSl 5 2 [.int .i64 0,.int .i64 0,.int .i64 0,.nilsl,.nilsl] [(0,(.t 146)),(1,(.t 147))])),(oM 149 0),(oM 150 11),(oA 151 3 9),(oN 152 (.call zak [(.t 149),(.t 150),(.t 151)])),(oN 153 (.append 5 72 (.t 148) (.t 152))),(oN 154 (.call zah [(.t 153)])),(oS 5 10 154)]
def zgZ:List (List Nat):=[[],[],[0,1],[],[],[],[3,4,5],[2,6,6],[7,7],[8,8,0,1,2,3,4,5,6,7,8]]
def zcw:ACode:=.seq (.draw (zfv zhj zgZ 10 (Wc 10 false)) [0,1,7,9,11,19,20,21,132,146,147,148,149,150,151,152,153,154]) (.ret)
def zcy:ACode:=.seq (.region [(oM 92 1),(oN 93 (.build [.int .i64 0,.int .i64 0,.int .i64 0,.nilsl,.nilsl] [(0,1,(.c (.int .i64 2))),(1,1,(.t 92))])),(oA 94 5 19),(oN 95 (.buildSl 5 2 [.int .i64 0,.int .i64 0,.int .i64 0,.nilsl,.nilsl] [(0,(.t 93)),(1,(.t 94))])),(oM 96 20),(oN 97 (.append 5 72 (.t 95) (.t 96))),(oN 98 (.call zah [(.t 97)])),(oN 99 (.buildSl 5 1 [.int .i64 0,.int .i64 0,.int .i64 0,.nilsl,.nilsl] [(0,(.t 98))])),(oN 100 (.build [.int .i64 0,.int .i64 0,.int .i64 0,.nilsl,.nilsl] [(0,1,(.c (.int .i64 4))),(4,1,(.t 99))])),(oN 21 (.alloc [.int .i64 0,.int .i64 0,.int .i64 0,.nilsl,.nilsl])),(oS 5 21 100)] [92,93,94,95,96,97,98,99,100]) (.seq (.seq (.region [(oM 101 0),(oX 102 101),(oF 103 0 2 102),(oF 104 1 1 103),(oL 105 104),(oM 106 1),(oI 107 2 105 106),(oF 108 1 1 107),(oL 109 108),(oE 110 109),(oC 111 .eql 110 1),(oM 112 111),(oG 113 112 true (.fldaddr 0 1 (.t 19))),(oG 114 112 true (.load false 1 (.t 113))),(oG 115 112 true (.bin .eql (.t 114) (.c (.int .i64 3)))),(oN 116 (.pick (.t 112) (.t 115) (.c (.bool false)))),(oM 117 116),(oG 118 117 true (.fldaddr 4 1 (.t 19))),(oG 119 117 true (.load false 1 (.t 118))),(oG 120 117 true (.idx 5 (.t 119) (.c (.int .i64 1)))),(oG 121 117 true (.fldaddr 0 1 (.t 120))),(oG 122 117 true (.load false 1 (.t 121))),(oG 123 117 true (.bin .eql (.t 122) (.c (.int .i64 7)))),(oN 124 (.pick (.t 117) (.t 123) (.c (.bool false)))),(oM 125 124),(oG 126 125 true (.fldaddr 4 1 (.t 19))),(oG 127 125 true (.load false 1 (.t 126))),(oG 128 125 true (.idx 5 (.t 127) (.c (.int .i64 0)))),(oG 129 125 true (.fldaddr 0 1 (.t 128))),(oG 130 125 true (.load false 1 (.t 129))),(oG 131 125 true (.bin .neq (.t 130) (.c (.int .i64 7)))),(oN 132 (.pick (.t 125) (.t 131) (.c (.bool false))))] [101,102,103,104,105,106,107,108,109,110,111,112,113,114,115,116,117,118,119,120,121,122,123,124,125,126,127,128,129,130,131]) (.cond (.t 132) (.draw (.step (oM 133 1) (.step (oF 134 3 1 19) (.step (oF 136 4 1 19) (.step (oM 141 20) (.alt (oL 135 134) (.alt (oL 137 136) (.alt (oN 138 (.idx 5 (.t 137) (.c (.int .i64 0)))) (.alt (oA 139 5 138) (.alt Yai (.alt Yag (.alt (oN 143 (.call zah [(.t 142)])) (.alt Yad (.step Yae (.alt (oS 5 21 145) (.done) (.stop))) (.stop)) (.stop)) (.stop)) (.stop)) (.stop)) (.stop)) (.stop)) (.alt (oL 137 136) (.alt (oL 135 134) (.alt (oN 138 (.idx 5 (.t 137) (.c (.int .i64 0)))) (.alt (oA 139 5 138) (.alt Yai (.alt Yag (.alt (oN 143 (.call zah [(.t 142)])) (.alt Yad (.step Yae (.alt (oS 5 21 145) (.done) (.stop))) (.stop)) (.stop)) (.stop)) (.stop)) (.stop)) (.stop)) (.alt (oN 138 (.idx 5 (.t 137) (.c (.int .i64 0)))) (.alt (oL 135 134) (.alt (oA 139 5 138) (.alt Yai (.alt Yag (.alt (oN 143 (.call zah [(.t 142)])) (.alt Yad (.step Yae (.alt (oS 5 21 145) (.done) (.stop))) (.stop)) (.stop)) (.stop)) (.stop)) (.stop)) (.alt (oA 139 5 138) (.alt (oL 135 134) (.alt Yai (.alt Yag (.alt (oN 143 (.call zah [(.t 142)])) (.alt Yad (.step Yae (.alt (oS 5 21 145) (.done) (.stop))) (.stop)) (.stop)) (.stop)) (.stop)) (.alt Yai (.alt (oL 135 134) (.alt Yag (.alt (oN 143 (.call zah [(.t 142)])) (.alt Yad (.step Yae (.alt (oS 5 21 145) (.done) (.stop))) (.stop)) (.stop)) (.stop)) (.alt Yag (.alt (oL 135 134) (.alt (oN 143 (.call zah [(.t 142)])) (.alt Yad (.step Yae (.alt (oS 5 21 145) (.done) (.stop))) (.stop)) (.stop)) (.alt (oN 143 (.call zah [(.t 142)])) (.alt (oL 135 134) (.alt Yad (.step Yae (.alt (oS 5 21 145) (.done) (.stop))) (.stop)) (.alt Yad (.step (oL 135 134) (.step Yae (.alt (oS 5 21 145) (.done) (.stop)))) (.stop))) (.stop))) (.stop))) (.stop))) (.stop))) (.stop))) (.stop))))))) [1,19,20,132,133,134,135,136,137,138,139,140,141,142,143,144,145]) (.skip))) (.mark 17 (zcw)))
def zeA:ACode:=.seq (.region [(oM 64 0),(oM 65 12),(oN 66 (.call zbb [(.t 64),(.t 65)])),(oM 63 66),(oT 67 0 63),(oT 68 1 63),(oM 16 67),(oM 17 68)] [3,12,28,29,30,63,64,65,66,67,68]) (.seq (.region [(oM 69 1),(oM 70 1),(oF 71 0 1 9),(oL 72 71),(oN 73 (.build [.int .i64 0,.int .i64 0,.int .i64 0] [(0,1,(.t 69)),(1,1,(.t 70)),(2,1,(.t 72))])),(oN 18 (.alloc [.int .i64 0,.int .i64 0,.int .i64 0])),(oS 3 18 73)] [69,70,71,72,73]) (.seq (.seq (.region [(oM 74 11),(oE 75 74),(oC 76 .gtr 75 0)] [74,75]) (.cond (.t 76) (.region [(oM 77 11),(oN 78 (.idx 1 (.t 77) (.c (.int .i64 0)))),(oL 79 78),(oF 80 2 1 18),(oS 1 80 79)] [76,77,78,79,80]) (.skip))) (.seq (.region [(oM 81 0),(oM 82 1),(oM 83 17),(oM 84 16),(oA 85 3 18),(oN 86 (.call zbG [(.t 84),(.t 85)])),(oN 87 (.call zZ [(.t 81),(.t 82),(.t 83),(.t 86)])),(oN 19 (.alloc [.int .i64 0,.int .i64 0,.int .i64 0,.nilsl,.nilsl])),(oS 5 19 87)] [17,76,81,82,83,84,85,86,87]) (.seq (.region [(oM 88 0),(oM 89 16),(oA 90 3 18),(oN 91 (.call zak [(.t 88),(.t 89),(.t 90)])),(oM 20 91)] [16,18,88,89,90,91]) (.mark 15 (zcy))))))
def zfK:ACode:=.seq (.region [(oN 7 (.rbox (.t 2))),(oN 9 (.rbox (.t 4))),(oN 10 (.alloc [.int .i64 0,.int .i64 0,.int .i64 0,.nilsl,.nilsl]))] [2,4]) (.seq (.region [(oN 11 (.mknil 1)),(oN 12 (.mknil 1))] []) (.seq (.seq (.region [(oM 22 0),(oX 23 22),(oF 24 2 1 23),(oL 25 24),(oM 26 1),(oI 27 1 25 26),(oL 28 27),(oE 29 28),(oK 30 0)] [22,23,24,25,26,27]) (.block 0 (.loop zex))) (.mark 2 (zeA))))
def zbW:List ARet:=[.cell 10 true 5]
theorem zkU:z6 Z9 zcb (qRoL [7,9] [(18,[0,1,2,3,4,5,6,7,8,9,11,12,13,14,15,16,17,18,19,20,21,22,23,24,25,26,27,28,29,30,31,32,33,34,35,36,37,38,39,40,41,42,43,44,45,46,47,48,49,50,51,52,53,54,55,56,57,58,59,60,61,62,63,64,65,66,67,68,69,70,71,72,73,74,75,76,77,78,79,80,81,82,83,84,85,86,87,88,89,90,91,92,93,94,95,96,97,98,99,100,101,102,103,104,105,106,107,108,109,110,111,112,113,114,115,116,117,118,119,120,121,122,123,124,125,126,127,128,129,130,131,132,133,134,135,136,137,138,139,140,141,142,143,144,145,146,147,148,149]),(19,[0,1,2,3,4,5,7,9,10,11,12,13,14,15,16,17,18,19,20,21,22,23,24,25,26,27,28,29,30,31,32,33,34,35,36,37,38,39,40,41,42,43,44,45,46,47,48,49,50,51,52,53,54,55,56,57,58,59,60,61,62,63,64,65,66,67,68,69,70,71,72,73,74,75,76,77,78,79,80,81,82,83,84,85,86,87,88,89,90,91,92,93,94,95,96,97,98,99,100,101,102,103,104,105,106,107,108,109,110,111,112,113,114,115,116,117,118,119,120,121,122,123,124,125,126,127,128,129,130,131,132,133,134,135,136,137,138,139,140,141,142,143,144,145,146,147,148,149])])=some (zfK.strip,zbW,155):=by kernel_rfl
def zcB:ACode:=Z8 0x8000000dd1440b195811120fa01de0cf53c012ee321fa083201c003003c0ae281300000000003d3512c11110100c22be24e1103440000005355c9e23a52fd2217e6e5e41efa03110100c22124e12e03440000005355c03ae7e6e5e41efa8e23a52fd231221ffb031110100c22124e12e03440000005355c0317e6e5e41efa039e8e21ffb7e23a52fd238320311110100c22124e12e03440000005355c0317e6e5e41efa031221ffb038326e23a52fd231c0022c002400230021112001024400000059c02400e22230000000000063c82c1e0020a26d12c0102cdd2103d217d21dfa011012140400110112301104c0300304d22c13080000003c013000c19581122d1d0d51cfa08320b00a520400300713149110cc21133000000003c9ec0020826c12c0102cac2103c212241494c0400110114301104c0104c2b13 []
def zdo:ACode:=.seq (.region [(oN 5 (.rbox (.t 2))),(oN 6 (.alloc [.int .i64 0,.int .i64 0,.int .i64 0,.nilsl,.nilsl]))] [2]) (.seq (.region [(oM 13 1),(oN 14 (.build [.int .i64 0,.int .i64 0,.int .i64 0,.nilsl,.nilsl] [(0,1,(.c (.int .i64 10))),(2,1,(.t 13))])),(oN 7 (.alloc [.int .i64 0,.int .i64 0,.int .i64 0,.nilsl,.nilsl])),(oS 5 7 14)] [13,14]) (.mark 1 (zcB)))
def zdp:List ARet:=[.cell 6 true 5]
theorem zfO:z6 Z9 zX (qRoL [5] [(6,[0,1,2,3,4,5,6,7,8,10,11,12,13,14,15,16,17,18,19,20,21,22,23,24,25,26,27,28,29,30,31,32,33,34,35,36,37,38,39,40,41,42,43,44,45,46,47,48,49,50,51,52,53,54,55,56,57,58,59,60,61,62,63,64,65,66,67,68,69,70,71,72,73,74,75,76,77,78,79,80,81,82,83,84,85,86,87,88,89,90,91,92,93,94,95,96,97,98,99,100,101,102,103,104,105,106,107,108,109,110,111,112,113,114,115,116,117,118,119,120,121,122,123,124,125,126,127,128,129,130,131,132,133,134,135,136,137,138,139,140,141,142,143,144,145,146,147,148,149])])=some (zdo.strip,zdp,61):=by kernel_rfl
def zef:List AOper:=[(oA 12 2 1),(oF 13 1 1 1),(oL 14 13),(oE 15 14),(oN 16 (.mksl 1 24 [.nilsl] (.t 15) (.t 15))),(oF 17 1 1 1),(oL 18 17),(oE 19 18),(oN 20 (.mksl 1 8 [.int .i64 0] (.t 19) (.t 19))),(oN 21 (.xop .mkmap [])),(oN 22 (.build [.int .u32 0,.nilsl,.nilsl,.nilsl,.nilmp] [(0,2,(.t 12)),(2,1,(.t 16)),(3,1,(.t 20)),(4,1,(.t 21))])),(oN 23 (.box (.t 22))),(oM 3 23)]
def zdS:List (List Nat):=[[],[],[1],[2],[3,3],[],[5],[6],[7,7],[],[0,4,8,9],[10],[11,0,1,2,3,4,5,6,7,8,9,10,11]]
def zea:List AOper:=[(oM 39 3),(oX 40 39),(oF 41 2 1 40),(oL 42 41),(oM 43 7),(oM 44 3),(oX 45 44),(oF 46 2 1 45),(oL 47 46),(oM 48 7),(oI 49 1 47 48),(oL 50 49),(oM 51 6),(oN 52 (.buildSl 1 1 [.int .i64 0] [(0,(.t 51))])),(oN 53 (.append 1 8 (.t 50) (.t 52))),(oI 54 1 42 43),(oS 1 54 53)]
def zib:List (List Nat):=[[],[0],[1],[2],[],[],[5],[6],[7],[],[8,9],[10],[],[12],[11,13],[3,4,0,1,2,3,4,5,6,7,8,9,10,11,12,13,14],[15,14,14,0,1,2,3,4,5,6,7,8,9,10,11,12,13,14]]
def zeD:List Nat:=[13,14,16]
def zjR:List (List Nat):=[[],[0],[0,1],[0,1,2],[],[],[5],[5,6],[5,6,7],[],[5,6,7,8,9],[5,6,7,8,9,10],[],[12],[5,6,7,8,9,10,11,12,13],[0,1,2,3,4,5,6,7,8,9,10,11,12,13,14],[0,1,2,3,4,5,6,7,8,9,10,11,12,13,14,15]]
def zi0:List (List Nat):=[[],[13],[13,14],[13,14,16]]
def zdV:Plan:=[(0,[],[]),(1,[],[]),(2,[],[]),(3,[],[]),(3,[13],[13]),(3,[13,14],[13,14]),(4,[],[]),(5,[],[]),(6,[],[]),(7,[],[]),(8,[],[]),(8,[13],[13]),(9,[],[]),(10,[],[]),(10,[13],[13]),(11,[],[]),(11,[13],[13]),(12,[],[]),(13,[],[13]),(14,[13],[13,14]),(15,[13,14],[13,14]),(16,[13,14],[13,14,16])]
def zc8:ACode:=Z8 0x0ff11002f210005f0602100000000ce9a211810df0cf1401001060110121400c00110113301104c06006f2a10003f31092110203f140313353270143004f05f3603f2113 []
def zc7:ACode:=Z8 0x1c0000f4101d21004d0610f221 []
def ze3:ACode:=.seq (.region [(oB 30 .lss 29 28)] []) (.seq (.cond (.t 30) (.skip) (.exit 0)) (.seq (.block 1 (.seq (.region [(oI 31 1 27 29),(oL 32 31),(oM 6 32)] [30,31,32]) (.seq (.seq (.region [(oM 33 4),(oM 34 6),(oI 35 1 33 34),(oL 36 35),(oM 7 36)] [33,34,35,36]) (.seq (.region [(oM 37 7),(oC 38 .geq 37 0)] [37]) (.cond (.t 38) (.draw (zfv zea zib 17 (Wc 17 false)) [7,38,39,40,41,42,43,44,45,46,47,48,49,50,51,52,53,54]) (.skip)))) (.seq (.region [(oF 55 1 1 1),(oL 56 55),(oM 57 6),(oI 58 2 56 57),(oA 59 2 58),(oN 60 (.call zeN [(.t 59)])),(oE 61 60),(oK 62 0)] [6,7,38,55,56,57,58,59]) (.block 2 (.loop zc8)))))) (zc7)))
def ze8:ACode:=Z8 0x20f11014f210017f0620f22100000000cfb910120f1ef34a4c1311022c1130211022c1030211021143021104c026018f2220015f31af148100440049b21420215f440413553470143016f17f3615f2113 []
def ze9:ACode:=.seq (.region [(oM 93 3),(oM 2 93)] [3,78,79,80,93]) (.ret)
def zc5:ACode:=Z8 0x19096453e00ac21600000150111bfa042211f24133 [ze8,ze9]
def zbx:ACode:=Z8 0x1909605ec1000001501119fa0422ec241330cc210421118fa0422cc2313 [ze3,zc5]
def zgB:ACode:=.seq (.region [(oN 1 (.rbox (.t 0))),(oN 2 (.mov (.c (.nilp))))] [0,2]) (.seq (.draw (zfv zef zdS 13 (Wc 13 false)) [12,13,14,15,16,17,18,19,20,21,22,23]) (.mark 1 (zbx)))
attribute[irreducible]ze3 ze8 ze9 zc5
def zd5:List ARet:=[.tmp 2]
theorem zl9:z6 Z9 zbz (qRo [1])=some (zgB.strip,zd5,94):=by kernel_rfl
def zhI:ACode:=Z8 0x63c7310b21002c062d22100000003c7810521fc0cf53c0101440000005158c01222ea0400a520800711400000003c81209c701ac210494c3113a1233408d6100b00186011011033c2913000c35c1581440000005972152020c54041315307014301c2c360c2113 []
def zh0:ACode:=Z8 0x82d2217581552021307c0033172118151430803d2313 []
def zke:ACode:=Z8 0x190960581000001501105143824133056c01130144000000594217c22213 [zhI,zh0]
attribute[irreducible]zhI zh0
def zkJ:List ARet:=[.cell 4 true 5]
theorem zqX:z6 Z9 zaX (qRo [28])=some (zke.strip,zkJ,34):=by kernel_rfl
def zhV:ACode:=Z8 0x38c8310bc2100ec0602100008c852015d34a4c1110b123090041140fc2a0017601101103fc231300cc31d158144000000598215202cc5404131530701430dcec36cc2113 []
def zhN:ACode:=Z8 0x800a002c058000032155811222ea09008526d2513 []
def zkn:ACode:=Z8 0x19096058c100000150111ea02528c241337c11062014c7c22130002701189c15814400000059521000230ea0900129001190010300000039c011fda04223c26130800721510322558170004400000059c041314b1000186010b2213092104211eda0422923133202000004400000059011c0313 [zhV,zhN]
attribute[irreducible]zhV zhN
def zgN:List ARet:=[.cell 2 true 5,.tmp 3]
theorem zqS:z6 Z9 zbC (qRo [1])=some (zkn.strip,zgN,37):=by kernel_rfl
end Go.Ab
namespace Go.Ab
open Go.RowKit Go.Proofs Go.Ab.Dm
theorem io0:Int.ofNat 0=(0:Int):=rfl
def nb0(g:G):AH:=[(0,.row 5 [[.int .u32 g.addr,encL 2 Xa g.blocks,.own 1 0 0 0 g.blocks.length,.own 2 0 0 0 g.blocks.length,.mp 3 0]] 0),(1,.row 1 (fe (α:=Nat) 4 g.blocks.length (λ_=>[]) (λ_=>0)) 0),(2,.row 1 (Wc g.blocks.length [.int .i64 0]) 0),(3,.row 3 [[.int .i64 0,.undef,.undef]] 0),(4,.fam 1 (fi cN g.blocks.length (λ_=>[]) (λ_=>0)))]
theorem zMC(g:G)(d:g.blocks.length<=1000):Ent 0 [(1,.iptr 2 λj=>[Xb .u32 g.addr,encL 2 Xa g.blocks].getD j .undef),(3,.ptr 3 0 0 0 0)]
  [(0,.row 1 (Wc g.blocks.length [Xk]) 0),(1,.row 1 (Wc g.blocks.length [Xb .i64 0]) 0),(2,.row 3 [[Xb .i64 0,Xi,Xi]] 0),(3,.row 5 [[.int .u32 g.addr,encL 2 Xa g.blocks,.own 0 0 0 0 g.blocks.length,.own 1 0 0 0 g.blocks.length,.mp 2 0]] 0)] 4 [(1,encP 2 g.cells),(3,.ptr 0 0 0 0 0)] (nb0 g) 5:=by
 have b:g.cells=[.int .u32 g.addr,encL 2 Xa g.blocks]:=rfl;unfold nb0;exact(Xf [(0,3,0),(1,0,0),(2,1,0),(3,2,0)] [] rfl (by((try simp only[evWB,Xc,Xd,Xg,Xe,Xh,implies_true,b,encP])<;>(repeat' with_reducible apply Wa)<;>first|(exact zaN (c:=cN) (λ_=>rfl) rfl;done)|exact fin6)) (by((try simp only[evWB,Xc,Xd,Xg,Xe,Xh,implies_true,b,encP])<;>(repeat' with_reducible apply Wa)<;>first|(exact zaN (c:=cN) (λ_=>rfl) rfl;done)|exact fin6)))
theorem zN0(g:G)(d:g.blocks.length<=1000):Ent 0 [(1,.iptr 2 λj=>[Xb .u32 g.addr,encL 2 Xa g.blocks].getD j .undef),(3,.ptr 3 0 0 0 0)]
  [(0,.row 1 (Wc g.blocks.length [Xk]) 0),(1,.row 3 [[Xb .i64 0,Xi,Xi]] 0),(2,.row 1 (Wc g.blocks.length [Xb .i64 0]) 0),(3,.row 5 [[.int .u32 g.addr,encL 2 Xa g.blocks,.own 0 0 0 0 g.blocks.length,.own 2 0 0 0 g.blocks.length,.mp 1 0]] 0)] 4 [(1,encP 2 g.cells),(3,.ptr 0 0 0 0 0)] (nb0 g) 5:=by
 have b:g.cells=[.int .u32 g.addr,encL 2 Xa g.blocks]:=rfl;unfold nb0;exact(Xf [(0,3,0),(1,0,0),(2,2,0),(3,1,0)] [] rfl (by((try simp only[evWB,Xc,Xd,Xg,Xe,Xh,implies_true,b,encP])<;>(repeat' with_reducible apply Wa)<;>first|(exact zaN (c:=cN) (λ_=>rfl) rfl;done)|exact fin6)) (by((try simp only[evWB,Xc,Xd,Xg,Xe,Xh,implies_true,b,encP])<;>(repeat' with_reducible apply Wa)<;>first|(exact zaN (c:=cN) (λ_=>rfl) rfl;done)|exact fin6)))
theorem zNT(g:G)(d:g.blocks.length<=1000):Ent 0 [(1,.iptr 2 λj=>[Xb .u32 g.addr,encL 2 Xa g.blocks].getD j .undef),(3,.ptr 3 0 0 0 0)]
  [(0,.row 1 (Wc g.blocks.length [Xb .i64 0]) 0),(1,.row 1 (Wc g.blocks.length [Xk]) 0),(2,.row 3 [[Xb .i64 0,Xi,Xi]] 0),(3,.row 5 [[.int .u32 g.addr,encL 2 Xa g.blocks,.own 1 0 0 0 g.blocks.length,.own 0 0 0 0 g.blocks.length,.mp 2 0]] 0)] 4 [(1,encP 2 g.cells),(3,.ptr 0 0 0 0 0)] (nb0 g) 5:=by
 have b:g.cells=[.int .u32 g.addr,encL 2 Xa g.blocks]:=rfl;unfold nb0;exact(Xf [(0,3,0),(1,1,0),(2,0,0),(3,2,0)] [] rfl (by((try simp only[evWB,Xc,Xd,Xg,Xe,Xh,implies_true,b,encP])<;>(repeat' with_reducible apply Wa)<;>first|(exact zaN (c:=cN) (λ_=>rfl) rfl;done)|exact fin6)) (by((try simp only[evWB,Xc,Xd,Xg,Xe,Xh,implies_true,b,encP])<;>(repeat' with_reducible apply Wa)<;>first|(exact zaN (c:=cN) (λ_=>rfl) rfl;done)|exact fin6)))
theorem zMN(g:G)(d:g.blocks.length<=1000):Ent 0 [(1,.iptr 2 λj=>[Xb .u32 g.addr,encL 2 Xa g.blocks].getD j .undef),(3,.ptr 3 0 0 0 0)]
  [(0,.row 3 [[Xb .i64 0,Xi,Xi]] 0),(1,.row 1 (Wc g.blocks.length [Xk]) 0),(2,.row 1 (Wc g.blocks.length [Xb .i64 0]) 0),(3,.row 5 [[.int .u32 g.addr,encL 2 Xa g.blocks,.own 1 0 0 0 g.blocks.length,.own 2 0 0 0 g.blocks.length,.mp 0 0]] 0)] 4 [(1,encP 2 g.cells),(3,.ptr 0 0 0 0 0)] (nb0 g) 5:=by
 have b:g.cells=[.int .u32 g.addr,encL 2 Xa g.blocks]:=rfl;unfold nb0;exact(Xf [(0,3,0),(1,1,0),(2,2,0),(3,0,0)] [] rfl (by((try simp only[evWB,Xc,Xd,Xg,Xe,Xh,implies_true,b,encP])<;>(repeat' with_reducible apply Wa)<;>first|(exact zaN (c:=cN) (λ_=>rfl) rfl;done)|exact fin6)) (by((try simp only[evWB,Xc,Xd,Xg,Xe,Xh,implies_true,b,encP])<;>(repeat' with_reducible apply Wa)<;>first|(exact zaN (c:=cN) (λ_=>rfl) rfl;done)|exact fin6)))
theorem zMU(g:G)(d:g.blocks.length<=1000):Ent 0 [(1,.iptr 2 λj=>[Xb .u32 g.addr,encL 2 Xa g.blocks].getD j .undef),(3,.ptr 3 0 0 0 0)]
  [(0,.row 1 (Wc g.blocks.length [Xb .i64 0]) 0),(1,.row 3 [[Xb .i64 0,Xi,Xi]] 0),(2,.row 1 (Wc g.blocks.length [Xk]) 0),(3,.row 5 [[.int .u32 g.addr,encL 2 Xa g.blocks,.own 2 0 0 0 g.blocks.length,.own 0 0 0 0 g.blocks.length,.mp 1 0]] 0)] 4 [(1,encP 2 g.cells),(3,.ptr 0 0 0 0 0)] (nb0 g) 5:=by
 have b:g.cells=[.int .u32 g.addr,encL 2 Xa g.blocks]:=rfl;unfold nb0;exact(Xf [(0,3,0),(1,2,0),(2,0,0),(3,1,0)] [] rfl (by((try simp only[evWB,Xc,Xd,Xg,Xe,Xh,implies_true,b,encP])<;>(repeat' with_reducible apply Wa)<;>first|(exact zaN (c:=cN) (λ_=>rfl) rfl;done)|exact fin6)) (by((try simp only[evWB,Xc,Xd,Xg,Xe,Xh,implies_true,b,encP])<;>(repeat' with_reducible apply Wa)<;>first|(exact zaN (c:=cN) (λ_=>rfl) rfl;done)|exact fin6)))
theorem zMw(g:G)(d:g.blocks.length<=1000):Ent 0 [(1,.iptr 2 λj=>[Xb .u32 g.addr,encL 2 Xa g.blocks].getD j .undef),(3,.ptr 3 0 0 0 0)]
  [(0,.row 3 [[Xb .i64 0,Xi,Xi]] 0),(1,.row 1 (Wc g.blocks.length [Xb .i64 0]) 0),(2,.row 1 (Wc g.blocks.length [Xk]) 0),(3,.row 5 [[.int .u32 g.addr,encL 2 Xa g.blocks,.own 2 0 0 0 g.blocks.length,.own 1 0 0 0 g.blocks.length,.mp 0 0]] 0)] 4 [(1,encP 2 g.cells),(3,.ptr 0 0 0 0 0)] (nb0 g) 5:=by
 have b:g.cells=[.int .u32 g.addr,encL 2 Xa g.blocks]:=rfl;unfold nb0;exact(Xf [(0,3,0),(1,2,0),(2,1,0),(3,0,0)] [] rfl (by((try simp only[evWB,Xc,Xd,Xg,Xe,Xh,implies_true,b,encP])<;>(repeat' with_reducible apply Wa)<;>first|(exact zaN (c:=cN) (λ_=>rfl) rfl;done)|exact fin6)) (by((try simp only[evWB,Xc,Xd,Xg,Xe,Xh,implies_true,b,encP])<;>(repeat' with_reducible apply Wa)<;>first|(exact zaN (c:=cN) (λ_=>rfl) rfl;done)|exact fin6)))
set_option maxHeartbeats 4000000 in
theorem zLv(g:G)(b:g.blocks.length<=1000){Q:QT}(h:wpX Z9 0 zbx Q [(1,encP 2 g.cells),(3,.ptr 0 0 0 0 0)] (nb0 g) 5):
  zbh Z9 (.tree (zfv zef zdS 13 (Wc 13 false))) [12,13,14,15,16,17,18,19,20,21,22,23] (seqQ Z9 0 (.mark 1 zbx) Q) [(1,.iptr 2 λj=>[Xb .u32 g.addr,encL 2 Xa g.blocks].getD j .undef)] [] 0:=by
 have c:=hBig;conv in zfv _ _ _ _=>reduce
 (repeat first|simp(maxSteps:=10000000) (disch:=try exact dis1) only[evD,Xc,Xd,Xe,io0]|with_reducible intro _|((with_reducible apply Wa);omega))
 (repeat' with_reducible apply Wa)
 all_goals try omega
 all_goals first
  |exact zaL _ _ _ (λ_=>⟨zMC g b,h⟩)
  |exact zaL _ _ _ (λ_=>⟨zN0 g b,h⟩)
  |exact zaL _ _ _ (λ_=>⟨zNT g b,h⟩)
  |exact zaL _ _ _ (λ_=>⟨zMN g b,h⟩)
  |exact zaL _ _ _ (λ_=>⟨zMU g b,h⟩)
  |exact zaL _ _ _ (λ_=>⟨zMw g b,h⟩)
def kdE(E:Adj)(i b:Nat):List Nat:=((ordE E).take i).filter λk=>decide ((treeL E).getD k (-1)=(b:Int))
def ctE(E:Adj)(i b:Nat):Nat:=(((ordE E).take i).map λk=>(suc E k).count b).sum
def ct2(E:Adj)(i:Nat)(l:List Nat)(b:Nat):Nat:=ctE E i b+l.count b
def cnR(f:Nat->Nat)(n:Nat):List (List AV):=(Wd n).map λb=>[Xb .i64 ((f b:Nat):Int)]
section
variable {E:Adj}
theorem zI8:kdE E 0=λ_=>[]:=by funext b;simp[kdE]
theorem zMl{i d:Nat}(h:i<(ordE E).length)(e:(treeL E).getD (ordE E)[i] (-1)=(d:Int)):kdE E (i+1)=updF (kdE E i) d (kdE E i d++[(ordE E)[i]]):=by
 funext b;unfold kdE updF;rw[filter_take_succ h];by_cases c:b=d
 .subst c;rw[if_pos rfl,e,decide_eq_true rfl];rfl
 .rw[if_neg c,e,decide_eq_false (by omega)];simp
theorem kdE_no{i:Nat}(h:i<(ordE E).length)(c:(treeL E).getD (ordE E)[i] (-1)<0):kdE E (i+1)=kdE E i:=by funext b;unfold kdE;rw[filter_take_succ h,decide_eq_false (by omega)];simp
theorem zNn{b:Nat}:kdE E (ordE E).length b=zdw E b:=by unfold kdE zdw;rw[Wl]
theorem zMn{i b:Nat}:(kdE E i b).length<=i:=zkP _ _ _
theorem zDy{b:Nat}:ctE E 0 b=0:=by simp[ctE]
theorem zCQ{i:Nat}(h:i<(ordE E).length){b:Nat}:ctE E (i+1) b=ct2 E i (suc E (ordE E)[i]) b:=by unfold ctE ct2 ctE;rw[WA h,List.map_append,List.sum_append];simp
theorem zMX{b:Nat}:ctE E (ordE E).length b=cntE E b:=by unfold ctE cntE;rw[Wl]
theorem zLM(c:∀k,(suc E k).length<=1000){b:Nat}:∀i,ctE E i b<=i*1000
 |0=>by rw[zDy];exact Wh _
 |
  i+1=>by
  have d:=zLM c (b:=b) i;by_cases h:i<(ordE E).length
  .rw[zCQ h];unfold ct2;have g:=WG (a:=b) (l:=suc E (ordE E)[i]);have j:=c (ordE E)[i];omega
  .have e:ctE E (i+1) b=ctE E i b:=by unfold ctE;rw[Wt (by omega),Wt (by omega)]
   rw[e];exact Wz d (Nat.mul_le_mul_right _ (Nat.le_succ _))
theorem zKi{i j:Nat}{l:List Nat}(h:j<l.length):updF (ct2 E i (l.take j)) l[j] (ct2 E i (l.take j) l[j]+1)=ct2 E i (l.take (j+1)):=by
 funext b;unfold updF ct2;rw[WA h,List.count_append];by_cases c:b=l[j]
 .rw[if_pos c,<-c];simp;omega
 .rw[if_neg c,List.count_singleton,if_neg (by simpa using λe=>c e.symm)];omega
theorem zJ1{i:Nat}:ct2 E i []=ctE E i:=by funext b;simp[ct2]
theorem zKu{n:Nat}:cnR (ctE E 0) n=Wc n [.int .i64 0]:=by
 unfold cnR;apply List.ext_getElem
 .simp
 .intro i b c;simp[zDy]
theorem zL8{f:Nat->Nat}{n:Nat}:(cnR f n).length=n:=by simp[cnR]
theorem zM3{f:Nat->Nat}{n b:Nat}(h:b<n):(cnR f n).getD b []=[.int .i64 ((f b:Nat):Int)]:=by simp[cnR,Wp,h]
theorem zNx{f:Nat->Nat}{n b:Nat}:(cnR f n).set b [.int .i64 ((f b:Nat)+1:Int)]=cnR (updF f b (f b+1)) n:=by
 unfold cnR;rw[zbq];refine Wy λi c=>?_
 unfold updF;split
 .rfl
 .rfl
theorem zev{f:Nat->Nat}{n:Nat}:zy (cnR f n):=zU λ_=>rfl
end
theorem zLZ{H H2:AH}{σ:Nat->Nat->Option (Nat×Nat×Nat)}{D:Nat->Nat->Prop}{t:Bool}{r q b n:Nat}{f:Nat->Nat}(g:D r q)(c:H.get r q=some (.row 1 (cnR f n) b))(h:n<=big):Vw H H2 σ D t (.own r q b 0 n) (zc ((Wd n).map f)):=by
 have e:cnR f n=((Wd n).map f).map cN:=by unfold cnR;rw[Wo];rfl
 rw[e]at c;have d:((Wd n).map f).length=n:=by simp
 have:=zel (H2:=H2) (σ:=σ) (t:=t) g c (by rw[d];exact h)
 rwa [d]at this
theorem zID{H h:AH}{σ:Nat->Nat->Option (Nat×Nat×Nat)}{D:Nat->Nat->Prop}{t:Bool}{F r q e n:Nat}{b:Nat->List Nat}{g:Nat->Nat}(j:D r q)(o:H.get r q=some (.row 1 (fe F n b g) e))(m:n<=big)(k:H.look F=some (.fam 1 (fi cN n b g)))(c:∀i,i<n->D F (i+1))(d:∀i,(b i).length<=big):Vw H h σ D t (.own r q e 0 n) (encNN ((Wd n).map b)):=by rw[zBx];exact zFD j o m k c (λi _=>d i) (λ_=>rfl)
def nbH(g:G)(c:Nat->List Nat)(b d:Nat->Nat)(m:List (List AV)):AH:=[(0,.row 5 [[.int .u32 g.addr,encL 2 Xa g.blocks,.own 1 0 0 0 g.blocks.length,.own 2 0 0 0 g.blocks.length,.mp 3 0]] 0),(1,.row 1 (fe 4 g.blocks.length c b) 0),(2,.row 1 (cnR d g.blocks.length) 0),(3,.row 3 m 0),(4,.fam 1 (fi cN g.blocks.length c b))]
theorem nb0_eq(g:G):nb0 g=nbH g (kdE (eG g) 0) (λ_=>0) (ctE (eG g) 0) [[.int .i64 0,.undef,.undef]]:=by unfold nb0 nbH;rw[zI8,zKu]
theorem Qt{d e g p:Prop}(a0:d)(b:e)(c:g)(h:d->e->g->p:=by intro a0 b c;(try simp only[evWB,Nat.reduceBEq,Nat.reduceAdd,Nat.reduceSub,Nat.reduceLeDiff,Nat.reduceLT,implies_true,a0,b,c])<;>(repeat' with_reducible apply And.intro)<;>first|(first|exact RowV.of_flat zev;done)|exact fin8):p:=h a0 b c
theorem zl4(g:G)(C:OkB g):z7 Z9 zbz [.agg g.cells] [] 0 (λv H nx=>v=.ptr 0 0 0 0 0/\H=bldH g []/\nx=2):=by
 refine zaK (fn_x zl9 rfl ?_);unfold zgB;have hB:=hBig;have hn:=C.small.1;have hgl:g.toG.blocks.length=g.blocks.length:=by simp[G.toG]
 rw[hgl]at hn;have y:=zac C;have hEl:=zhL (g:=g);have hT:=zli g.toG C.small;have hO:=zgp g.toG C.small;have hF:=zxL g.toG C.small y;rw[G.toG_cells]at hT hO hF;have hoe:orderL g.toG.E=ordE (eG g):=by unfold orderL ordE ordL;rw[if_neg (by have h2:0<(Gr.E g.toG).length:=y.pos;omega)]
 rw[hoe]at hO;have hol:=zFO C;have htl:(treeL (eG g)).length=g.blocks.length:=by simp[treeL,hEl]
 have o:g.cells=[.int .u32 g.addr,encL 2 Xa g.blocks]:=rfl;rw[o];refine Gw0 ?_;intros;refine zLv g hn ?_;refine dcU zbx.eq_1 ?_;refine Gw2 @ub @G.two ?_;intros;refine zd (ze hT rfl) ?_;refine Gw2 @ub @G.two ?_;intros;refine zd (ze hO rfl) ?_;rw[nb0_eq];refine Gw1 @ue ?_;intros;have hsl:=λk=>zKP C k
 refine zf (λs:Nat×(Nat->Nat)=>([(1,encP 2 g.cells),(3,.ptr 0 0 0 0 0),(4,za (treeL (eG g))),(27,zc (ordE (eG g))),(28,.int .i64 (ordE (eG g)).length),(29,.int .i64 s.1)],nbH g (kdE (eG g) s.1) s.2 (ctE (eG g) s.1) [[.int .i64 0,.undef,.undef]])) 5
  (λs=>s.1<=(ordE (eG g)).length) (λs=>(ordE (eG g)).length-s.1) (0,λ_=>0) (Wh _) ?start ?_
 case start=>unfold nbH;exact(Xf [(0,0,0),(1,1,0),(2,2,0),(3,3,0),(4,4,0)] [] rfl (Qt @ue @ub o) (Qt @ue @ub o))
 rintro⟨i,gs⟩ hi wf;simp only at hi;clear wf;unfold ze3;by_cases z:i<(ordE (eG g)).length
 case pos=>
  have B:(ordE (eG g))[i]<g.blocks.length:=by have:=zen y (Wq z);omega
  have hky:=λd=>zMl (E:=eG g) (i:=i) (d:=d) z
  have hkn:=kdE_no (E:=eG g) (i:=i) z;have hcs:=λb=>zCQ (E:=eG g) (i:=i) z (b:=b)
  have hgi:((ordE (eG g)).map λ(n:Nat)=>[Xb .i64 (n:Int)]).getD i []=[.int .i64 ((ordE (eG g))[i]:Int)]:=zg (f:=cN) (d:=[]) z;generalize (ordE (eG g))[i]=x at B hky hkn hcs hgi;have hti:x<(treeL (eG g)).length:=by omega
  have hgt:((treeL (eG g)).map λn=>[Xb .i64 n]).getD x []=[.int .i64 (treeL (eG g))[x]]:=zg (f:=cI) (d:=[]) hti;have htx:(treeL (eG g)).getD x (-1)=(treeL (eG g))[x]:=by simp[Wp,hti]
  rw[htx]at hkn;simp only[htx]at hky;have hgb:(g.blocks.map Xa).getD x []=(blG g x).cells:=by rw[zg B,zrh B]
  have J:=zmN (blG g x) (λs hs=>Wz (C.cases _ (zfY B) s hs) (by decide));rw[zGw C B]at J;have hslx:=hsl x;have Q:∀t∈suc (eG g) x,t<g.blocks.length:=λt ht=>by have:=y.ok x t ht;omega
  generalize suc (eG g) x=m at J hslx Q hcs;have hctl:=λb=>zLM hsl (b:=b) i
  have hmi:encL 1 (λ(n:Int)=>[Xb .i64 n]) (m.map λ(t:Nat)=>(t:Int))=zc m:=zh2 m
  have A:∀I K H nx,Ent 0 K H nx [(1,encP 2 g.cells),(3,.ptr 0 0 0 0 0),(4,za (treeL (eG g))),(27,zc (ordE (eG g))),(28,.int .i64 (ordE (eG g)).length),(29,.int .i64 i),(60,zc m),(61,.int .i64 m.length),(62,.int .i64 0)] (nbH g (kdE (eG g) (i+1)) I (ctE (eG g) i) [[.int .i64 0,.undef,.undef]]) 5 ->
    zA9 Z9 0 zc8 (zgx 2 (zgx 1 (seqQ Z9 0 zc7 (ztw 0 (λs:Nat×(Nat->Nat)=>([(1,encP 2 g.cells),(3,.ptr 0 0 0 0 0),(4,za (treeL (eG g))),(27,zc (ordE (eG g))),(28,.int .i64 (ordE (eG g)).length),(29,.int .i64 s.1)],nbH g (kdE (eG g) s.1) s.2 (ctE (eG g) s.1) [[.int .i64 0,.undef,.undef]])) 5 (λs=>s.1<=(ordE (eG g)).length) (λs=>(ordE (eG g)).length-s.1) (i,gs) (zgx 0 (seqQ Z9 0 zc5 (retK zd5 (zwh 0 λv H nx=>v=.ptr 0 0 0 0 0/\H=bldH g []/\nx=2)))))))) K H nx:=by
   intro I K H nx hent
   refine zf (λj:Nat=>([(1,encP 2 g.cells),(3,.ptr 0 0 0 0 0),(4,za (treeL (eG g))),(27,zc (ordE (eG g))),(28,.int .i64 (ordE (eG g)).length),(29,.int .i64 i),(60,zc m),(61,.int .i64 m.length),(62,.int .i64 j)],nbH g (kdE (eG g) (i+1)) I (ct2 (eG g) i (m.take j)) [[.int .i64 0,.undef,.undef]])) 5
    (λj=>j<=m.length) (λj=>m.length-j) 0 (Wh _) (by rw[List.take_zero,zJ1];exact hent) ?_
   intro j hj wf;clear wf;refine dcU zc8.eq_1 ?_;by_cases hj':j<m.length
   case neg=>
    obtain rfl:j=m.length:=by omega
    rw[Wl];unfold nbH;refine Gw1 @dF ?_;intros;refine dcU zc7.eq_1 ?_;refine Gw0 ?_;intros;have M:ct2 (eG g) i m=ctE (eG g) (i+1):=funext λb=>(hcs b).symm
    rw[M];exact⟨(i+1,I),by simp only;omega,by simp only;omega,(Xf [(0,0,0),(1,1,0),(2,2,0),(3,3,0),(4,4,0)] [] rfl (Qt @ue @ub o) (Qt @ue @ub o))⟩
   have hst:=zKi (E:=eG g) (i:=i) hj';have R:=Q _ (Wq hj');have hgj:(m.map λ(n:Nat)=>[Xb .i64 (n:Int)]).getD j []=[.int .i64 (m[j]:Int)]:=zg (f:=cN) (d:=[]) hj';generalize m[j]=u at hst R hgj;have hcu:ct2 (eG g) i (m.take j) u<=1001*1000:=by unfold ct2;have:=hctl u;have:=WG (a:=u) (l:=m.take j);rw[WB]at this;omega
   generalize ct2 (eG g) i (m.take j)=f at hst hcu⊢;have hse:=zNx (f:=f) (n:=g.blocks.length) (b:=u);rw[hst]at hse;unfold nbH
   (repeat first|simp(disch:=try exact dis1) only[evD,Xc,Xd,Xe,dT,zc,hgj,zL8,zM3 R,hse]|with_reducible first|intro _|refine aJ ?_)
   exact⟨j+1,by omega,by omega,(Xf [(0,0,0),(1,1,0),(2,2,0),(3,3,0),(4,4,0)] [] rfl (Qt @ue @ub o) (Qt @ue @ub o))⟩
  unfold nbH;by_cases h0:0<=(treeL (eG g))[x];case neg=>refine Gw5 @dT @ue hgi @uf hgt ?_;intros;refine Gw6 @dF @ub o hgb @Bl.two @Bl.len ?_;intros;refine zd (ze J rfl) ?_;refine Gw2 @uf hmi ?_;intros;refine Gw2 @ue @m9M ?_;intros;refine A gs _ _ _ ?_;rw[hkn (by omega)];unfold nbH;exact(Xf [(0,0,0),(1,1,0),(2,2,0),(3,3,0),(4,4,0)] [] rfl (Qt @ue @ub o) (Qt @ue @ub o))
  obtain⟨d,hd⟩:∃d:Nat,(treeL (eG g))[x]=d:=⟨((treeL (eG g))[x]).toNat,by omega⟩;have L:d<g.blocks.length:=by obtain⟨T,D⟩:=dtree_ex y.ok y.pos;have h1:=zxq y D (k:=x) (by omega);rw[htx,hd]at h1;have h2:=zen y (D.wt.up x d ((zxQ y).1 h1.symm)).2.1;omega
  have hkd:=hky d hd;have hkl:=zMn (E:=eG g) (i:=i) (b:=d);generalize kdE (eG g) i=w at hkd hkl⊢;rw[hd]at hgt;refine Gw5 @dT @ue hgi @uf hgt ?_;intros;refine Gw1 @dT ?_;intros;have hfi:=zAD (c:=cN) (n:=g.blocks.length) (k:=d) (g:=gs d+1) (ll:=w) (gs:=gs) (a:=x) (ca:=[Xb .i64 (x:Int)]) rfl;have M:=zBF (F:=4) (n:=g.blocks.length) (g:=gs d+1) (ll:=w) (k:=d) (gs:=gs) (m:=(w d).length+1) x rfl;refine zDg zeD zjR zi0 zdV [(39,.ptr 0 0 0 0 0),(40,.ptr 0 0 0 0 0),(41,.ptr 0 0 0 0 2),(42,.own 1 0 0 0 g.blocks.length),(43,.int .i64 d),(44,.ptr 0 0 0 0 0),(45,.ptr 0 0 0 0 0),(46,.ptr 0 0 0 0 2),(47,.own 1 0 0 0 g.blocks.length),(48,.int .i64 d),(49,.ptr 1 0 0 d 0),(50,.own 4 (d+1) (gs d) 0 (w d).length),(51,.int .i64 x),(52,.own 5 0 0 0 1),(53,.own 4 (d+1) (gs d+1) 0 ((w d).length+1)),(54,.ptr 1 0 0 d 0)] (hsOf [([(0,.row 5 [[.int .u32 g.addr,encL 2 Xa g.blocks,.own 1 0 0 0 g.blocks.length,.own 2 0 0 0 g.blocks.length,.mp 3 0]] 0),(1,.row 1 (fe 4 g.blocks.length w gs) 0),(2,.row 1 (cnR (ctE (eG g) i) g.blocks.length) 0),(3,.row 3 [[.int .i64 0,.undef,.undef]] 0),(4,.fam 1 (fi cN g.blocks.length w gs))],5),([(0,.row 5 [[.int .u32 g.addr,encL 2 Xa g.blocks,.own 1 0 0 0 g.blocks.length,.own 2 0 0 0 g.blocks.length,.mp 3 0]] 0),(1,.row 1 (fe 4 g.blocks.length w gs) 0),(2,.row 1 (cnR (ctE (eG g) i) g.blocks.length) 0),(3,.row 3 [[.int .i64 0,.undef,.undef]] 0),(4,.fam 1 (fi cN g.blocks.length w gs)),(5,.row 1 [[.int .i64 x]] 0)],6),([(0,.row 5 [[.int .u32 g.addr,encL 2 Xa g.blocks,.own 1 0 0 0 g.blocks.length,.own 2 0 0 0 g.blocks.length,.mp 3 0]] 0),(1,.row 1 (fe 4 g.blocks.length w gs) 0),(2,.row 1 (cnR (ctE (eG g) i) g.blocks.length) 0),(3,.row 3 [[.int .i64 0,.undef,.undef]] 0),(4,.fam 1 (fi cN g.blocks.length (updF w d (w d++[x])) (updF gs d (gs d+1)))),(5,.row 1 [[.int .i64 x]] 0)],6),([(0,.row 5 [[.int .u32 g.addr,encL 2 Xa g.blocks,.own 1 0 0 0 g.blocks.length,.own 2 0 0 0 g.blocks.length,.mp 3 0]] 0),(1,.row 1 (fe 4 g.blocks.length (updF w d (w d++[x])) (updF gs d (gs d+1))) 0),(2,.row 1 (cnR (ctE (eG g) i) g.blocks.length) 0),(3,.row 3 [[.int .i64 0,.undef,.undef]] 0),(4,.fam 1 (fi cN g.blocks.length (updF w d (w d++[x])) (updF gs d (gs d+1)))),(5,.row 1 [[.int .i64 x]] 0)],6)]) (by kernel_rfl) (by rfl) (by rfl) (by repeat' first|exact QExt.retK|apply QExt.seq|apply QExt.block|apply QExt.loop|apply QExt.join|assumption) ?plan [] (by rfl) ?fin
  case' plan=>
   intro p hs q hH;have S:p.get 39=.ptr 0 0 0 0 0:=by rw[q,zz];rfl
   have U:p.get 40=.ptr 0 0 0 0 0:=by rw[q,zz];rfl
   have V:p.get 41=.ptr 0 0 0 0 2:=by rw[q,zz];rfl
   have W:p.get 42=.own 1 0 0 0 g.blocks.length:=by rw[q,zz];rfl
   have X:p.get 43=.int .i64 d:=by rw[q,zz];rfl
   have Y:p.get 44=.ptr 0 0 0 0 0:=by rw[q,zz];rfl
   have Z:p.get 45=.ptr 0 0 0 0 0:=by rw[q,zz];rfl
   have kf46:p.get 46=.ptr 0 0 0 0 2:=by rw[q,zz];rfl
   have kf47:p.get 47=.own 1 0 0 0 g.blocks.length:=by rw[q,zz];rfl
   have kf48:p.get 48=.int .i64 d:=by rw[q,zz];rfl
   have kf49:p.get 49=.ptr 1 0 0 d 0:=by rw[q,zz];rfl
   have kf50:p.get 50=.own 4 (d+1) (gs d) 0 (w d).length:=by rw[q,zz];rfl
   have kf51:p.get 51=.int .i64 x:=by rw[q,zz];rfl
   have kf52:p.get 52=.own 5 0 0 0 1:=by rw[q,zz];rfl
   have kf53:p.get 53=.own 4 (d+1) (gs d+1) 0 ((w d).length+1):=by rw[q,zz];rfl
   have kf54:p.get 54=.ptr 1 0 0 d 0:=by rw[q,zz];rfl
   have kf3:p.get 3=.ptr 0 0 0 0 0:=by rw[q,zz];rfl
   have kf6:p.get 6=.int .i64 x:=by rw[q,zz];rfl
   have kf7:p.get 7=.int .i64 d:=by rw[q,zz];rfl
   simp only[zdV,zvH,zyZ,and_true]
   (repeat' with_reducible apply Wa)
   all_goals(rw[hH];simp only[zsN,zea,WH,WI,hsOf,hsAt,beqL,zk5,Xc,Bool.and_true,Bool.true_and,Bool.and_false,Bool.false_and,cond_true,cond_false,Wu,Wv,Xd])
   all_goals try(simp(disch:=try exact dis1) only[evD,Xc,Xd,Xe,zjy,zhm,S,U,V,W,X,Y,Z,kf46,kf47,kf48,kf49,kf50,kf51,kf52,kf53,kf54,kf3,kf6,kf7,zrT,zwa L,znS L,hfi,M];done)
  case' fin=>simp only[zeD,hsOf,hsAt,beqL,zk5,Xc,Bool.and_true,Bool.true_and,Bool.and_false,Bool.false_and,cond_true,cond_false,Wu,Wv,Xd,WH,WI,za9]
  ·(refine Gw5 @ub o hgb @Bl.two @Bl.len ?_;intros);refine zd (ze J rfl) ?_;refine Gw2 @uf hmi ?_;intros;refine Gw2 @ue @m9M ?_;intros;refine A (updF gs d (gs d+1)) _ _ _ ?_;rw[hkd];unfold nbH;exact(Xf [(0,0,0),(1,1,0),(2,2,0),(3,3,0),(4,4,0)] [] rfl (Qt @ue @ub o) (Qt @ue @ub o))
  all_goals(repeat first|simp(disch:=try exact dis1) only[evD,Xc,Xd,Xe,S,U,V,W,X,Y,Z,kf46,kf47,kf48,kf49,kf50,kf51,kf52,kf53,kf54,zrT,zwa L,znS L,hfi,M,zjy,zhm]|with_reducible first|intro _|refine aJ ?_)
  all_goals omega
 obtain rfl:i=(ordE (eG g)).length:=by omega
 unfold nbH;refine Gw1 @dF ?_;intros;refine dcU zc5.eq_1 ?_;refine Gw2 @ub @G.two ?_;intros;refine zlq (D:=noR) hF (.cons (zV rfl) .nil) (λa _=>.inr λ_ _ h=>h) ?_;rintro _ ⟨P,rfl,hP⟩;have hPk:P.map zsE=(hdL (eG g)).map λh=>(h,zgl (eG g) h):=by rw[hP];unfold loL hdL;rw[Wo];have:(ordE g.toG.E).take (ordE g.toG.E).length=ordE (eG g):=Wl;rw[this];rfl
 have hpl:P.length=(hdL (eG g)).length:=by have:=congrArg List.length hPk;simpa using this
 have hhl:(hdL (eG g)).length<=(ordE (eG g)).length:=WF _ _;have hhn:(hdL (eG g)).Nodup:=(rpo y.ok y.pos).nd.filter _
 have hk:∀j (h:j<P.length) (h2:j<(hdL (eG g)).length),P[j].h=(hdL (eG g))[j]/\P[j].body=zgl (eG g) (hdL (eG g))[j]:=λj h h2=>by
  have e:(P.map zsE)[j]'(by rw[We];exact h)=((hdL (eG g)).map λh=>(h,zgl (eG g) h))[j]'(by rw[We];exact h2):=by simp only[hPk]
  rw[Wx,Wx]at e;exact⟨congrArg Prod.fst e,congrArg Prod.snd e⟩
 have hke:∀b,kdE (eG g) (ordE (eG g)).length b=zdw (eG g) b:=λb=>zNn
 have hce:ctE (eG g) (ordE (eG g)).length=cntE (eG g):=funext λb=>zMX
 have hkl:=λk=>zxB C (k:=k)
 rw[hce,show kdE (eG g) (ordE (eG g)).length=zdw (eG g)from funext hke];refine Gw0 ?_;intros
 refine zf (λi:Nat=>([(3,.ptr 0 0 0 0 0),(78,encL 4 cLo P),(79,.int .i64 P.length),(80,.int .i64 i)],nbH g (zdw (eG g)) gs (cntE (eG g)) (boM (eG g) ((hdL (eG g)).take i)))) 5
  (λi=>i<=P.length) (λi=>P.length-i) 0 (Wh _) ?start3 ?_
 case start3=>have h0:boM (eG g) ((hdL (eG g)).take 0)=[[.int .i64 0,.undef,.undef]]:=rfl;unfold nbH;rw[h0];exact(Xf [(0,0,0),(1,1,0),(2,2,0),(3,3,0),(4,4,0)] [] rfl (Qt @ue @ub o) (Qt @ue @ub o))
 intro i hi2 wf;clear wf;refine dcU ze8.eq_1 ?_;by_cases hip:i<P.length
 case neg=>
  obtain rfl:i=P.length:=by omega
  rw[hpl,Wl];unfold nbH;refine Gw1 @dF ?_;intros;unfold ze9;refine Gw1 @zd5.eq_1 ?_;intros;refine⟨.ptr 0 0 0 0 0,bldH g [],2,?_,rfl,rfl,rfl⟩;have hkb:∀k,(zdw (eG g) k).length<=big:=λk=>by have:=hkl k;omega
  unfold bldH;exact(Xf [(0,0,0),(1,3,0)] [1,2,4] rfl (by((try simp only[evWB,Xc,Xd,Xg,Xe,Xh,implies_true])<;>(repeat' with_reducible apply Wa)<;>first|(first|exact Xl zQ|exact zLZ rfl rfl (by omega)|exact zID rfl rfl (by omega) rfl (λ_ _=>rfl) hkb;done)|exact fin8)) (by((try simp only[evWB,Xc,Xd,Xg,Xe,Xh,implies_true])<;>(repeat' with_reducible apply Wa)<;>first|(first|exact Xl zQ|exact zLZ rfl rfl (by omega)|exact zID rfl rfl (by omega) rfl (λ_ _=>rfl) hkb;done)|exact fin8)))
 have hi3:i<(hdL (eG g)).length:=by omega
 obtain⟨hk1,hk2⟩:=hk i hip hi3;have hgp:=zg (f:=cLo) (d:=[]) hip;have O:cLo P[i]=[.int .i64 (P[i].h:Int),zc P[i].body,za P[i].ex,.int .i64 P[i].par]:=rfl;rw[hk1,hk2]at O;have htk:(hdL (eG g)).take (i+1)=(hdL (eG g)).take i++[(hdL (eG g))[i]]:=WA hi3;have hnm:=zC0 hhn hi3;have htl2:((hdL (eG g)).take i).length=i:=by rw[WB];omega
 have N:=zKe (E:=eG g) (l:=(hdL (eG g)).take i) (a:=(hdL (eG g))[i]);rw[<-htk]at N;have hmf:=(zs6 (E:=eG g) (k:=(hdL (eG g))[i]) (l:=((hdL (eG g)).take i).zipIdx) (i:=0)).1 (by rw[List.zipIdx_map_fst];exact hnm);have hbm:boM (eG g) ((hdL (eG g)).take i)=[.int .i64 (((hdL (eG g)).take i).length:Int),.undef,.undef]::((hdL (eG g)).take i).zipIdx.map (cBo (eG g)):=rfl;rw[O]at hgp;unfold nbH;refine Gw6 @dT hgp hbm hmf @ui @ug ?_;intros;exact⟨i+1,by omega,by omega,(Xf [(0,0,0),(1,1,0),(2,2,0),(3,3,0),(4,4,0)] [] rfl (by((try simp only[evWB,Xc,Xd,Xg,Xe,Xh,implies_true,N])<;>(repeat' with_reducible apply Wa)<;>first|(first|exact Xl zev|(refine Xl ?_;exact N▸zQ);done)|exact fin8)) (by((try simp only[evWB,Xc,Xd,Xg,Xe,Xh,implies_true,N])<;>(repeat' with_reducible apply Wa)<;>first|(first|exact Xl zev|exact Xl zQ;done)|exact fin8)))⟩
end Go.Ab
namespace Go.Ab
open Go.RowKit Go.Proofs
theorem zuH{ρ:Nat->Nat}{a:AV}(h:a.flat=true):a.ren ρ=a:=by
 have key:∀l:List AV,l.all Xs=true->l.map (Xo ρ)=l:=λl b=>by
  conv=>rhs;rw[<-List.map_id l]
  exact Wy λx c=>zdE (Wk.1 b x c)
 cases a<;>first|exact zdE h|(simp only[Xo,key _ h])
theorem zKq{n:Nat}{a:AV}(h:a.flat0=true):a.lt0 n=true:=by cases a<;>first|rfl|(cases h;done)
theorem zCJ{n:Nat}{a:AV}(h:a.flat=true):a.lt1 n=true:=by
 have key:∀l:List AV,l.all Xs=true->l.all (Xq n)=true:=λl d=>Wk.2 λx e=>zKq (Wk.1 d x e)
 cases a with
 |agg l=>exact key l h
 |tup l=>exact key l h
 |undef=>rfl
 |int k n=>rfl
 |bool b=>rfl
 |str s=>rfl
 |nilp=>rfl
 |iptr n c=>rfl
 |sl g n f=>rfl
 |nilsl=>rfl
 |nilfn=>rfl
 |nilmp=>rfl
 |cut=>rfl
 |_=>cases h
theorem zId{H b:AH}{σ:Nat->Nat->Option (Nat×Nat×Nat)}{D:Nat->Nat->Prop}{t:Bool}:∀{l:List AV},l.all Xt=true->VwL H b σ D t l l
 |[],_=>trivial
 |
  a::l,h=>by
  rw[List.all_cons,Wj]at h;exact⟨zV h.1,zId h.2⟩
structure TOk(nx:Nat)(T:AH):Prop where
 two:2<=nx
 cut:T.cutL [0,1]=T
 num:∀r o,T.look r=some o->2<=r
 low:zfH nx T
theorem TOk.nil:TOk 2 []:=⟨Wf _,rfl,λr o h=>(by cases h),trivial⟩
theorem zmo{n:Nat}:∀{A B:AH},zfH n A->zfH n B->zfH n (A++B)
 |[],B,_,h=>h
 |(_,.row ..)::A,B,b,c=>⟨b.1,zmo b.2 c⟩
 |(_,.fam ..)::A,B,b,c=>⟨b.1,zmo b.2 c⟩
def zla(g:G)(f:FuncId)(b:List AV)(a:AV):Prop:=∀(T:AH)(nx:Nat),TOk nx T->z7 Z9 f (.ptr 0 0 0 0 0::b) (bldH g T) nx (λv H n=>v=a/\H=bldH g T/\n=nx)
theorem zhX{g:G}{f:FuncId}{rest:List AV}{a:AV}(h:z7 Z9 f (.ptr 0 0 0 0 0::rest) (bldH g []) 2 (λv H n=>v=a/\H=bldH g []/\n=2))(z:rest.all Xt=true)(y:a.flat=true):zla g f rest a:=by
 intro T nx p;have K:=p.two
 have b:∀r,r<2->T.look r=none:=λr z=>by
  cases D:T.look r with
  |none=>rfl
  |some o=>have:=p.num r o D;omega
 refine zaK (z7.mono (Q:=λv q w=>v=a/\(∀r,q.look r=(bldH g T).look r)/\w=nx) ?_ (λv q w ⟨d,B,C⟩=>⟨v,bldH g T,nx,?_,d,rfl,rfl⟩))
 .refine zKk nx (Nat.ble_eq_true_of_le (Wf _)) ?_;refine zaV [(0,0,0),(1,1,0)] 2 _ h rfl ?_ ?_ ?_ ?_
  .show (Wg 0 nx&&Wm 0 0 && !(memN _ 0)&&(Wg 1 nx&&Wm 0 0 && !(memN _ 1)&&true))=true;have A:Wg 0 nx=true:=by rw[Wn];omega
   have d:Wg 1 nx=true:=by rw[Wn];omega
   rw[A,d];rfl
  .unfold bldH;refine⟨rfl,⟨_,rfl,?_⟩,rfl,⟨_,rfl,Xl zQ⟩,trivial⟩;rw[zxz];exact⟨.int _ _ _,zV rfl,zV rfl,zV rfl,.mp _ _ _ _ rfl,trivial⟩
  .exact⟨.ptr _ _ _ 0 _ _ _ _ _ rfl rfl,zId z⟩
  .rintro v q w ⟨rfl,rfl,rfl⟩;rw[zuH y];have k:Tab.to [(0,0,0),(1,1,0)] nx 0=0:=rfl;have m:Tab.to [(0,0,0),(1,1,0)] nx 1=1:=rfl
   have u:Xu (bldH g T) [(0,0,0),(1,1,0)] nx (bldH g [])=T++bldH g []:=by
    unfold Xu bldH;have t:Xj (List.map (λx=>x.2.1) [((0:Nat),(0:Nat),(0:Nat)),(1,1,0)]) ((0,AObj.row 5 [[.int .u32 g.addr,encL 2 Xa g.blocks,Dm.encNN ((Wd g.blocks.length).map (zdw (eG g))),zc ((Wd g.blocks.length).map (cntE (eG g))),.mp 1 0]] 0)::(1,.row 3 (boM (eG g) (hdL (eG g))) 0)::T)=T:=by show Xj [0,1] _=T;rw[Xj,Xj];exact p.cut
    rw[t];have F:∀ρ,Xo ρ (encL 2 Xa g.blocks)=encL 2 Xa g.blocks:=λρ=>zdE rfl
    have I:∀ρ l,Xo ρ (Dm.encNN l)=Dm.encNN l:=λρ l=>zdE rfl
    have J:∀ρ l,Xo ρ (zc l)=zc l:=λρ l=>zdE rfl
    simp only[AH.renL,k,m,AObj.ren,zgq zQ,Wr,List.map_nil,Xo,F,I,J]
   rw[u]
   have s:zfH nx (bldH g []):=by
    unfold bldH;refine⟨⟨by omega,λc t=>?_⟩,⟨by omega,zdd zQ⟩,trivial⟩;rw[WC.1 t];have d:Wg 1 nx=true:=by rw[Wn];omega
    show(true&&(true&&(true&&(true&&(Wg 1 nx&&true)))))=true;rw[d];rfl
   refine⟨⟨zCJ y,zmo p.low s⟩,rfl,λr=>?_,rfl⟩;rw[AH.look_append];unfold bldH;simp only[Xp];by_cases e:r=0
   .subst e;rw[b 0 (by omega)]
   .by_cases j:r=1
    .subst j;rw[b 1 (by omega)]
    .rw[zbt (Ne.symm e),zbt (Ne.symm j)];simp only[cond_false];cases T.look r<;>rfl
 .subst C;exact Ent.same (Wf _) (λr=>(B r).symm) ⟨rfl,trivial⟩
theorem TOk.base{n:Nat}(h:2<=n):TOk n []:=⟨h,rfl,λr o h=>(by cases h),trivial⟩
theorem TOk.cons{n r p g:Nat}{b:List (List AV)}{T:AH}(j:2<=r)(k:r<n)(m:zrB n b)(h:TOk n T):TOk n ((r,.row p b g)::T):=by
 refine⟨h.two,?_,λx o d=>?_,⟨⟨k,m⟩,h.low⟩⟩
 .have e:memN [0,1] r=false:=by unfold memN memN memN;rw[zbt (by omega),zbt (by omega)];rfl
  simp only[Xj,e,cond_false,h.cut]
 .simp only[Xp]at d;by_cases c:r=x
  .subst c;exact j
  .rw[zbt c]at d;exact h.num x o d
theorem zaa{n:Nat}{c:List AV}(h:c.all (Xq n)=true):zrB n [c]:=λd hd=>by rw[WC.1 hd];exact h
theorem zpq{n:Nat}{l:List Nd}:zrB n (l.map encN):=zdd (zU λ_=>zt)
theorem zuG{T:AH}{N:Nat}{x:AObj}:(T.put N x).look N=some x:=by rw[Xm,if_pos rfl]
theorem zHT{g:G}{n:Nat}(e:2<=n):zfH n (bldH g []):=by
 unfold bldH;refine⟨⟨by omega,λc d=>?_⟩,⟨by omega,zdd zQ⟩,trivial⟩;rw[WC.1 d];have b:Wg 1 n=true:=by rw[Wn];omega
 show(true&&(true&&(true&&(true&&(Wg 1 n&&true)))))=true;rw[b];rfl
theorem zfg{g:G}{T:AH}{nx:Nat}{v a:AV}(d:Vw (bldH g T) (bldH g []) (zsK 2) (λr _=>2<=r) true v a):zwh 2 (λv H n=>v=a/\H=bldH g []/\n=2) v (bldH g T) nx:=by
 refine⟨a,bldH g [],2,Ent.lowF (Wf _) (λr o h=>?_) (zHT (Wf _)) ⟨d,trivial⟩,rfl,rfl,rfl⟩;unfold bldH at h⊢;simp only[Xp]at h⊢
 cases c:Wm 0 r with
 |true=>rw[c]at h;exact h
 |false=>
  rw[c]at h
  cases b:Wm 1 r with
  |true=>rw[b]at h;exact h
  |false=>rw[b]at h;cases h
theorem zs5{H:AH}{nx:Nat}{v:AV}(j:v.solid=true)(g:v.cells=[v])(c:zfH nx H)(k:v.lt0 nx=true)(e:H.look nx=none):
  z7 Z9 zah [v] H nx (λx d n=>x=.agg [.int .i64 1,.int .i64 0,.int .i64 0,.nilsl,v]/\d=H/\n=nx):=by
 refine zaK (fn_x zmP rfl ?_);refine dcU zih.eq_1 ?_;have m:=hBig;have b:splice [Xk] 0 [v]=[v]:=rfl;refine Gw8 j g b e @zuG @ui @ug @zid.eq_1 ?_;intros;refine⟨_,H,nx,Xv (Wf _) (λr o h=>?_) c ⟨⟨rfl,?_⟩,trivial⟩,rfl,rfl,rfl⟩
 .have p:=(zdq c h).1;rw[Xm,if_neg (by omega),Xm,if_neg (by omega)];exact h
 .show (true&&(true&&(true&&(true&&(v.lt0 nx&&true)))))=true;rw[k];rfl
def ctxA(c:Ctx):AV:=.agg [.int .i64 c.f,.int .i64 c.h,.int .i64 c.x]
theorem zkd(l:List Nat)(c:Ctx):zo Z9 zbG [zc l,ctxA c] (·=ctxA (zbf l c)):=by
 refine fn_x zqC rfl ?_;unfold zks ctxA;conv in Z8 _ _=>reduce
 have d:=hBig
 cases l with
 |nil=>refine Gw2 @ue @ug ?_;intros;refine Gw2 @dF @zgu.eq_1 ?_;intros;exact⟨_,zV rfl,rfl⟩
 |cons a l=>
  have b:((a::l).map λ(n:Nat)=>[Xb .i64 (n:Int)]).getD 0 []=[.int .i64 (a:Int)]:=rfl;refine Gw2 @ue @ui ?_;intros
  (repeat first|simp(disch:=try exact dis1) only[evD,Xc,Xd,Xe,dT,b,Int.toNat_zero,zgu]|with_reducible first|intro _|refine aJ ?_)
  exact⟨_,zV rfl,rfl⟩
theorem zKX{g:G}(d:OkB g){k:Nat}(e:k<g.blocks.length):0<(blG g k).stmts.length/\((blG g k).stmts.map St.cells).getD ((blG g k).stmts.length-1) []=(zhS g k).cells:=by have b:=d.ne _ (zfY e);have c:0<(blG g k).stmts.length:=List.length_pos_iff.2 b;refine⟨c,?_⟩;rw[zg (by omega)];unfold zhS;rw[List.getLast?_eq_getElem?,List.getElem?_eq_getElem (by omega)];rfl
theorem zps(g:G)(m:OkB g)(k:Nat)(e:k<g.blocks.length):zla g zce [.int .i64 k] (.agg (zhS g k).cells):=by
 refine zhX ?_ rfl (by rfl);refine zaK (fn_x zkQ rfl ?_);unfold zfF bldH;conv in Z8 _ _=>reduce
 have q:=hBig;obtain⟨p,n⟩:=zKX m e;have o:=m.stm _ (zfY e);have j:(g.blocks.map Xa).getD k []=(blG g k).cells:=by rw[zg e,zrh e]
 have h:(blG g k).cells=[.int .u32 (blG g k).addr,encL 8 St.cells (blG g k).stmts]:=rfl;have b:((((blG g k).stmts.length:Nat):Int)-1).toNat=(blG g k).stmts.length-1:=by omega
 have c:=(zhS g k).len;have d:=(zhS g k).eight;generalize zhS g k=s at n c d⊢;refine Gw8 j h b n c d @ua @zfJ.eq_1 ?_;intros;exact zfg (zV rfl)
theorem Qu{d e g p:Prop}(a0:d)(b:e)(c:g)(h:d->e->g->p:=by intro a0 b c;(try simp only[evWB,Nat.reduceBEq,Nat.reduceAdd,Nat.reduceSub,Nat.reduceLeDiff,Nat.reduceLT,implies_true,a0,b,c])<;>(repeat' with_reducible apply And.intro)<;>first|(first|exact RowV.of_flat zQ|exact zq rfl;done)|exact fin6):p:=h a0 b c
theorem Qv{e g j k m n o p:Prop}(a0:e)(b:g)(c:j)(a3:k)(a4:m)(a5:n)(d:o)(h:e->g->j->k->m->n->o->p:=by intro a0 b c a3 a4 a5 d;(try simp only[evWB,Nat.reduceBEq,Nat.reduceAdd,Nat.reduceSub,Nat.reduceLeDiff,Nat.reduceLT,implies_true,a0,b,c,a3,a4,a5,d])<;>(repeat' with_reducible apply And.intro)<;>first|(first|exact RowV.of_flat zQ|exact zq rfl;done)|exact fin6):p:=h a0 b c a3 a4 a5 d
theorem ziv(g:G)(A:OkB g)(l:List Nat)(F:l.length<=1000)(z:∀x∈l,x<g.blocks.length):zla g zbb [zc l] (.tup [zc (plG (shpE (eG g) (zhS g) (oneG g)) l),zc (inG (shpE (eG g) (zhS g) (oneG g)) l)]):=by
 refine zhX ?_ rfl (by rfl);refine zaK (fn_x zj4 rfl ?_);unfold ze7 bldH;conv in Z8 _ _=>reduce
 have D:=hBig;generalize y:shpE (eG g) (zhS g) (oneG g)=S;have h:S.cnt=cntE (eG g):=by rw[<-y];rfl
 refine Gw1 @ue ?_;intros
 refine zf (λs:Nat×Nat×Nat=>([(0,.ptr 0 0 0 0 0),(4,.own 2 0 s.2.1 0 (plG S (l.take s.1)).length),(5,.own 3 0 s.2.2 0 (inG S (l.take s.1)).length),(8,zc l),(9,.int .i64 l.length),(10,.int .i64 s.1)],bldH g [(2,.row 1 ((plG S (l.take s.1)).map cN) s.2.1),(3,.row 1 ((inG S (l.take s.1)).map cN) s.2.2)])) 4
  (λs=>s.1<=l.length) (λs=>l.length-s.1) (0,0,0) (Wh _) ?start ?_
 case start=>have u:plG S (l.take 0)=[]:=rfl;have v:inG S (l.take 0)=[]:=rfl;unfold bldH;exact(Xr [(0,0,0),(1,1,0),(2,2,0),(3,3,0)] [] rfl rfl rfl (Qu @ue u v) (Qu @ue u v))
 rintro⟨i,γ,k⟩ hi wf;simp only at hi;clear wf;refine dcU zeb.eq_1 ?_;by_cases e:i<l.length
 case neg=>
  obtain rfl:i=l.length:=by omega
  rw[Wl];have H:=zxb (S:=S) (l:=l);have I:=zHK (S:=S) (l:=l);unfold bldH;refine Gw1 @dF ?_;intros;refine dcU zeg.eq_1 ?_;refine Gw1 @ze6.eq_1 ?_;intros;refine zfg ?_;rw[zoc];exact⟨zel (Wf _) rfl (by omega),zel (by show 2<=3;omega) rfl (by omega),trivial⟩
 have w:=z _ (Wq e);have b:=zIU (S:=S) e;have c:=zKK (S:=S) e;have j:(l.map λ(n:Nat)=>[Xb .i64 (n:Int)]).getD i []=[.int .i64 (l[i]:Int)]:=zg (f:=cN) (d:=[]) e;generalize l[i]=x at w b c j;have p:(((Wd g.blocks.length).map (cntE (eG g))).map λ(n:Nat)=>[Xb .i64 (n:Int)]).getD x []=[.int .i64 (cntE (eG g) x:Int)]:=by rw[zg (by simp;exact w)];simp
 have q:=zxb (S:=S) (l:=l.take i);have t:=zHK (S:=S) (l:=l.take i);rw[WB]at q t;rw[h]at b c;have C:=A.small.1;have B:g.toG.blocks.length=g.blocks.length:=by simp[G.toG]
 unfold bldH;refine Gw3 @dT @ue j ?_;intros
 (repeat first|simp(disch:=try exact dis1) only[evD,Xc,Xd,Xe,p,We,List.length_range]|with_reducible first|intro _|refine aJ ?_)
 by_cases m:cntE (eG g) x=1
 .have o:((cntE (eG g) x:Nat):Int)=1:=by omega
  rw[if_pos m,Ww]at b;rw[if_pos m]at c;refine Gw1 @dT ?_;intros;exact⟨(i+1,γ,k+1),by simp only;omega,by simp only;omega,by rw[b,c];exact(Xr [(0,0,0),(1,1,0),(2,2,0),(3,3,0)] [] rfl rfl rfl (Qv @ue @m9A @m9P @ui @ug @m9C @m9N) (Qv @ue @m9A @m9P @ui @ug @m9C @m9N))⟩
 .have o:¬((cntE (eG g) x:Nat):Int)=1:=by omega
  rw[if_neg m]at b;rw[if_neg m,Ww]at c;refine Gw1 @dF ?_;intros;exact⟨(i+1,γ+1,k),by simp only;omega,by simp only;omega,by rw[b,c];exact(Xr [(0,0,0),(1,1,0),(2,2,0),(3,3,0)] [] rfl rfl rfl (Qv @ue @m9A @m9P @ui @ug @m9C @m9N) (Qv @ue @m9A @m9P @ui @ug @m9C @m9N))⟩
end Go.Ab
namespace Go.Ab
open Go.RowKit Go.Proofs Go.Ab.Dm
noncomputable abbrev shpG(g:G):Shp:=shpE (eG g) (zhS g) (oneG g)
def ztP(g:G)(b:Nat->Ctx->Nd)(x:Nat):Prop:=∀c,zla g zX [.int .i64 (x:Int),ctxA c] (.agg (encN (b x c)))
def wayI(b:Nat->Ctx->Nd)(inl:List Nat)(c:Ctx)(u:Nat):Nd:=if u∈inl then b u c else zeJ c u
theorem zrd{H c:AH}{σ:Nat->Nat->Option (Nat×Nat×Nat)}{D:Nat->Nat->Prop}{t:Bool}{k b l:Int}:Vw H c σ D t (.agg [.int .i64 k,.int .i64 b,.int .i64 l,.nilsl,.nilsl]) (.agg (encN (zax k b l))):=by unfold zax;rw[zaI,zjb];exact⟨.int _ _ _,.int _ _ _,.int _ _ _,zkH,zkH,trivial⟩
theorem zqp(g:G)(j:Nat->Ctx->Nd)(inl:List Nat)(c:Ctx)(u:Nat)(e:∀x∈inl,ztP g j x):zla g zct [.int .i64 (u:Int),zc inl,ctxA c] (.agg (encN (wayI j inl c u))):=by
 refine zhX ?_ rfl flA;refine zaK (fn_x zlj rfl ?_);unfold zgb bldH ctxA;conv in Z8 _ _=>reduce
 have o:=hBig;have b:=zdh inl u;refine Gw0 ?_;intros;refine zd (ze b rfl) ?_;unfold wayI;by_cases d:u∈inl
 .rw[if_pos d,decide_eq_true d];refine Gw1 @ub ?_;intros;refine zad (e u d c _ _ (TOk.cons (by omega) (by omega) (zaa rfl) (TOk.base (by omega)))) ?_;rintro _ _ _ ⟨rfl,rfl,rfl⟩;unfold bldH;refine Gw2 @zx @zaS.eq_1 ?_;intros;exact zfg (zV flA)
 rw[if_neg d,decide_eq_false d];unfold zeJ;by_cases k:(u:Int)=c.f
 .rw[if_pos k];refine Gw2 @dT @ub ?_;intros;refine zd (ze zmL rfl) ?_;refine Gw2 @zx @zaS.eq_1 ?_;intros;exact zfg (zV flA)
 rw[if_neg k];by_cases m:(u:Int)=c.h
 .rw[if_pos m];refine Gw4 @dT @dF @ub @zaS.eq_1 ?_;intros;exact zfg zrd
 rw[if_neg m];by_cases n:(u:Int)=c.x
 .rw[if_pos n];refine Gw4 @dT @dF @ub @zaS.eq_1 ?_;intros;exact zfg zrd
 rw[if_neg n];refine Gw4 @dT @dF @ub @zaS.eq_1 ?_;intros;exact zfg zrd
theorem zIz{g:G}{T:AH}{n:Nat}{o:AObj}(b:2<=n):(bldH g T).put n o=bldH g (T.put n o):=by unfold bldH;simp only[Xn];rw[zbt (show 0≠n by omega),zbt (show 1≠n by omega)];rfl
theorem zy3{g:G}{T:AH}{n:Nat}(b:2<=n):(bldH g T).look n=T.look n:=by unfold bldH;simp only[Xp];rw[zbt (show 0≠n by omega),zbt (show 1≠n by omega)];rfl
theorem TOk.look{n:Nat}{T:AH}(h:TOk n T):T.look n=none:=by
 cases b:T.look n with
 |none=>rfl
 |some o=>have:=(zdq h.low b).1;omega
theorem ztv{n m:Nat}(h:n<=m){b:List (List AV)}(j:zrB n b):zrB m b:=λc g=>by have:=j c g;rw[Wk]at this⊢;intro a e;have d:=this a e;cases a<;>simp only[Xq,Wn]at d⊢<;>first|rfl|omega|cases d
theorem znm{n m:Nat}(h:n<=m):∀{T:AH},zfH n T->zfH m T
 |[],_=>trivial
 |(_,.row ..)::_,b=>⟨⟨WJ b.1.1 h,ztv h b.1.2⟩,znm h b.2⟩
 |(_,.fam ..)::_,b=>⟨⟨WJ b.1.1 h,λp c=>ztv h (b.1.2 p c)⟩,znm h b.2⟩
theorem zwT{l:List Nat}{n:Nat}{o:AObj}(b:memN l n=false):∀A:AH,(A.put n o).cutL l=(A.cutL l).put n o
 |
  []=>by
  simp only[Xn,Xj,b,cond_false]
 |
  (j,u)::t=>by
  by_cases c:j=n
  .subst c;simp only[Xn,Xj,b,cond_false,zci,cond_true]
  .simp only[Xn,zbt c,cond_false,Xj]
   cases d:memN l j with
   |true=>simp only[cond_true];exact zwT b t
   |false=>simp only[cond_false,Xn,zbt c];rw[zwT b t]
theorem zpb{n r k g:Nat}{b:List (List AV)}(d:r<n)(c:zrB n b):∀{T:AH},zfH n T->zfH n (T.put r (.row k b g))
 |[],_=>⟨⟨d,c⟩,trivial⟩
 |
  (j,.row s e g0)::t,h=>by
  simp only[Xn];cases Wm j r
  .exact⟨h.1,zpb d c h.2⟩
  .exact⟨⟨d,c⟩,h.2⟩
 |
  (j,.fam s ins)::t,h=>by
  simp only[Xn];cases Wm j r
  .exact⟨h.1,zpb d c h.2⟩
  .exact⟨⟨d,c⟩,h.2⟩
theorem TOk.put{n k d:Nat}{b:List (List AV)}{T:AH}(h:TOk n T)(j:zrB (n+1) b):TOk (n+1) (T.put n (.row k b d)):=by
 have g:=h.two;refine⟨by omega,?_,λr o c=>?_,zpb (by omega) j (znm (by omega) h.low)⟩
 .have e:memN [0,1] n=false:=by unfold memN memN memN;rw[zbt (by omega),zbt (by omega)];rfl
  rw[zwT e,h.cut]
 .rw[Xm]at c;split at c
  .rename_i e;subst e;exact g
  .exact h.num r o c
theorem zi8{g:G}{T:AH}{n:Nat}(h:TOk n T):zfH n (bldH g T):=by have b:=zHT (g:=g) h.two;unfold bldH at b⊢;exact⟨b.1,b.2.1,h.low⟩
theorem znJ(g:G)(e:Nat->Ctx->Nd)(inl:List Nat)(c:Ctx)(u:Nat)(k:∀x∈inl,ztP g e x)(T:AH)(nx:Nat)(b:TOk nx T)(p:Nat)(d:T.look p=some (.row 1 [[.ptr 0 0 0 0 0]] 0)):
  z7 Z9 zw [.int .i64 (u:Int),.ptr p 0 0 0 0,encP 1 [zc inl],encP 3 [.int .i64 c.f,.int .i64 c.h,.int .i64 c.x]] (bldH g T) nx (λv H n=>v=.agg (encN (wayI e inl c u))/\H=bldH g T/\n=nx):=by
 refine zaK (fn_x zhk rfl ?_);refine dcU zdH.eq_1 ?_;have z:=hBig;have j:=b.two;have m:=b.num _ _ d;have y:=(zdq b.low d).1;have q:(bldH g T).look nx=none:=by rw[zy3 j];exact b.look
 have s:∀o,((bldH g T).put nx o).look p=some (.row 1 [[.ptr 0 0 0 0 0]] 0):=λo=>by rw[Xm,if_neg (by omega),zy3 m];exact d
 have t:=zqp g e inl c u k;generalize wayI e inl c u=w at t⊢;refine Gw4 q s @zuG @ub ?_;intros;rw[zIz j];refine zad (t _ _ (b.put (zaa rfl))) ?_;rintro _ _ _ ⟨rfl,rfl,rfl⟩;rw[<-zIz j];refine Gw5 q s @zuG @zx @zdN.eq_1 ?_;intros;refine⟨_,bldH g T,nx,Xv (Wf _) (λr o h=>?_) (zi8 b) ⟨⟨rfl,?_⟩,trivial⟩,rfl,rfl,rfl⟩
 .have A:=(zdq (zi8 b) h).1;rw[Xm,if_neg (by omega),Xm,if_neg (by omega)];exact h
 .exact zCJ flA
end Go.Ab
