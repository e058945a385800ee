/-
  Part 15 of the proof: how the calls of this program run, over values instead of memory, and what each function computes.
-/
import Derived.Test.YtihlaappclhhaaaGreatJn
set_option maxRecDepth 100000
set_option linter.unusedVariables false
set_option linter.unusedSimpArgs false
set_option linter.unnecessarySimpa false
set_option linter.unusedSectionVars false
open Go.Ab.Ent renaming tabB->Xa,keep->Xl,tab->Xt,foldB->Xw
open Go.Ab.Bl renaming cells->Xb
open Nat renaming reduceBEq->Xc,reduceAdd->Xd,reduceLeDiff->Xg,beq->Xu,beq_refl->Xv,reduceSub->XB,reduceLT->XC,mul_one->XD
open Go.Ab.AV renaming int->Xe,agg->Xh,ren->Xk,flat->Xs,undef->Xz
open Go.Ab.St renaming cells->Xf,eight->Xr
open Go.Ab.Kw renaming no->Xi,z->Xj,cells->Xn
open Go.Ab.RowV renaming of_flat->Xm
open List renaming foldl_cons->Xo,foldl_nil->Xp,getD->Xq,drop_zero->Xx,range_succ->Xy,map_set->XA
open Go.Proofs.Tryz renaming prog->Z9
open And renaming intro→Wa
open Nat renaming zero_le→Wc,zero_add→Wk,le_refl→Wp,add_zero→Wt,lt_succ_self→Ww,le_trans→WD
open List renaming cons_append→Wd,nil_append→We,getElem_mem→Wf,getD_cons_zero→Wi,getD_cons_succ→Wj,length_map→Wn,replicate→Wo,length_cons→Wr,length_nil→Ws,range→Wu,map_congr_left→Wv,drop_eq_getElem_cons→Wx,length_set→WA,map_append→WB,take_length→WE,drop_of_length_le→WF,mem_range→WG,getElem?_eq_some_iff→WH,getElem?_set_ne→WI,map_map→WK,any_eq_true→WL,all_cons→WM,map_cons→WN,length_append→WO,length_singleton→WP,mem_map→WQ,take_zero→WR,getElem?_map→WS,length_range→WV,getElem_range→WW,filter_append→WY,length_filter_le→WZ,findIdx?_eq_some_iff_getElem→W0,set_getElem_self→W3
open Int renaming toNat_natCast→Wg,toNat→Wz
open Bool renaming and_true→Wh,and_false→Wl,true_and→Wm,false_and→Wq,and_eq_true→Wy
open Option renaming map_some→WC,bind_some→WJ,map_eq_some_iff→WU
open Option.some renaming injEq→WX
namespace Go.Ab
open Go.RowKit Go.Proofs
def mpsI(F n i:Nat):List (List AV):=(Wu n).map λj=>if j<i then[.mp F (j+1)]else[.nilmp]
def zsR(i:Nat):Nat->List MC:=λj=>if j<i then setM 0 []else[]
def famI(n i:Nat):AObj:=.fam 3 (fi cm n (zsR i) (λ_=>0))
theorem zD3{F n i}:(mpsI F n i).length=n:=by simp[mpsI]
theorem zAq{F n}:mpsI F n n=mps F n:=by
 unfold mpsI mps;refine Wv λj b=>?_
 rw[if_pos (WG.1 b)]
theorem zGm{F n}:Wo n [AV.nilmp]=mpsI F n 0:=by
 apply List.ext_getElem
 .simp[mpsI]
 .intro k b c;simp[mpsI]
theorem zBh{n}:famI n n=famS n (λ_=>(0,[])):=by
 unfold famI famS fi;congr 1;refine Wv λj b=>?_
 unfold zsR;rw[if_pos (WG.1 b)]
theorem beqN{a b}(h:a≠b):Xu a b=false:=by
 cases c:Xu a b with
 |false=>rfl
 |true=>exact absurd (Nat.eq_of_beq_eq_true c) h
theorem zuk{t}{F i k a}(b:t.at F=some (F,0)):fsig t [(F,i+1,a)] F (k+1)=if k=i then some (a,0,0)else some (F,k+1,0):=by
 unfold fsig;simp only[fat];by_cases h:k=i
 .subst h;rw[if_pos rfl,Xv,Xv];rfl
 .rw[if_neg h,beqN (show i+1≠k+1 by omega),Wl];simp only[cond_false];unfold Tab.sig;rw[b]
theorem zz7{H HH}{σ}{D}{F n i a}(p:∀k,σ F (k+1)=if k=i then some (a,0,0)else some (F,k+1,0)):
  RowV H HH σ D ((mpsI F n i).set i [.mp a 0]) (mpsI F n (i+1)):=by
 refine⟨by simp[mpsI],λj s o=>?_⟩;unfold mpsI at o⊢;simp only[WS,WU]at o;obtain⟨k,q,rfl⟩:=o;obtain⟨c,h⟩:=WH.1 q;simp only[WV]at c;rw[WW]at h;subst h;by_cases b:j=i
 .subst b;rw[if_pos (Ww j)];refine⟨[.mp a 0],by simp[c],rfl,λz x y d g=>?_⟩
  cases z with
  |succ z=>cases d
  |zero=>cases d;cases g;exact .mp _ _ _ _ (by rw[p,if_pos rfl])
 .by_cases m:j<i
  .rw[if_pos (by omega)];refine⟨[.mp F (j+1)],?_,rfl,λz x y d g=>?_⟩
   .rw[WI (λe=>b e.symm)];simp[c,m]
   .cases z with
    |succ z=>cases d
    |zero=>cases d;cases g;exact .mp _ _ _ _ (by rw[p,if_neg b])
  .rw[if_neg (by omega)];refine⟨[.nilmp],?_,rfl,λz x y d g=>?_⟩
   .rw[WI (λe=>b e.symm)];simp[c,m]
   .cases z with
    |succ z=>cases d
    |zero=>cases d;cases g;exact .nilmp _
theorem zGP{H:AH}{F n i k:Nat}(h:H.look F=some (famI n i))(b:k<n):H.get F (k+1)=some (.row 3 ((zsR i k).map cm) 0):=by unfold AH.get;rw[h];simp only[WJ,famI,AObj.part,zre b,WC]
theorem zEt{H h:AH}{σ:Nat->Nat->Option (Nat×Nat×Nat)}{F n i a:Nat}(j:∀k,σ F (k+1)=if k=i then some (a,0,0)else some (F,k+1,0))(m:H.look F=some (famI n i))(o:H.get a 0=some (.row 3 [[.int .i64 0,.undef,.undef]] 0))(k:Nat)(p:List (List AV)×Nat)(g:(fi cm n (zsR (i+1)) (λ_=>0))[k]?=some p) :
  match σ F (k+1)with
   |some (r,q,d)=>∃b,H.get r q=some (.row 3 b (p.2+d))/\RowV H h σ noQ b p.1
   |none=>p=([],0):=by
 rw[zwk]at g;split at g;case isFalse=>cases g
 rename_i s;cases g;rw[j];by_cases c:k=i
 .subst c;rw[if_pos rfl];refine⟨_,o,?_⟩;have:zsR (k+1) k=setM 0 []:=if_pos (Ww k);rw[this];exact Xm (by simp only[zj9,zl2,and_true];rfl)
 .rw[if_neg c];refine⟨_,zGP m s,?_⟩
  have:zsR (i+1) k=zsR i k:=by
   unfold zsR;by_cases e:k<i
   .rw[if_pos e,if_pos (by omega)]
   .rw[if_neg e,if_neg (by omega)]
  rw[this];exact Xm (zK zi6)
theorem zAx{H h:AH}{σ:Nat->Nat->Option (Nat×Nat×Nat)}{F n i a:Nat}{S:Nat->MS}{b:MS}(m:∀k,σ F (k+1)=if k=i then some (a,0,0)else some (F,k+1,0))(o:H.look F=some (famS n S))(s:H.get a 0=some (.row 3 ((setM b.1 b.2).map cm) 0))(k:Nat)(p:List (List AV)×Nat)(g:(fi cm n (λj=>setM (updF S i b j).1 (updF S i b j).2) (λ_=>0))[k]?=some p) :
  match σ F (k+1)with
   |some (r,q,d)=>∃e,H.get r q=some (.row 3 e (p.2+d))/\RowV H h σ noQ e p.1
   |none=>p=([],0):=by
 rw[zwk]at g;split at g;case isFalse=>cases g
 rename_i t;cases g;rw[m];by_cases c:k=i
 .subst c;rw[if_pos rfl];refine⟨_,s,?_⟩;simp only[updF,if_true];exact Xm (zK zi6)
 .rw[if_neg c];refine⟨_,?_,Xm (zK zi6)⟩;simp only[updF,if_neg c];unfold AH.get;rw[o];simp only[WJ,famS,AObj.part,zre t,WC]
theorem zx5{H HH}{σ}{D}{F n i a}(o:∀k,σ F (k+1)=if k=i then some (a,0,0)else some (F,k+1,0)):
  RowV H HH σ D ((mps F n).set i [.mp a 0]) (mps F n):=by
 refine⟨by simp[mps],λj q m=>?_⟩;unfold mps at m⊢;simp only[WS,WU]at m;obtain⟨k,p,rfl⟩:=m;obtain⟨c,g⟩:=WH.1 p;simp only[WV]at c;rw[WW]at g;subst g;by_cases b:j=i
 .subst b;refine⟨[.mp a 0],by simp[c],rfl,λz x y d h=>?_⟩
  cases z with
  |succ z=>cases d
  |zero=>cases d;cases h;exact .mp _ _ _ _ (by rw[o,if_pos rfl])
 .refine⟨[.mp F (j+1)],?_,rfl,λz x y d h=>?_⟩
  .rw[WI (λe=>b e.symm)];simp[c]
  .cases z with
   |succ z=>cases d
   |zero=>cases d;cases h;exact .mp _ _ _ _ (by rw[o,if_neg b])
theorem zBB{H HH}{σ}{D}{F n}:RowV H HH σ D (Wo n [.nilmp]) (mpsI F n 0):=by
 rw[<-zGm];refine⟨rfl,λi e d=>⟨e,d,rfl,λj x y b c=>?_⟩⟩;obtain⟨_,rfl⟩:=WH.1 d;rw[List.getElem_replicate]at b c;rw[b]at c;cases c
 cases j with
 |succ j=>cases b
 |zero=>cases b;exact .nilmp _
theorem zAC{n:Nat}(i:Nat)(p)(b:(fi cm n (zsR 0) (λ_=>0))[i]?=some p):p=([],0):=by
 rw[zwk]at b;split at b
 .cases b;rfl
 .cases b
theorem renP{ρ}{F n g}:AObj.ren ρ (.row 1 (mps F n) g)=.row 1 (mps (ρ F) n) g:=by
 simp only[AObj.ren,mps,WK];congr 1;refine Wv λi _=>?_
 simp[Xk]
theorem zIO{n k:Nat}{S:Nat->MS}{H:AH}{F:Nat}(h:H.look F=some (famS n S))(b:k<n):H.get F (k+1)=some (.row 3 ((setM (S k).1 (S k).2).map cm) 0):=by unfold AH.get;rw[h];simp only[WJ,famS,AObj.part,zre b,WC]
theorem zvd{r q}{c}{b}{H}{nx}(h:H.get r q=some (.row 3 ((setM c b).map cm) 0)):xopR .mlen [.mp r q] H nx=⟨b.length<=big,True,.int .i64 b.length,H,nx⟩:=by show zuB (.mp r q) H nx=_;unfold zuB;simp only;rw[h,zd];simp[enL]
theorem zhy(c)(g:c.length<=1000000):zw Z9 zaC [encL 8 Xf c] (·=.fn (.func zay) (zIv c)):=by
 refine fn_x zgd rfl ?_;unfold zcV;refine Gw1 @zcZ.eq_1 ?_;intros;refine⟨_,.fn _ _ _ _ rfl λi a b d e=>?_,rfl⟩
 cases i with
 |zero=>cases d;cases e;exact .iptr _ _ _
 |succ i=>cases d
def lvH(n:Nat)(S:Nat->MS)(c:Int)(b:List TE):AH:=[(0,.row 3 (tabM c b) 0),(1,.row 1 [[.mp 0 0]] 0),(2,.row 1 (mps 3 n) 0),(3,famS n S)]
def lvK(b:Int)(c:List Bl)(exit:List Int)(n:Nat)(d:Bool):Kn:=[(3,encP 2 [.int .u32 b,encL 2 Xb c]),(4,.ptr 1 0 0 0 0),(5,.iptr 1 λj=>[za exit].getD j .undef),(7,.own 2 0 0 0 n),(9,.bool d)]
abbrev T4:Tab:=[(0,0,0),(1,1,0),(2,2,0),(3,3,0)]
theorem zp3{H HH}{σ}{D}(h:σ 0 0=some (0,0,0)):RowV H HH σ D [[.mp 0 0]] [[.mp 0 0]]:=by
 refine⟨rfl,λi e c=>⟨e,c,rfl,λj x y b d=>?_⟩⟩;rw[b]at d;cases d
 cases i with
 |succ i=>cases c
 |zero=>
  cases c
  cases j with
  |succ j=>cases b
  |zero=>cases b;exact .mp _ _ _ _ h
theorem zF6{K K2}{H}{nx n k}{c}{es}{S}{b}(d:H.get 0 0=some (.row 3 (tabM c es) 0))(e:H.get 1 0=some (.row 1 [[.mp 0 0]] 0))(g:H.get 2 0=some (.row 1 ((mps 3 n).set k [.mp 4 0]) 0))(h:H.look 3=some (famS n S))(j:H.get 4 0=some (.row 3 ((setM b.1 b.2).map cm) 0))(m:zv6 H (lvH n (updF S k b) c es) (fsig T4 [(3,k+1,4)]) K2 K):Ent 1 K H nx K2 (lvH n (updF S k b) c es) 4 :=
 Xw T4 [(3,k+1,4)] rfl rfl rfl rfl rfl ⟨rfl,⟨_,d,zb⟩,rfl,⟨_,e,zp3 rfl⟩,rfl,⟨_,g,zx5 λ_=>zuk rfl⟩,rfl,λi p o=>zAx (λ_=>zuk rfl) h j i p o,trivial⟩ m
def lvI(n i:Nat)(c:Int)(b:List TE):AH:=[(0,.row 3 (tabM c b) 0),(1,.row 1 [[.mp 0 0]] 0),(2,.row 1 (mpsI 3 n i) 0),(3,famI n i)]
theorem zJi{n}{c}{es}:lvI n n c es=lvH n (λ_=>(0,[])) c es:=by unfold lvI lvH;rw[zAq,zBh]
theorem zHx{K K2}{H}{nx n i}{c}{es}(b:H.get 0 0=some (.row 3 (tabM c es) 0))(d:H.get 1 0=some (.row 1 [[.mp 0 0]] 0))(e:H.get 2 0=some (.row 1 ((mpsI 3 n i).set i [.mp 4 0]) 0))(g:H.look 3=some (famI n i))(h:H.get 4 0=some (.row 3 [[.int .i64 0,.undef,.undef]] 0))(k:zv6 H (lvI n (i+1) c es) (fsig T4 [(3,i+1,4)]) K2 K):Ent 1 K H nx K2 (lvI n (i+1) c es) 4 :=
 Xw T4 [(3,i+1,4)] rfl rfl rfl rfl rfl ⟨rfl,⟨_,b,zb⟩,rfl,⟨_,d,zp3 rfl⟩,rfl,⟨_,e,zz7 λ_=>zuk rfl⟩,rfl,λj p m=>zEt (λ_=>zuk rfl) g h j p m,trivial⟩ k
theorem zFL{K K2}{H}{nx n}{c}{es}(b:H.get 0 0=some (.row 3 (tabM c es) 0))(d:H.get 1 0=some (.row 1 [[.mp 0 0]] 0))(e:H.get 3 0=some (.row 1 (Wo n [.nilmp]) 0))(g:zr5 H (lvI n 0 c es) [(0,0,0),(1,1,0),(2,3,0)] [] K2 K):Ent 1 K H nx K2 (lvI n 0 c es) 4 :=
 Xa [(0,0,0),(1,1,0),(2,3,0)] [] rfl rfl rfl ⟨rfl,⟨_,b,zb⟩,rfl,⟨_,d,zp3 rfl⟩,rfl,⟨_,e,zBB⟩,rfl,zAC,trivial⟩ g
theorem zDr{g:G}{k:Nat}{S:Nat->MS}{a:MS}(h:k<g.blocks.length)(d:∀t∈edgB g k,t<g.blocks.length){y:Int}(e:y∈a.keys↔outY S (edgB g k) y):decide (y∈a.keys)=outV g (zfe g.blocks.length S y) k:=by
 unfold outV;rw[Bool.eq_iff_iff,decide_eq_true_iff,e,WL];unfold outY;constructor
 .rintro⟨t,b,c⟩;exact⟨t,b,by rw[zkt (d t b)];exact decide_eq_true c⟩
 .rintro⟨t,b,c⟩;rw[zkt (d t b)]at c;exact⟨t,b,of_decide_eq_true c⟩
structure SizC(U:List Int)(g:G)(l:List Sgn)(at' exit:List Int)(n:Nat):Prop extends UnivC U g l at' exit n where
 ok:OkG g
 blk:g.blocks.length<=1000
 room:∀k,k<g.blocks.length->(edgB g k).length*U.length+(blkG g k).stmts.length*1300<=900000
 edg:∀k,k<g.blocks.length->(edgB g k).length<=1000
 sts:∀k,k<g.blocks.length->(blkG g k).stmts.length<=1000
 siz:∀b∈g.blocks,∀s∈b.stmts,zZ s.e<=300/\s.cases.length<=100000000
 exl:exit.length<=n
 n12:12<=n
 arg:∀a,(zaJ l at' a).args.length<=9223372036854775807
theorem Qz{p:Prop}(h:p:=by(try simp only[evWB,Nat.reduceBEq,Nat.reduceAdd,Nat.reduceSub,Nat.reduceLeDiff,Nat.reduceLT,implies_true,zd,za,famS])<;>(repeat' with_reducible apply And.intro)<;>first|(first|exact zb|exact zj;done)|exact fin8):p:=h
theorem QI{c d p:Prop}(a0:c)(b:d)(h:c->d->p:=by intro a0 b;(try simp only[evWB,Nat.reduceBEq,Nat.reduceAdd,Nat.reduceSub,Nat.reduceLeDiff,Nat.reduceLT,implies_true,a0,b])<;>(repeat' with_reducible apply And.intro)<;>first|(exact zb;done)|exact fin8):p:=h a0 b
theorem uh:type_of% @bfH.eq_1:=@bfH.eq_1
set_option maxHeartbeats 1000000 in
theorem lv_l5(l)(d)(p)(o)(b)(U)(m)(c)(es)(ht:TabS l d es)(q:SizC U ⟨o,b⟩ l d (zax p) m)(S0)(h0:LivS U ⟨o,b⟩ l d p S0){Q}(hfin:∀(S:Nat->MS)(D:Bool),LivS U ⟨o,b⟩ l d p S->(D=true->muS b.length U.length S<muS b.length U.length S0)->(D=false->S=S0/\∀j,j<b.length->∀y,0<=y->zhU ⟨o,b⟩ l d p y (zfe b.length S y) j=(zfe b.length S y).getD j false)->Q .normal (lvK o b (zax p) b.length D++[(10,.int .i64 (0-1)),(34,.bool false)]) (lvH b.length S c es) 4){K}{H}{nx}(Z:Ent 1 K H nx (lvK o b (zax p) b.length false++[(10,.int .i64 ((b.length:Int)-1))]) (lvH b.length S0 c es) 4) :
  znL Z9 1 zdl (zdB 4 Q) K H nx:=by
 have hB:=hBig;have hn:=q.blk;simp only at hn
 refine zc (λs:Nat×(Nat->MS)×Bool=>(lvK o b (zax p) b.length s.2.2++[(10,.int .i64 ((s.1:Int)-1))],lvH b.length s.2.1 c es)) 4
  (λs=>s.1<=b.length/\LivS U ⟨o,b⟩ l d p s.2.1/\(s.2.2=true->muS b.length U.length s.2.1<muS b.length U.length S0)/\(s.2.2=false->s.2.1=S0/\∀j,s.1<=j->j<b.length->∀y,0<=y->zhU ⟨o,b⟩ l d p y (zfe b.length S0 y) j=(zfe b.length S0 y).getD j false)) (λs=>s.1) (b.length,S0,false)
  ⟨Wp _,h0,(λh=>by cases h),λ_=>⟨rfl,λj T A=>absurd T (Nat.not_le.2 A)⟩⟩ Z ?_
 rintro⟨k,S,D⟩ ⟨hk,I,B,C⟩ wf;simp only at hk I B C;clear wf;refine dcU zdl.eq_1 ?_;simp only[lvK,lvH,Wd,We]
 cases k with
 |zero=>
  refine Gw2 @dF @Int.natCast_zero ?_;intros
  exact hfin S D I B (λh=>by
   obtain⟨F,e2⟩:=C h;subst F
   exact⟨rfl,λj hj=>e2 j (Wc _) hj⟩)
 |succ k=>
  have n:k<b.length:=by omega
  have ek:((k+1:Nat):Int)-1=k:=by omega
  have gb:(b.map Xb).getD k []=b[k].cells:=zk (f:=Xb) n;have Y:blkG ⟨o,b⟩ k=b[k]:=zaR (g:=⟨o,b⟩) n;have hEI:zar b[k].stmts=(edgB ⟨o,b⟩ k).map λ(t:Nat)=>(t:Int):=zu4 q.ok (g:=⟨o,b⟩) n
  have v:=zrq q.ok (g:=⟨o,b⟩) n;have L:=q.room k n;have hsts:=q.sts k n;rw[Y]at L hsts;have u:b[k]∈b:=Wf n;have hat:=ziE b[k] (λs M=>(q.siz _ u s M).2) b.length S (edgB ⟨o,b⟩ k) hEI v (q.edg k n) hn U.length (by omega) (λi hi=>⟨(I.inU i hi).ok,(I.inU i hi).len⟩);have hout:=λa (h:∀y,y∈a.keys↔outY S (edgB ⟨o,b⟩ k) y) (y:Int)=>zDr (g:=⟨o,b⟩) (k:=k) (S:=S) (a:=a) n v (h y)
  have htwo:[b[k].cells.getD 0 .undef,b[k].cells.getD 1 .undef]=b[k].cells:=by cases b[k];rfl
  refine Gw6 ek @dT gb @ub @zC htwo ?_;intros;have hvm:RowV (lvH b.length S c es) (atH b.length S) (Tab.sig [(0,2,0),(1,3,0)]) (inD []) (mps 3 b.length) (mps 1 b.length):=zkf λ_=>rfl
  refine zx [(0,2,0),(1,3,0)] 2 _ (hat) rfl rfl (Gin8_2 @atH.eq_1 @lvH.eq_1) (Gin8_2 @atH.eq_1 @lvH.eq_1) ?_;rintro _ _ _ ⟨rfl,rfl,a0,rfl,ha0,hl1,hl2,hmm⟩;simp only[atH,Wd,We];have gs:(b[k].cells.getD 1 .undef)=encL 8 Xf b[k].stmts:=by cases b[k];rfl
  have hbw:=zhy b[k].stmts (by omega);have to6:Tab.to [(0,2,0),(1,3,0)] 4 2=6:=rfl;have to3:Tab.to [(0,2,0),(1,3,0)] 4 1=3:=rfl
  (repeat first|simp(disch:=try exact dis1) only[evD,Xc,Xd,Xg,renM,renF,renP,Xk,to6,to3,AV.solid,AV.cells,gb,fldP,zC,gs]|with_reducible first|intro _|refine aJ ?_)
  refine zg (ze hbw rfl) ?_;refine Gw0 ?_;intros;generalize hss:b[k].stmts=ss at *
  have hA0:InU U a0:=⟨ha0,λy hy=>by
   obtain⟨t,T,A⟩:=(hmm y).1 hy
   exact(I.inU t (v t T)).sub y A⟩
  have J:∀s∈ss,(∀x∈zjd s,x∈U)/\(∀x∈zlo l d (zax p) s,x∈U)/\(nub (zlo l d (zax p) s)).length<=m/\zZ s.e<=300:=λs M=>by rw[<-hss]at M;exact⟨q.uses _ u s M,q.more _ u s M,q.mlen _ u s M,(q.siz _ u s M).1⟩
  have hb1:a0.1+(ss.length:Int)*1300<=900000:=by omega
  have hb2:a0.2.length+ss.length*1300<=900000:=by omega
  have V:∀s,InU U (zib l d (zax p) (ss.drop s) a0)/\(zib l d (zax p) (ss.drop s) a0).1<=900000/\(zib l d (zax p) (ss.drop s) a0).2.length<=900000:=λs=>by
   have hd:(ss.drop s).length<=ss.length:=by rw[List.length_drop];exact Nat.sub_le _ _
   have hd2:(ss.drop s).length*1300<=ss.length*1300:=Nat.mul_le_mul_right _ hd;have hd3:((ss.drop s).length:Int)*1300<=(ss.length:Int)*1300:=by omega
   obtain⟨F,e2,e3⟩:=zvc q.nlen (ss:=ss.drop s) (a:=a0) (λx P=>J x (List.mem_of_mem_drop P)) hA0 (Int.le_trans (Int.add_le_add_left hd3 _) hb1) (WD (Nat.add_le_add_left hd2 _) hb2);exact⟨F,by omega,by omega⟩
  refine zo9 rfl (λc hc=>by rw[List.mem_singleton.1 hc];exact .iptr _ _) (zfW ss (by omega)) (λs x s' h=>by cases s with|zero=>cases h|succ s=>cases h;rfl) (lvK o b (zax p) b.length D++[(10,.int .i64 k),(11,.ptr 5 0 0 0 0)]) (λa:MS=>lvH b.length S c es++[(4,.row 3 ((setM a.1 a.2).map cm) 0),(5,.row 1 [[.mp 4 0]] 0)]) 6
   (λa s=>s<=ss.length/\a=zib l d (zax p) (ss.drop s) a0) (λa e=>False) a0 (λa s h=>trivial) ⟨Wp _,by rw[List.drop_length];rfl⟩ ?_ ?_ ?_ (λa e h=>h.elim)
  .simp only[lvK,lvH,Wd,We];exact(Xa [(0,0,0),(1,1,0),(2,2,0),(3,3,0),(4,6,0),(5,7,0)] [] rfl rfl rfl Qz Qz)
  .rintro a s x s' ⟨T,A⟩ P wf;clear wf
   cases s with
   |zero=>cases P
   |succ s=>
   simp only[zB3,WX,Prod.mk.injEq]at P;obtain⟨rfl,rfl⟩:=P;have O:s<ss.length:=by omega
   have hgs:ss.getD s noSt=ss[s]:=by simp[Xq,O]
   have hdr:ss.drop s=ss[s]::ss.drop (s+1):=Wx O;have hnew:zib l d (zax p) (ss.drop s) a0=befT l d (zax p) ss[s] a:=by rw[hdr,A];rfl
   obtain⟨R,q2,q3⟩:=V (s+1);rw[<-A]at R q2 q3;have hst:=J ss[s] (Wf O);have hnl:=q.nlen;have W:=zhe a ss[s] l d (zax p) c es ht R.ok (by omega) m (by omega) q.exl q.n12 q.arg (by omega) (by omega);rw[hgs];rw[<-hnew]at W;have w:[ss[s].cells.getD 0 .undef,ss[s].cells.getD 1 .undef,ss[s].cells.getD 2 .undef,ss[s].cells.getD 3 .undef,ss[s].cells.getD 4 .undef,ss[s].cells.getD 5 .undef,ss[s].cells.getD 6 .undef,ss[s].cells.getD 7 .undef]=ss[s].cells:=Xr _;simp only[znG,lvK,lvH,Wd,We];refine dcU zgD.eq_1 ?_;have hc8:ss[s].cells.length=8:=rfl;refine Gw2 @ub w ?_;intros;refine dcU zgL.eq_1 ?_;refine Gw3 @ub @zC w ?_;intros;refine zx [(0,4,0),(1,0,0)] 2 _ W rfl rfl (QI @zd @uh) (QI @zd @uh) ?_;rintro _ _ _ ⟨rfl,rfl,rfl⟩;simp only[bfH];refine Gw2 @renM @zdP ?_;intros;exact⟨_,⟨by omega,rfl⟩,(Xa [(0,0,0),(1,1,0),(2,2,0),(3,3,0),(4,4,0),(5,5,0)] [] rfl rfl rfl Qz Qz)⟩
  .rintro a s ⟨T,A⟩ P;have hs0:s=0:=by cases s with|zero=>rfl|succ s=>cases P
   subst hs0;rw[Xx]at A;simp only[lvK,lvH,Wd,We];refine Gw0 ?_;intros;refine dcU zgH.eq_1 ?_;obtain⟨R,q2,q3⟩:=V 0;rw[Xx,<-A]at R q2 q3;have hal:=R.len;have hUl:=q.len;have hSl:=(I.inU k n).len;have m1:=λ(H:AH) (nx:Nat) (h:H.get 4 0=some (.row 3 ((setM a.1 a.2).map cm) 0))=>zvd (nx:=nx) h
   have m2:=λ(H:AH) (nx:Nat) (h:H.get 3 (k+1)=some (.row 3 ((setM (S k).1 (S k).2).map cm) 0))=>zvd (nx:=nx) h
   refine Gw0 ?_;intros;rw[m1 _ _ rfl]
   (repeat first|simp(disch:=try exact dis1) only[evD,Xc,Xd,Xg,zs6,ztM n,Wg]|with_reducible first|intro _|refine aJ ?_)
   rw[m2 _ _ (zIO rfl n)];have X:∀y,0<=y->decide (y∈a.keys)=zhU ⟨o,b⟩ l d p y (zfe b.length S y) k:=λy hy=>by rw[A,zss hy,hout a0 hmm y];unfold zhU;rw[Y,hss]
   obtain⟨hs1,hs2⟩:=zEm (g:=⟨o,b⟩) I n R X q.pos;by_cases he:a.2.length=(S k).2.length
   ·(refine Qa ?_;intros);refine dcU zc3.eq_1 ?_;refine Gw0 ?_;intros;refine⟨(k,S,D),⟨by omega,I,B,λh=>?_⟩,Ww k,?_⟩
    .obtain⟨F,e2⟩:=C h;refine⟨F,λj hj1 hj2=>?_⟩;rcases Nat.lt_or_ge k j with hkj|hkj
     .exact e2 j hkj hj2
     .obtain rfl:j=k:=by simp only at hj1;omega
      rw[<-F];exact hs1 he
    .simp only[lvK,lvH,Wd,We];exact(Xa [(0,0,0),(1,1,0),(2,2,0),(3,3,0)] [] rfl rfl rfl Qz Qz)
   .obtain⟨hs3,N⟩:=hs2 he
    (repeat first|simp(disch:=try exact dis1) only[evD,Xc,Xd,Xg,dT,zs6,ztM n,Wg]|with_reducible first|intro _|refine aJ ?_)
    refine dcU zc3.eq_1 ?_;refine Gw0 ?_;intros;refine⟨(k,updF S k a,true),⟨by omega,hs3,λ_=>?_,λh=>by cases h⟩,Ww k,?_⟩
    .simp only at N⊢
     cases D with
     |true=>exact Nat.lt_trans N (B rfl)
     |false=>obtain⟨F,_⟩:=C rfl;rw[<-F];exact N
    .exact zF6 rfl rfl rfl rfl rfl ⟨zM rfl,.ptr _ _ _ _ _ _ _ _ _ rfl rfl,.iptr _ _ _,.own _ _ _ 0 _ _ _ _ _ rfl rfl,.bool _ _,.int _ _ _,trivial⟩
structure LiveR(U:List Int)(g:G)(l:List Sgn)(at':List Int)(ex:Bool)(S:Nat->MS):Prop where
 inU:∀b,b<g.blocks.length->InU U (S b)
 bit:∀y,0<=y->∀b,b<g.blocks.length->decide (y∈(S b).keys)=(zhi g.blocks.length (zhU g l at' ex y)).getD b false
def zKJ(n:Nat)(S:Nat->MS)(c:Int)(b:List TE):AH:=[(0,.row 3 (tabM c b) 0),(1,.row 1 (mps 2 n) 0),(2,famS n S)]
theorem lv_l6(l)(at')(ex)(d)(b)(U)(m)(c)(es)(B:TabS l at' es)(q:SizC U ⟨d,b⟩ l at' (zax ex) m){Q}(k:∀(S:Nat->MS),LiveR U ⟨d,b⟩ l at' ex S->Q .normal [(3,encP 2 [.int .u32 d,encL 2 Xb b]),(4,.ptr 1 0 0 0 0),(5,.iptr 1 λj=>[za (zax ex)].getD j .undef),(7,.own 2 0 0 0 b.length),(28,.bool false)] (lvH b.length S c es) 4){K}{H}{nx}(g:Ent 1 K H nx (lvK d b (zax ex) b.length true) (lvH b.length (λ_=>(0,[])) c es) 4) :
  znL Z9 1 zdb (zdB 2 Q) K H nx:=by
 have C:=hBig;have A:=q.blk;simp only at A
 refine zc (λs:(Nat->MS)×Bool=>(lvK d b (zax ex) b.length s.2,lvH b.length s.1 c es)) 4
  (λs=>LivS U ⟨d,b⟩ l at' ex s.1/\(s.2=false->∀j,j<b.length->∀y,0<=y->zhU ⟨d,b⟩ l at' ex y (zfe b.length s.1 y) j=(zfe b.length s.1 y).getD j false)) (λs=>2*muS b.length U.length s.1+(if s.2 then 1 else 0)) (λ_=>(0,[]),true)
  ⟨zBf U ⟨d,b⟩ l at' ex,λh=>by cases h⟩ g ?_
 rintro⟨S,u⟩ ⟨n,p⟩ wf;simp only at n p;clear wf;refine dcU zdb.eq_1 ?_;simp only[lvK,lvH,Wd,We]
 cases u with
 |false=>refine Gw0 ?_;intros;exact k S ⟨n.inU,zEh n (p rfl)⟩
 |true=>
  refine Gw2 @ub @zC ?_;intros;refine lv_l5 l at' ex d b U m c es B q S n (λt e w x o=>?_) ?_
  .simp only[lvK,lvH,Wd,We];refine Gw0 ?_;intros;refine⟨(t,e),⟨w,λh=>(o h).2⟩,?_,?_⟩
   .cases e with
    |true=>have:=x rfl;simp only[if_true];omega
    |false=>obtain⟨v,_⟩:=o rfl;subst v;simp
   .exact(Xa [(0,0,0),(1,1,0),(2,2,0),(3,3,0)] [] rfl rfl rfl Qz Qz)
  .simp only[lvK,lvH,Wd,We];exact(Xa [(0,0,0),(1,1,0),(2,2,0),(3,3,0)] [] rfl rfl rfl Qz Qz)
theorem zuO(g)(l)(at')(ex)(U)(m)(c)(es)(q:TabS l at' es)(h:SizC U g l at' (zax ex) m):
  z7 Z9 zck [.agg g.cells,.mp 0 0,za (zax ex)] [(0,.row 3 (tabM c es) 0)] 1
  (λv H s=>∃S,v=.own 1 0 0 0 g.blocks.length/\H=zKJ g.blocks.length S c es/\s=3/\LiveR U g l at' ex S):=by
 refine zS (fn_x zuW rfl ?_);refine dcU zor.eq_1 ?_;have t:=hBig;obtain⟨e,b⟩:=g;have p:=h.blk;simp only at p⊢;refine Gw3 @ub @zC @G.cells.eq_1 ?_;intros;refine⟨⟨rfl,rfl⟩,λ_ _=>⟨⟨by omega,by omega,by omega⟩,λ_=>?_⟩⟩
 refine zc (λi:Nat=>([(3,encP 2 [.int .u32 e,encL 2 Xb b]),(4,.ptr 1 0 0 0 0),(5,.iptr 1 λj=>[za (zax ex)].getD j .undef),(7,.own 2 0 0 0 b.length),(19,.int .i64 b.length),(20,.int .i64 i)],lvI b.length i c es)) 4
  (λi=>i<=b.length) (λi=>b.length-i) 0 (Wc _) ?_ ?_
 .simp only[Int.natCast_zero];exact zFL rfl rfl rfl ⟨zM rfl,.ptr _ _ _ _ _ _ _ _ _ rfl rfl,.iptr _ _ _,.own _ _ _ 0 _ _ _ _ _ rfl rfl,.int _ _ _,.int _ _ _,trivial⟩
 rintro i u wf;clear wf;refine dcU zem.eq_1 ?_;simp only[lvI];by_cases o:i<b.length
 ·(refine Gw2 @dT @zD3 ?_;intros);exact⟨i+1,by omega,by omega,zHx rfl rfl rfl rfl rfl ⟨zM rfl,.ptr _ _ _ _ _ _ _ _ _ rfl rfl,.iptr _ _ _,.own _ _ _ 0 _ _ _ _ _ rfl rfl,.int _ _ _,.int _ _ _,trivial⟩⟩
 .obtain rfl:i=b.length:=by omega
  refine Qa ?_;intros;refine dcU zes.eq_1 ?_;refine Gw0 ?_;intros;refine lv_l6 l at' ex e b U m c es q h (λS k=>?_) ?_
  .simp only[lvH];refine Gw0 ?_;intros;unfold zgE;refine Gw1 @zgn.eq_1 ?_;intros;exact⟨.own 1 0 0 0 b.length,zKJ b.length S c es,3,(by unfold zKJ;exact(Xa [(0,0,0),(1,2,0),(2,3,0)] [] rfl rfl rfl Qz Qz)),S,rfl,rfl,rfl,k⟩
  .have d:=zJi (n:=b.length) (c:=c) (es:=es);unfold lvI at d;rw[d];simp only[lvK,lvH];exact(Xa [(0,0,0),(1,1,0),(2,2,0),(3,3,0)] [] rfl rfl rfl Qz Qz)
theorem if_and{α:Type}{p q:Prop}[Decidable p][Decidable q]{x y:α}(h:p):(if p/\q then x else y)=if q then x else y:=by by_cases b:q<;>simp[h,b]
theorem ul:type_of% @Nat.zero_add:=@Nat.zero_add
theorem uq:type_of% @zE.eq_1:=@zE.eq_1
theorem zuL(rs)(hR:CanR rs):∀(k:Nat)(e:Ex),zbn e<=k->zg7 e=true->zw Z9 zcb [.agg (encR rs),.agg (encX e)] (·=.agg (zsn rs e).cells):=by
 have hr:=hR.1;intro k
 induction k with
 |zero=>intro e h;obtain⟨_,_,_,_,l⟩:=e;rw[zbn]at h;omega
 |succ k ih=>
 intro e hk hfm;obtain⟨op,n,v,w,l⟩:=e;refine fn_x zlq rfl ?_;unfold zfN;have hB:=hBig;rw[zbn]at hk;rw[zg7,Wy]at hfm;obtain⟨hfl,Z⟩:=hfm;unfold zy at Z;replace Z:=of_decide_eq_true Z;rw[zsn];generalize hE:encX (.mk op n v w l)=E;rw[zdh]at hE;subst hE;have u:(encR rs).length=24:=by rw[zcI];omega
 have t:∀l:List AV,(Xh l).cells=l:=λ_=>rfl
 have D:∀l:List AV,(Xh l).solid=true:=λ_=>rfl
 have retK:∀(H:AH)(c:Kw),∃a,Frz H (.agg c.cells) a/\a=.agg c.cells:=λH c=>⟨_,zM rfl,rfl⟩
 have b:∀c:Kw,c.cells.length=3:=λ_=>rfl
 by_cases h2:op=2
 .subst h2;have hv0:0<=v:=by omega
  by_cases hv8:v<8
  .rw[if_pos ⟨rfl,hv0,hv8⟩];have sr:=zpV (rs:=rs) (k:=v.toNat) (by omega);refine Gw10 @dT @dF t D u @ub @ul @ziO sr @uq ?_;intros;exact⟨rfl,retK _ _⟩
  .rw[if_neg (by omega),if_neg (by omega)];refine Gw7 @dT @dF t D u @ub @uq ?_;intros;exact retK _ Xi
 rw[if_neg (λh=>h2 h.1)];by_cases K:op=3\/op=4
 case neg=>
  rw[if_neg (λh=>K h.1)];have h3:¬op=3:=λh=>K (.inl h)
  have h4:¬op=4:=λh=>K (.inr h)
  refine Gw7 @dT @dF t D u @ub @uq ?_;intros;exact retK _ Xi
 have hl2:l.length=2:=by omega
 obtain⟨a,R,I,W,X,V,U⟩:∃a R I W X V,l=[a,.mk R I W X V]:=by
  match l,hl2 with
  |[a,.mk R I W X V],_=>exact⟨a,R,I,W,X,V,rfl⟩
 have ga:(l.map encX).getD (Wz 0) []=encX a:=by rw[U];rfl
 have J:(l.map encX).getD (Wz 1) []=[.int .i64 R,.int .u32 I,.int .i64 W,.int .i64 X,encL 5 encX V]:=by rw[U];show encX (.mk R I W X V)=_;rw[zdh]
 rw[show opAt1 l=R by rw[U];rfl,show nAt1 l=I by rw[U];rfl,show zpG rs l=zsn rs a by rw[U,zpG]]
 have hsz:zbn a<=k:=by
  have:zZ l=zbn a+(zbn (Ex.mk R I W X V)+0):=by rw[U,zZ,zZ,zZ]
  omega
 have hfa:zg7 a=true:=by rw[U,zeh,Wy]at hfl;exact hfl.1
 have Y:=ih a hsz hfa;have N:=zyw hR a;clear U;have T:[Xh (encR rs),Xh (encX a)].all Xs=true:=by rw[WM,flX rfl,Wh];exact zsV rs
 rw[if_and K];generalize zsn rs a=c at Y N⊢;have g:c.cells.getD 0 .undef=.int .i64 c.st:=rfl;have o:c.cells.getD 2 .undef=.int .u32 c.n:=rfl;have p:∀m:Int,splice c.cells 2 [.int .u32 m]=(⟨c.st,c.base,m⟩:Kw).cells:=λm=>rfl
 rcases K with rfl|rfl
 .have L:addK 3 I c=if c.st=1 then { c with n:=IntKind.u32.wrap (c.n+I) }else c:=by unfold addK;simp
  refine Gw7 @dT @dF t D u @ub J ?_;intros;refine zsA zaZ zel zdW zaM [(20,(.agg (encR rs))),(21,(.iptr 1 λj=>[Xe .i64 3,.int .u32 n,.int .i64 v,.int .i64 w,encL 5 encX l].getD (4+j) .undef)),(22,encL 5 encX l),(23,(.iptr 5 λj=>(encX a).getD j .undef)),(24,.agg (encX a)),(25,.agg c.cells),(5,.ptr 2 0 0 0 0)] (hsOf [([(0,.row 24 [encR rs] 0),(1,.row 3 [[.int .i64 0,.int .i64 0,.int .u32 0]] 0)],2),([(0,.row 24 [encR rs] 0),(1,.row 3 [[.int .i64 0,.int .i64 0,.int .u32 0]] 0),(2,.row 3 [[.int .i64 0,.int .i64 0,.int .u32 0]] 0)],3),([(0,.row 24 [encR rs] 0),(1,.row 3 [[.int .i64 0,.int .i64 0,.int .u32 0]] 0),(2,.row 3 [c.cells] 0)],3)]) (by kernel_rfl) (by rfl) (by rfl) (by repeat' first|exact QExt.retK|apply QExt.seq|apply QExt.block|apply QExt.loop|apply QExt.join|assumption) ?plan [(5,.ptr 2 0 0 0 0)] (by rfl) ?fin
  case' plan=>
   intro q hs s hH;have x:q.get 20=(.agg (encR rs)):=by rw[s,zi];rfl
   have y:q.get 21=(.iptr 1 λj=>[Xe .i64 3,.int .u32 n,.int .i64 v,.int .i64 w,encL 5 encX l].getD (4+j) .undef):=by rw[s,zi];rfl
   have A:q.get 22=encL 5 encX l:=by rw[s,zi];rfl
   have B:q.get 23=(.iptr 5 λj=>(encX a).getD j .undef):=by rw[s,zi];rfl
   have C:q.get 24=.agg (encX a):=by rw[s,zi];rfl
   have d:q.get 25=.agg c.cells:=by rw[s,zi];rfl
   have Q:q.get 5=.ptr 2 0 0 0 0:=by rw[s,zi];rfl
   have O:q.get 2=.ptr 0 0 0 0 0:=by rw[s,zi];rfl
   have P:q.get 3=encP 5 [.int .i64 3,.int .u32 n,.int .i64 v,.int .i64 w,encL 5 encX l]:=by rw[s,zi];rfl
   simp only[zaM,zis,zkR,and_true]
   (repeat' with_reducible apply Wa)
   all_goals(rw[hH];simp only[znI,zbL,Wj,Wi,hsOf,hsAt,beqL,zgc,Xc,Wh,Wm,Wl,Wq,cond_true,cond_false,Wr,Ws,Xd])
   all_goals try(simp(disch:=try exact dis1) only[evD,Xc,Xd,Xg,zci,zbt,x,y,A,B,C,d,Q,O,P,fldP,zC,ga,zam,zab,b];done)
  case' fin=>simp only[zaZ,hsOf,hsAt,beqL,zgc,Xc,Wh,Wm,Wl,Wq,cond_true,cond_false,Wr,Ws,Xd,Wj,Wi,zaL]
  .by_cases M:R=1
   .rw[if_pos M,L];rcases N with S|F|S
    .have F:c.st=0:=by rw[S];rfl
     rw[if_neg (by omega)];refine Gw13 @dT @dF g o p @ub @zC J b t D u @uq ?_;intros;exact retK _ c
    .rw[if_pos F];refine Gw13 @dT @dF g o p @ub @zC J b t D u @uq ?_;intros;exact retK _ ⟨c.st,c.base,_⟩
    .have F:c.st=2:=by rw[S];rfl
     rw[if_neg (by omega)];refine Gw13 @dT @dF g o p @ub @zC J b t D u @uq ?_;intros;rw[S];exact retK _ Xi
   .rw[if_neg M];by_cases hs0:c.st=0
    ·(refine Gw13 @dT @dF g o p @ub @zC J b t D u @uq ?_;intros);exact retK _ Xi
    ·(refine Gw13 @dT @dF g o p @ub @zC J b t D u @uq ?_;intros);exact retK _ Xi
  all_goals(repeat first|simp(disch:=try exact dis1) only[evD,Xc,Xd,Xg,x,y,A,B,C,d,Q,O,P,fldP,zC,ga,zam,zab,b,zci,zbt,t,D,u]|with_reducible first|intro _|refine aJ ?_)
  all_goals first
   |omega
   |(refine zF (ze Y T) ?_;(refine Gw3 @zci @zbt d ?_;intros;try with_reducible exact trivial))
 .have L:addK 4 I c=if c.st=1 then { c with n:=IntKind.u32.wrap (c.n-I) }else c:=by unfold addK;simp
  refine Gw7 @dT @dF t D u @ub J ?_;intros;refine zsA zaZ zel zdW zaM [(20,(.agg (encR rs))),(21,(.iptr 1 λj=>[Xe .i64 4,.int .u32 n,.int .i64 v,.int .i64 w,encL 5 encX l].getD (4+j) .undef)),(22,encL 5 encX l),(23,(.iptr 5 λj=>(encX a).getD j .undef)),(24,.agg (encX a)),(25,.agg c.cells),(5,.ptr 2 0 0 0 0)] (hsOf [([(0,.row 24 [encR rs] 0),(1,.row 3 [[.int .i64 0,.int .i64 0,.int .u32 0]] 0)],2),([(0,.row 24 [encR rs] 0),(1,.row 3 [[.int .i64 0,.int .i64 0,.int .u32 0]] 0),(2,.row 3 [[.int .i64 0,.int .i64 0,.int .u32 0]] 0)],3),([(0,.row 24 [encR rs] 0),(1,.row 3 [[.int .i64 0,.int .i64 0,.int .u32 0]] 0),(2,.row 3 [c.cells] 0)],3)]) (by kernel_rfl) (by rfl) (by rfl) (by repeat' first|exact QExt.retK|apply QExt.seq|apply QExt.block|apply QExt.loop|apply QExt.join|assumption) ?plan2 [(5,.ptr 2 0 0 0 0)] (by rfl) ?fin2
  case' plan2=>
   intro q hs s hH;have x:q.get 20=(.agg (encR rs)):=by rw[s,zi];rfl
   have y:q.get 21=(.iptr 1 λj=>[Xe .i64 4,.int .u32 n,.int .i64 v,.int .i64 w,encL 5 encX l].getD (4+j) .undef):=by rw[s,zi];rfl
   have A:q.get 22=encL 5 encX l:=by rw[s,zi];rfl
   have B:q.get 23=(.iptr 5 λj=>(encX a).getD j .undef):=by rw[s,zi];rfl
   have C:q.get 24=.agg (encX a):=by rw[s,zi];rfl
   have d:q.get 25=.agg c.cells:=by rw[s,zi];rfl
   have Q:q.get 5=.ptr 2 0 0 0 0:=by rw[s,zi];rfl
   have O:q.get 2=.ptr 0 0 0 0 0:=by rw[s,zi];rfl
   have P:q.get 3=encP 5 [.int .i64 4,.int .u32 n,.int .i64 v,.int .i64 w,encL 5 encX l]:=by rw[s,zi];rfl
   simp only[zaM,zis,zkR,and_true]
   (repeat' with_reducible apply Wa)
   all_goals(rw[hH];simp only[znI,zbL,Wj,Wi,hsOf,hsAt,beqL,zgc,Xc,Wh,Wm,Wl,Wq,cond_true,cond_false,Wr,Ws,Xd])
   all_goals try(simp(disch:=try exact dis1) only[evD,Xc,Xd,Xg,zci,zbt,x,y,A,B,C,d,Q,O,P,fldP,zC,ga,zam,zab,b];done)
  case' fin2=>simp only[zaZ,hsOf,hsAt,beqL,zgc,Xc,Wh,Wm,Wl,Wq,cond_true,cond_false,Wr,Ws,Xd,Wj,Wi,zaL]
  .by_cases M:R=1
   .rw[if_pos M,L];rcases N with S|F|S
    .have F:c.st=0:=by rw[S];rfl
     rw[if_neg (by omega)];refine Gw13 @dT @dF g o p @ub @zC J b t D u @uq ?_;intros;exact retK _ c
    .rw[if_pos F];refine Gw13 @dT @dF g o p @ub @zC J b t D u @uq ?_;intros;exact retK _ ⟨c.st,c.base,_⟩
    .have F:c.st=2:=by rw[S];rfl
     rw[if_neg (by omega)];refine Gw13 @dT @dF g o p @ub @zC J b t D u @uq ?_;intros;rw[S];exact retK _ Xi
   .rw[if_neg M];by_cases hs0:c.st=0
    ·(refine Gw13 @dT @dF g o p @ub @zC J b t D u @uq ?_;intros);exact retK _ Xi
    ·(refine Gw13 @dT @dF g o p @ub @zC J b t D u @uq ?_;intros);exact retK _ Xi
  all_goals(repeat first|simp(disch:=try exact dis1) only[evD,Xc,Xd,Xg,x,y,A,B,C,d,Q,O,P,fldP,zC,ga,zam,zab,b,zci,zbt,t,D,u]|with_reducible first|intro _|refine aJ ?_)
  all_goals first
   |omega
   |(refine zF (ze Y T) ?_;(refine Gw3 @zci @zbt d ?_;intros;try with_reducible exact trivial))
theorem zmy:zw Z9 zgo [] (·=.agg (encR ownR)):=by
 refine fn_x ztj rfl ?_;refine dcU zm0.eq_1 ?_;have o:=hBig;have n:[Xe .i64 0,.int .i64 0,.int .u32 0,.int .i64 0,.int .i64 0,.int .u32 0,.int .i64 0,.int .i64 0,.int .u32 0,.int .i64 0,.int .i64 0,.int .u32 0,.int .i64 0,.int .i64 0,.int .u32 0,.int .i64 0,.int .i64 0,.int .u32 0,.int .i64 0,.int .i64 0,.int .u32 0,.int .i64 0,.int .i64 0,.int .u32 0]=encR z8:=rfl;rw[<-zMD];generalize g:zmk (λk _=>⟨1,(k:Int),0⟩) R8 z8=R;have j:R.length=8:=by rw[<-g,zpH];rfl
 refine Gw1 n ?_;intros;refine zc (λs:Nat×List Kw=>([(0,.ptr 0 0 0 0 0),(1,.ptr 1 0 0 0 0),(3,.int .i64 s.1)],[(0,.row 24 [encR z8] 0),(1,.row 24 [encR s.2] 0)])) 2 (λs=>s.1<=8/\s.2.length=8/\zmk (λk _=>⟨1,(k:Int),0⟩) (R8.drop s.1) s.2=R) (λs=>8-s.1) (0,z8) ⟨Wc _,rfl,g⟩ (Xl rfl fin5) ?_;rintro⟨k,rs⟩ ⟨m,h,b⟩ wf;simp only at m h b;clear wf;refine dcU zj0.eq_1 ?_;by_cases c:k<8
 .rw[zs0 c]at b;have d:=zit (rs:=rs) (k:=k) (by omega) ⟨1,(k:Int),0⟩;simp only[Xn]at d;have e:(rs.set k ⟨1,(k:Int),0⟩).length=8:=by rw[WA,h]
  refine Gw5 @dT @ud @ul @ziO d ?_;intros;exact⟨(k+1,rs.set k ⟨1,(k:Int),0⟩),⟨c,e,b⟩,by simp only;omega,Xl rfl fin5⟩
 .obtain rfl:k=8:=by omega
  rw[show R8.drop 8=[]from rfl,show zmk (λk _=>⟨1,(k:Int),0⟩) [] rs=rs from rfl]at b;subst b;refine Qa ?_;intros;refine dcU zjw.eq_1 ?_;refine Gw1 @zmD.eq_1 ?_;intros;exact⟨by rw[zcI];omega,_,vw_R,rfl⟩
theorem uv:type_of% @Nat.add_zero:=@Nat.add_zero
theorem zlp(r o)(H:r.length=8)(S:o.length=8):zw Z9 zdL [.agg (encR r),.agg (encR o)] (·=.agg (encR (zxl r o))):=by
 refine fn_x zlm rfl ?_;unfold zfJ zxl;conv in Z8 _ _=>reduce
 have Q:=hBig;have O:[Xe .i64 0,.int .i64 0,.int .u32 0,.int .i64 0,.int .i64 0,.int .u32 0,.int .i64 0,.int .i64 0,.int .u32 0,.int .i64 0,.int .i64 0,.int .u32 0,.int .i64 0,.int .i64 0,.int .u32 0,.int .i64 0,.int .i64 0,.int .u32 0,.int .i64 0,.int .i64 0,.int .u32 0,.int .i64 0,.int .i64 0,.int .u32 0]=encR z8:=rfl;generalize F:zmk (λk a=>zxR a (o.getD k Xj)) R8 r=R;have M:R.length=8:=by rw[<-F,zpH];exact H
 have L:(encR r).length=24:=by rw[zcI];omega
 have K:(encR o).length=24:=by rw[zcI];omega
 have J:∀l:List AV,(Xh l).cells=l:=λ_=>rfl
 have P:∀l:List AV,(Xh l).solid=true:=λ_=>rfl
 refine Gw5 O J P L K ?_;intros;refine zc (λs:Nat×List Kw=>([(2,.ptr 0 0 0 0 0),(3,.ptr 1 0 0 0 0),(4,.ptr 2 0 0 0 0),(6,.int .i64 s.1)],[(0,.row 24 [encR s.2] 0),(1,.row 24 [encR o] 0),(2,.row 24 [encR z8] 0)])) 3 (λs=>s.1<=8/\s.2.length=8/\zmk (λk a=>zxR a (o.getD k Xj)) (R8.drop s.1) s.2=R) (λs=>8-s.1) (0,r) ⟨Wc _,H,F⟩ (Xl rfl fin5) ?_;rintro⟨k,n⟩ ⟨N,A,d⟩ wf;simp only at N A d;clear wf;refine dcU zeE.eq_1 ?_;by_cases g:k<8
 .rw[zs0 g]at d;have m:k<n.length:=by omega
  have v:k<o.length:=by omega
  have x:=zpV m;have u:=zpV v;have t:=zsY (j:=0) m (by decide);have go:=zsY (j:=0) v (by decide);have I:=zit m;have q:=I (o.getD k Xj);have w:=I Xi;simp only[Xn,Xi,Wi,Wt]at q w t go;have p:∀c:Kw,(n.set k c).length=8:=λc=>by rw[WA,A]
  have e:=zzy m;unfold zxR at d;generalize n.getD k Xj=a at t x d e;generalize o.getD k Xj=b at go u d q;by_cases C:a.st=0
  .rw[if_pos C]at d;simp only[Xn]at u;refine Gw11 @dT @dF @ud @ul @uv @ziO t go x u q ?_;intros;exact⟨(k+1,n.set k b),⟨g,p _,d⟩,by simp only;omega,Xl rfl fin5⟩
  .rw[if_neg C]at d;by_cases D:b.st=0
   .rw[if_neg (λh=>h.1 D),e]at d;refine Gw10 @dT @dF @ud @ul @uv @ziO t go x u ?_;intros;exact⟨(k+1,n),⟨g,A,d⟩,by simp only;omega,Xl rfl fin5⟩
   .by_cases y:a=b
    .rw[if_neg (λh=>h.2 y),e]at d;have B:(!decide (a=b))=false:=by simp[y]
     (repeat first|simp(disch:=try exact dis1) only[evD,Xc,Xd,Xg,dT,dF,Wg,Wk,Wt,ziO,t,go,x,u,eqsK,eqTo,cond_true,B]|with_reducible first|intro _|refine aJ ?_)
     exact⟨(k+1,n),⟨g,A,d⟩,by simp only;omega,Xl rfl fin5⟩
    .rw[if_pos ⟨D,y⟩]at d;have B:(!decide (a=b))=true:=by simp[y]
     (repeat first|simp(disch:=try exact dis1) only[evD,Xc,Xd,Xg,dT,dF,Wg,Wk,Wt,ziO,t,go,x,u,eqsK,eqTo,cond_true,B,w]|with_reducible first|intro _|refine aJ ?_)
     exact⟨(k+1,n.set k Xi),⟨g,p _,d⟩,by simp only;omega,Xl rfl fin5⟩
 .obtain rfl:k=8:=by omega
  rw[show R8.drop 8=[]from rfl,show zmk (λk a=>zxR a (o.getD k Xj)) [] n=n from rfl]at d;subst d;refine Qa ?_;intros;refine dcU zeF.eq_1 ?_;refine Gw1 @zfK.eq_1 ?_;intros;exact⟨by rw[zcI];omega,_,vw_R,rfl⟩
theorem zaT{H HH}{σ}{D}:RowV H HH σ D [[.nilsl,.nilsl,.nilsl]] [zbF.cells]:=by
 refine⟨rfl,λi e d=>?_⟩
 cases i with
 |succ i=>cases d
 |zero=>
  cases d;refine⟨_,rfl,rfl,λj x y b c=>?_⟩
  match j with
  |0=>cases b;cases c;exact zj
  |1=>cases b;cases c;exact zj
  |2=>cases b;cases c;exact zj
  |j+3=>cases b
theorem zaF{s:Sgn}:zA [s.cells]:=zT rfl
theorem znv{l}{x}(h:x∈l):hasI l x=true:=by unfold hasI;exact WL.2 ⟨x,h,decide_eq_true rfl⟩
theorem znu{l}{x}(h:x∉l):hasI l x=false:=by
 unfold hasI;refine Bool.eq_false_iff.2 λe=>?_
 obtain⟨y,b,c⟩:=WL.1 e;exact h ((of_decide_eq_true c)▸b)
theorem QJ{b p:Prop}(a0:b)(h:b->p:=by intro a0;(try simp only[evWB,Nat.reduceBEq,Nat.reduceAdd,Nat.reduceSub,Nat.reduceLeDiff,Nat.reduceLT,implies_true,a0])<;>(repeat' with_reducible apply And.intro)<;>first|(first|exact zb|exact zj|exact zaT|exact RowV.of_flat (zT (zh _))|exact RowV.of_flat zaF|exact zq (zh _);done)|exact fin6):p:=h a0
theorem zyq(e)(V:e.length=8)(s)(c)(es){Q}(p:∀(b:Bool),Q .normal [(3,.ptr 1 0 0 0 0),(6,.ptr 2 0 0 0 0),(7,.ptr 3 0 0 0 0),(40,.int .i64 (8:Nat)),(41,.bool false)] [(0,.row 3 (tabM c es) 0),(1,.row 24 [encR (retR s e)] 0),(2,.row 24 [encR z8] 0),(3,.row 3 [s.cells] 0)] 4){K}{H}{nx}(v:Ent 1 K H nx [(3,.ptr 1 0 0 0 0),(6,.ptr 2 0 0 0 0),(7,.ptr 3 0 0 0 0),(40,.int .i64 (0:Nat))] [(0,.row 3 (tabM c es) 0),(1,.row 24 [encR e] 0),(2,.row 24 [encR z8] 0),(3,.row 3 [s.cells] 0)] 4) :
  znL Z9 1 zcm (zdB 1 Q) K H nx:=by
 have Y:=hBig;have J:=λx=>zaK s.sav x
 have I:=λx=>zaK s.res x
 unfold retR at p;generalize T:zmk (ret1 s) R8 e=R at p;have W:R.length=8:=by rw[<-T,zpH];exact V
 refine zc (λt:Nat×List Kw=>([(3,.ptr 1 0 0 0 0),(6,.ptr 2 0 0 0 0),(7,.ptr 3 0 0 0 0),(40,.int .i64 t.1)],[(0,.row 3 (tabM c es) 0),(1,.row 24 [encR t.2] 0),(2,.row 24 [encR z8] 0),(3,.row 3 [s.cells] 0)])) 4 (λt=>t.1<=8/\t.2.length=8/\zmk (ret1 s) (R8.drop t.1) t.2=R) (λt=>8-t.1) (0,e) ⟨Wc _,V,T⟩ v ?_;rintro⟨k,e⟩ ⟨X,F,d⟩ wf;simp only at X F d;clear wf v;refine dcU zcm.eq_1 ?_;by_cases m:k<8
 .rw[zs0 m]at d;have o:k<e.length:=by omega
  have sr:=zpV o;have B:=zsY (j:=0) o (by decide);have M:=zsY (j:=2) o (by decide);have L:=zit o Xi;have D:=λn=>zAF o n
  simp only[Xn,Xi,Wi,Wj,Wt]at L B M;have w:∀c:Kw,(e.set k c).length=8:=λc=>by rw[WA,F]
  have g:=zzy o;unfold ret1 at d;have C:=J k;have N:=I k;have Z:s.cells=[za s.args,za s.res,za s.sav]:=rfl;have y:s.cells.getD 1 .undef=za s.res:=rfl;have A:s.cells.getD 2 .undef=za s.sav:=rfl;have P:decide ((k:Int)=7)=decide (k=7):=decide_eq_decide.2 (by omega);by_cases O:(k:Int)∈s.sav
  .rw[if_pos O]at d;rw[znv O]at C;by_cases S:k=7
   .by_cases u:(e.getD k Xj).st=1
    .rw[if_pos ⟨S,u⟩]at d;have U:=d;generalize e.getD k Xj=a at B M D d u;refine Gw9 @dT @dF @ud @ul @uv @ziO B y A ?_;intros;refine zg (ze C rfl) ?_;refine Gw10 @dT @dF P @ud @ul @uv @ziO B M D ?_;intros;exact⟨(k+1,_),⟨m,w _,d⟩,by simp only;omega,(Xa [(0,0,0),(1,1,0),(2,2,0),(3,3,0)] [] rfl rfl rfl (QJ @ua) (QJ @ua))⟩
    .rw[if_neg (λh=>u h.2),g]at d;generalize e.getD k Xj=a at B M D u;refine Gw9 @dT @dF @ud @ul @uv @ziO B y A ?_;intros;refine zg (ze C rfl) ?_;refine Gw8 @dT @dF P @ud @ul @uv @ziO B ?_;intros;exact⟨(k+1,e),⟨m,F,d⟩,by simp only;omega,(Xa [(0,0,0),(1,1,0),(2,2,0),(3,3,0)] [] rfl rfl rfl (QJ @ua) (QJ @ua))⟩
   .rw[if_neg (λh=>S h.1),g]at d;refine Gw7 @dT @dF @ud @ul @uv y A ?_;intros;refine zg (ze C rfl) ?_;refine Gw2 @dF P ?_;intros;exact⟨(k+1,e),⟨m,F,d⟩,by simp only;omega,(Xa [(0,0,0),(1,1,0),(2,2,0),(3,3,0)] [] rfl rfl rfl (QJ @ua) (QJ @ua))⟩
  .rw[if_neg O]at d;rw[znu O]at C;by_cases q:(k:Int)∈s.res
   .rw[if_pos q]at d;rw[znv q]at N;refine Gw4 @dT @dF y A ?_;intros;refine zg (ze C rfl) ?_;refine Gw2 y A ?_;intros;refine zg (ze N rfl) ?_;refine Gw7 @dT @dF @ud @ul @uv @ziO L ?_;intros;exact⟨(k+1,e.set k Xi),⟨m,w _,d⟩,by simp only;omega,(Xa [(0,0,0),(1,1,0),(2,2,0),(3,3,0)] [] rfl rfl rfl (QJ @ua) (QJ @ua))⟩
   .rw[if_neg q,g]at d;rw[znu q]at N;refine Gw4 @dT @dF y A ?_;intros;refine zg (ze C rfl) ?_;refine Gw2 y A ?_;intros;refine zg (ze N rfl) ?_;refine Qd ?_;intros;exact⟨(k+1,e),⟨m,F,d⟩,by simp only;omega,(Xa [(0,0,0),(1,1,0),(2,2,0),(3,3,0)] [] rfl rfl rfl (QJ @ua) (QJ @ua))⟩
 .obtain rfl:k=8:=by omega
  rw[show R8.drop 8=[]from rfl,show zmk (ret1 s) [] e=e from rfl]at d;subst d;refine Qa ?_;intros;exact p false
theorem zeQ{H HH}{σ}{D}:VwL H HH σ D true [.nilsl,.nilsl,.nilsl] zbF.cells:=⟨zj,zj,zj,trivial⟩
theorem QK{b p:Prop}(a0:b)(h:b->p:=by intro a0;(try simp only[evWB,Nat.reduceBEq,Nat.reduceAdd,Nat.reduceSub,Nat.reduceLeDiff,Nat.reduceLT,implies_true,a0])<;>(repeat' with_reducible apply And.intro)<;>first|(first|exact zb|exact zj|exact zaT|exact RowV.of_flat (zT (zh _))|exact RowV.of_flat zaF|exact zq (zh _)|exact vw_R|exact zeQ;done)|exact fin6):p:=h a0
theorem znj(s)(rs)(Z:CanR rs)(l)(q)(S:OkS s)(c)(es)(ht:TabS l q es):
  z7 Z9 zbN [.agg (encR rs),.agg s.cells,.mp 0 0] [(0,.row 3 (tabM c es) 0)] 1
  (λv H nx=>v=.agg (encR (thr1 l q rs s))/\H=[(0,.row 3 (tabM c es) 0)]/\nx=1):=by
 have hr:=Z.1;refine zS (fn_x zk1 rfl ?_);refine dcU zfh.eq_1 ?_;have hB:=hBig;have F:[Xe .i64 0,.int .i64 0,.int .u32 0,.int .i64 0,.int .i64 0,.int .u32 0,.int .i64 0,.int .i64 0,.int .u32 0,.int .i64 0,.int .i64 0,.int .u32 0,.int .i64 0,.int .i64 0,.int .u32 0,.int .i64 0,.int .i64 0,.int .u32 0,.int .i64 0,.int .i64 0,.int .u32 0,.int .i64 0,.int .i64 0,.int .u32 0]=encR z8:=rfl;have m:(encR rs).length=24:=by rw[zcI];omega
 have p:(encR z8).length=24:=rfl;have A:∀l:List AV,(Xh l).cells=l:=λ_=>rfl
 have D:∀l:List AV,(Xh l).solid=true:=λ_=>rfl
 have o:=ztg ht s.tgt;have n:=ztN (a:=s.tgt) (es:=es) (i:=0);have d:∀u:List Kw,u=thr1 l q rs s->Xh (encR u)=.agg (encR (thr1 l q rs s)):=λu h=>by rw[h]
 unfold thr1 at d⊢;obtain⟨op,var,V,next,els,I,e,cs⟩:=s;obtain⟨B,y,t,T⟩:=S;simp only at B y t d T o n⊢;by_cases K:op=1
 .have U:=y (.inl K);subst K;by_cases N:var<8
  .have Q:=B rfl
   cases e with
   |nil=>exact absurd rfl Q
   |cons x e=>
   have w:=zit (rs:=rs) (k:=var.toNat) (by omega) (zsn rs x);have O:=zuL rs Z (zbn x) x (Wp _) (t x (by simp));have X:((x::e).map encX).getD (Wz 0) []=encX x:=rfl;have R:0<(x::e).length:=by simp
   have M:[Xh (encR rs),Xh (encX x)].all Xs=true:=by rw[WM,flX rfl,Wh];exact zsV rs
   rw[zpG]at d⊢;generalize zsn rs x=W at d w O⊢;generalize hE:x::e=E at X R;have g:(encR (rs.set var.toNat W)).length=24:=by rw[zcI,WA];omega
   refine Gw14 @dT @dF F A D m p @ub @zC X @zam @zab @uc @ua ?_;intros;refine zF (ze O M) ?_;refine Gw11 @dT @dF A D m p @ub @zC @ul @ziO w ?_;intros;refine⟨⟨by omega,rfl⟩,?_⟩;refine dcU zU.eq_1 ?_;refine Gw4 m p g @zad.eq_1 ?_;intros;exact⟨_,_,_,(Xa [(0,0,0)] [] rfl rfl rfl (QK @ua) (QK @ua)),d (rs.set var.toNat W) (by rw[if_pos rfl,if_pos N]),rfl,rfl⟩
  .have g:=m;refine Gw11 @dT @dF F A D m p @ub @zC @uc @ua ?_;intros;refine dcU zU.eq_1 ?_;refine Gw4 m p g @zad.eq_1 ?_;intros;exact⟨_,_,_,(Xa [(0,0,0)] [] rfl rfl rfl (QK @ua) (QK @ua)),d rs (by rw[if_pos rfl,if_neg N]),rfl,rfl⟩
 by_cases P:op=3
 .have U:=y (.inr P);subst P;by_cases N:var<8
  .have w:=zit (rs:=rs) (k:=var.toNat) (by omega) Xi;simp only[Xn,Xi]at w;have g:(encR (rs.set var.toNat ⟨2,0,0⟩)).length=24:=by rw[zcI,WA];omega
   refine Gw14 @dT @dF F A D m p @ub @zC @ul @ziO w @uc @ua ?_;intros;refine dcU zU.eq_1 ?_;refine Gw4 m p g @zad.eq_1 ?_;intros;exact⟨_,_,_,(Xa [(0,0,0)] [] rfl rfl rfl (QK @ua) (QK @ua)),d (rs.set var.toNat ⟨2,0,0⟩) (by rw[if_neg K,if_pos rfl,if_pos N];rfl),rfl,rfl⟩
  .have g:=m;refine Gw11 @dT @dF F A D m p @ub @zC @uc @ua ?_;intros;refine dcU zU.eq_1 ?_;refine Gw4 m p g @zad.eq_1 ?_;intros;exact⟨_,_,_,(Xa [(0,0,0)] [] rfl rfl rfl (QK @ua) (QK @ua)),d rs (by rw[if_neg K,if_pos rfl,if_neg N]),rfl,rfl⟩
 by_cases Y:op=5
 .subst Y;have g:(encR (retR (zaJ l q I) rs)).length=24:=by rw[zcI,zKB];omega
  generalize zaJ l q I=J at d o g⊢;have C:tabM c es=[Xe .i64 c,.undef,.undef]::es.map cT:=rfl
  cases L:atT es I with
  |none=>rw[L]at o n;simp only at o n;subst o;refine Gw13 @dT @dF F A D m p @ub @zC @uu n @uc @ua ?_;intros;rw[<-C];refine zyq rs hr zbF c es (λb=>?_) (Xa [(0,0,0),(1,1,0),(2,2,0),(3,3,0)] [] rfl rfl rfl (QK @ua) (QK @ua));refine Gw0 ?_;intros;refine dcU zU.eq_1 ?_;refine Gw4 m p g @zad.eq_1 ?_;intros;exact⟨_,_,_,(Xa [(0,0,0)] [] rfl rfl rfl (QK @ua) (QK @ua)),d (retR zbF rs) (by rw[if_neg (by decide),if_neg (by decide),if_pos rfl]),rfl,rfl⟩
  |some j=>rw[L]at o n;simp only at o n;rw[o]at n;refine Gw13 @dT @dF F A D m p @ub @zC @uu n @uc @ua ?_;intros;rw[<-C];refine⟨rfl,?_⟩;refine zyq rs hr J c es (λb=>?_) (Xa [(0,0,0),(1,1,0),(2,2,0),(3,3,0)] [] rfl rfl rfl (QK @ua) (QK @ua));refine Gw0 ?_;intros;refine dcU zU.eq_1 ?_;refine Gw4 m p g @zad.eq_1 ?_;intros;exact⟨_,_,_,(Xa [(0,0,0)] [] rfl rfl rfl (QK @ua) (QK @ua)),d (retR J rs) (by rw[if_neg (by decide),if_neg (by decide),if_pos rfl]),rfl,rfl⟩
 .have g:=m;refine Gw11 @dT @dF F A D m p @ub @zC @uc @ua ?_;intros;refine dcU zU.eq_1 ?_;refine Gw4 m p g @zad.eq_1 ?_;intros;exact⟨_,_,_,(Xa [(0,0,0)] [] rfl rfl rfl (QK @ua) (QK @ua)),d rs (by rw[if_neg K,if_neg P,if_neg Y]),rfl,rfl⟩
theorem QL{c d p:Prop}(a0:c)(b:d)(h:c->d->p:=by intro a0 b;(try simp only[evWB,Nat.reduceBEq,Nat.reduceAdd,Nat.reduceSub,Nat.reduceLeDiff,Nat.reduceLT,implies_true,a0,b])<;>(repeat' with_reducible apply And.intro)<;>first|(first|exact zj;done)|exact fin6):p:=h a0 b
theorem zc7(γ:Nat)(l:List Int)(d:l.length<=1000000):z7 Z9 zdF [.own 0 0 γ 0 l.length] [(0,.row 1 (l.map λn=>[.int .i64 n]) γ)] 1
  (λv H b=>v=.own 0 0 γ 0 l.length/\H=[(0,.row 1 (l.map λn=>[.int .i64 n]) γ)]/\b=1):=by
 refine zS (fn_x zru rfl ?_);refine dcU zkL.eq_1 ?_;have c:=hBig;refine Gw1 @zkq.eq_1 ?_;intros;exact⟨_,_,_,(Xa [(0,0,0)] [] rfl rfl rfl (QL @zd @ua) (QL @zd @ua)),rfl,rfl,rfl⟩
theorem zwo{ρ:Nat->Nat}{l:List Int}{g:Nat}:AObj.ren ρ (.row 1 (l.map λn=>[Xe .i64 n]) g)=.row 1 (l.map λn=>[Xe .i64 n]) g:=by simp only[AObj.ren,WK];congr 1;exact Wv λi _=>by simp only[Function.comp,WN,List.map_nil,Xk]
def srtP(a:MS)(b:List Int)(v:Nat):Bool:=decide ((v:Int)∈a.keys) && !hasI b v
def srtL(a:MS)(b:List Int):List Int:=((Wu 12).filter (srtP a b)).map λ(v:Nat)=>(v:Int)
def outN(a:MS)(b:List Int)(j:Nat):List Int:=((Wu j).filter (srtP a b)).map λ(v:Nat)=>(v:Int)
theorem zwV{a}{sk}{j}:outN a sk (j+1)=if srtP a sk j then outN a sk j++[(j:Int)]else outN a sk j:=by
 unfold outN;rw[Xy,WY,WB];by_cases h:srtP a sk j=true
 .rw[if_pos h];simp[h]
 .rw[if_neg h];simp[h]
theorem zp6{a}{sk}{j}:(outN a sk j).length<=j:=by unfold outN;rw[Wn];exact WD (WZ _ _) (by simp)
theorem QM{d e g j p:Prop}(a0:d)(b:e)(c:g)(a3:j)(h:d->e->g->j->p:=by intro a0 b c a3;(try simp only[evWB,Nat.reduceBEq,Nat.reduceAdd,Nat.reduceSub,Nat.reduceLeDiff,Nat.reduceLT,implies_true,a0,b,c,a3])<;>(repeat' with_reducible apply And.intro)<;>first|(first|exact zj;done)|exact fin6):p:=h a0 b c a3
theorem zrU(a)(sk):z7 Z9 zah [.mp 0 0,za sk] [(0,.row 3 ((setM a.1 a.2).map cm) 0)] 1
  (λv H t=>v=za (srtL a sk)/\H=[(0,.row 3 ((setM a.1 a.2).map cm) 0)]/\t=1):=by
 refine zS (fn_x zhG rfl ?_);refine dcU zeV.eq_1 ?_;have u:=hBig;have d:=λx=>zaK sk x
 refine Gw0 ?_;intros;refine zc (λs:Nat×Nat=>([(0,.mp 0 0),(1,za sk),(5,.own 1 0 s.2 0 (outN a sk s.1).length),(7,.int .i64 s.1)],[(0,.row 3 ((setM a.1 a.2).map cm) 0),(1,.row 1 ((outN a sk s.1).map λn=>[.int .i64 n]) s.2)])) 2 (λs=>s.1<=12) (λs=>12-s.1) (0,0) (Wc _) (by rw[show outN a sk (0,0).1=[]from rfl];exact(Xa [(0,0,0),(1,2,0)] [] rfl rfl rfl (QL @zd @ua) (QL @zd @ua))) ?_;rintro⟨j,γ⟩ hj wf;simp only at hj;clear wf;refine dcU zdD.eq_1 ?_;by_cases o:j<12
 case neg=>
  obtain rfl:j=12:=by omega
  have e:=zp6 (a:=a) (sk:=sk) (j:=12);refine Qa ?_;intros;refine dcU zdG.eq_1 ?_;generalize p:outN a sk 12=O at e⊢;refine Gw0 ?_;intros;refine zx [(0,1,0)] 1 _ (zc7 γ O (by omega)) rfl rfl fin9 fin9 ?_;rintro _ _ _ ⟨rfl,rfl,rfl⟩
  (repeat first|simp(disch:=try exact dis1) only[evD,Xc,Xd,Xg,zwo,Xk,show Tab.to [(0,1,0)] 2 0=1 from rfl,zfa]|with_reducible intro _|((with_reducible apply Wa);omega))
  exact⟨za (srtL a sk),[(0,.row 3 ((setM a.1 a.2).map cm) 0)],1,by rw[show srtL a sk=O from p];exact(Xa [(0,0,0)] [1] rfl rfl rfl (QL @zd @ua) (QL @zd @ua)),rfl,rfl,rfl⟩
 have b:=zwV (a:=a) (sk:=sk) (j:=j);have e:=zp6 (a:=a) (sk:=sk) (j:=j);have c:=d j;by_cases m:(j:Int)∈a.2.map (·.1)
 .obtain⟨i,w,q,k⟩:=zft m
  cases g:hasI sk j with
  |true=>rw[if_neg (by unfold srtP;rw[g];simp)]at b;rw[g]at c;refine Gw3 @dT @zd k ?_;intros;refine zg (ze c rfl) ?_;refine Gw0 ?_;intros;refine⟨(j+1,γ),by omega,by simp only;omega,by rw[b];exact(Xa [(0,0,0),(1,1,0)] [] rfl rfl rfl (QL @zd @ua) (QL @zd @ua))⟩
  |false=>rw[if_pos (by unfold srtP;rw[g];simp only[Bool.not_false,Wh];exact decide_eq_true m)]at b;rw[g]at c;refine Gw3 @dT @zd k ?_;intros;refine zg (ze c rfl) ?_;refine Gw0 ?_;intros;refine⟨(j+1,γ+1),by omega,by simp only;omega,by rw[b,WO,WP,WB];exact(Xa [(0,0,0),(1,1,0)] [] rfl rfl rfl (QM @zd @ua @m9C @m9N) (QM @zd @ua @m9C @m9N))⟩
 .have k:=zeb m;rw[if_neg (by unfold srtP MS.keys;simp only[Wy,decide_eq_true_eq];exact λh=>m h.1)]at b;refine Gw3 @dT @zd k ?_;intros;refine⟨(j+1,γ),by omega,by simp only;omega,by rw[b];exact(Xa [(0,0,0),(1,1,0)] [] rfl rfl rfl (QL @zd @ua) (QL @zd @ua))⟩
def cmN(p:Int×Int):List AV:=[.int .i64 p.1,.bool true,.undef]
def setN(a:MS):List (List AV):=[.undef,.undef,.undef]::a.2.map cmN
theorem zaI{a}:zA (setN a):=by
 intro c b;rcases List.mem_cons.1 b with rfl|b
 .rfl
 .obtain⟨p,_,rfl⟩:=WQ.1 b;rfl
theorem zw2{k:Int}:∀ {b:List (Int×Int)}{i:Nat},zdj (.int .i64 k) (b.map cmN) i=some (match b.findIdx? (λp=>decide (p.1=k))with
  |some j=>some (i+j,.bool true)
  |none=>none)
 |[],i=>rfl
 |
  p::b,i=>by
  rw[List.findIdx?_cons];by_cases h:k=p.1
  .rw[if_pos (decide_eq_true h.symm)];simp only[WN,cmN,zdj,ztt,if_true,decide_eq_true h,Wt]
  .rw[if_neg (by simp;exact λe=>h e.symm)];have e:zdj (.int .i64 k) ((p::b).map cmN) i=zdj (.int .i64 k) (b.map cmN) (i+1):=by simp only[WN,cmN,zdj,ztt,if_true,decide_eq_false h]
   rw[e,zw2]
   cases b.findIdx? (λp=>decide (p.1=k))with
   |none=>rfl
   |some j=>simp only[WC,WX,Prod.mk.injEq,and_true];omega
theorem zm1{k:Int}{b:List (Int×Int)}(h:k∈b.map (·.1)):∃j,∃m:j<b.length,b[j].1=k/\zdj (.int .i64 k) (b.map cmN) 0=some (some (j,.bool true)):=by
 rw[zw2]
 cases c:b.findIdx? (λp=>decide (p.1=k))with
 |none=>obtain⟨p,g,rfl⟩:=WQ.1 h;have:=List.findIdx?_eq_none_iff.1 c p g;simp at this
 |some j=>obtain⟨d,e,_⟩:=W0.1 c;exact⟨j,d,of_decide_eq_true e,by simp⟩
theorem zkN{k:Int}{b:List (Int×Int)}(h:k∉b.map (·.1)):zdj (.int .i64 k) (b.map cmN) 0=some none:=by
 rw[zw2]
 cases e:b.findIdx? (λp=>decide (p.1=k))with
 |none=>rfl
 |some j=>obtain⟨c,d,_⟩:=W0.1 e;exact absurd (WQ.2 ⟨_,Wf c,of_decide_eq_true d⟩) h
theorem zJA{b:List (Int×Int)}{j:Nat}{v:Int}(c:j<b.length)(h:b[j].1=v):(b.map cmN).set j [.int .i64 v,.bool true,((b.map cmN).getD j []).getD 2 .undef]=b.map cmN:=by
 have d:(b.map cmN).getD j []=[.int .i64 b[j].1,.bool true,.undef]:=zk (f:=cmN) c;rw[d];simp only[Wj,Wi,<-h];have:[Xe .i64 b[j].1,.bool true,.undef]=(b.map cmN)[j]'(by simpa using c):=by simp[cmN]
 rw[this];exact W3 _
theorem zzK{c v}{ps}:(ps++[(v,c)]).map cmN=ps.map cmN++[[.int .i64 v,.bool true,.undef]]:=by simp[cmN]
theorem zaE{b:List (Int×Int)}:zA ([Xz,.undef,.undef]::b.map cmN):=zaI (a:=(0,b))
theorem zeD{b:List (Int×Int)}{v:Int}:zA ([Xz,.undef,.undef]::(b.map cmN++[[.int .i64 v,.bool true,.undef]])):=by rw[<-zzK (c:=0)];exact zaI (a:=(0,b++[(v,0)]))
theorem evSN:(∀ {str:Option IntKind}{k v:AV}{r q d g:Nat}{u e:AV}{b:List (List AV)}{H:AH}{c:Nat},zIS str r q k v (some (.row d ([.undef,u,e]::b) g)) H c=zJK str r q k v d g u e b (zdj k b 0) H c) /\
 (∀ {str:Option IntKind}{k v:AV}{r q d g i:Nat}{u e x:AV}{b:List (List AV)}{H:AH}{c:Nat},zJK str r q k v d g u e b (some (some (i,x))) H c =
  ⟨d=3/\g=0/\zia str k,True,.undef,H.set r q (.row 3 ([.undef,u,e]::b.set i [k,v,(b.getD i []).getD 2 .undef]) 0),c⟩) /\
 (∀ {str:Option IntKind}{k v:AV}{r q d g:Nat}{u e:AV}{b:List (List AV)}{H:AH}{c:Nat},zJK str r q k v d g u e b (some none) H c =
  ⟨d=3/\g=0/\zia str k,True,.undef,H.set r q (.row 3 ([.undef,u,e]::(b++[[k,v,.undef]])) 0),c⟩):=⟨rfl,rfl,rfl⟩
theorem zX{H HH}{σ}{D}:RowV H HH σ D [[.int .i64 0,.undef,.undef]] (setN (0,[])) :=
 ⟨rfl,λi d h=>match i with
  |
   0=>by
   cases h
   exact⟨_,rfl,rfl,λj a b e c=>match j with
    |0=>by cases c;exact .undef _ _
    |1=>by cases c;exact .undef _ _
    |2=>by cases c;exact .undef _ _
    |j+3=>by cases c⟩
  |i+1=>by cases h⟩
theorem QN{c d p:Prop}(a0:c)(b:d)(h:c->d->p:=by intro a0 b;(try simp only[evWB,Nat.reduceBEq,Nat.reduceAdd,Nat.reduceSub,Nat.reduceLeDiff,Nat.reduceLT,implies_true,a0,b])<;>(repeat' with_reducible apply And.intro)<;>first|(first|exact zj|exact RowV.of_flat zaI;done)|exact fin6):p:=h a0 b
theorem QO{d e g j p:Prop}(a0:d)(b:e)(c:g)(a3:j)(h:d->e->g->j->p:=by intro a0 b c a3;(try simp only[evWB,Nat.reduceBEq,Nat.reduceAdd,Nat.reduceSub,Nat.reduceLeDiff,Nat.reduceLT,implies_true,a0,b,c,a3])<;>(repeat' with_reducible apply And.intro)<;>first|(first|exact zj|exact RowV.of_flat zaI;done)|exact fin6):p:=h a0 b c a3
theorem ue:type_of% @setN.eq_1:=@setN.eq_1
theorem zkz(a)(sk):z7 Z9 zah [.mp 0 0,za sk] [(0,.row 3 (setN a) 0)] 1
  (λv H t=>v=za (srtL a sk)/\H=[(0,.row 3 (setN a) 0)]/\t=1):=by
 refine zS (fn_x zhG rfl ?_);refine dcU zeV.eq_1 ?_;have u:=hBig;have d:=λx=>zaK sk x
 refine Gw0 ?_;intros;refine zc (λs:Nat×Nat=>([(0,.mp 0 0),(1,za sk),(5,.own 1 0 s.2 0 (outN a sk s.1).length),(7,.int .i64 s.1)],[(0,.row 3 (setN a) 0),(1,.row 1 ((outN a sk s.1).map λn=>[.int .i64 n]) s.2)])) 2 (λs=>s.1<=12) (λs=>12-s.1) (0,0) (Wc _) (by rw[show outN a sk (0,0).1=[]from rfl];exact(Xa [(0,0,0),(1,2,0)] [] rfl rfl rfl (QN @ue @ua) (QN @ue @ua))) ?_;rintro⟨j,γ⟩ hj wf;simp only at hj;clear wf;refine dcU zdD.eq_1 ?_;by_cases o:j<12
 case neg=>
  obtain rfl:j=12:=by omega
  have e:=zp6 (a:=a) (sk:=sk) (j:=12);refine Qa ?_;intros;refine dcU zdG.eq_1 ?_;generalize p:outN a sk 12=O at e⊢;refine Gw0 ?_;intros;refine zx [(0,1,0)] 1 _ (zc7 γ O (by omega)) rfl rfl fin9 fin9 ?_;rintro _ _ _ ⟨rfl,rfl,rfl⟩
  (repeat first|simp(disch:=try exact dis1) only[evD,Xc,Xd,Xg,zwo,Xk,show Tab.to [(0,1,0)] 2 0=1 from rfl,zfa]|with_reducible intro _|((with_reducible apply Wa);omega))
  exact⟨za (srtL a sk),[(0,.row 3 (setN a) 0)],1,by rw[show srtL a sk=O from p];exact(Xa [(0,0,0)] [1] rfl rfl rfl (QN @ue @ua) (QN @ue @ua)),rfl,rfl,rfl⟩
 have b:=zwV (a:=a) (sk:=sk) (j:=j);have e:=zp6 (a:=a) (sk:=sk) (j:=j);have c:=d j;by_cases m:(j:Int)∈a.2.map (·.1)
 .obtain⟨i,w,q,k⟩:=zm1 m
  cases g:hasI sk j with
  |true=>rw[if_neg (by unfold srtP;rw[g];simp)]at b;rw[g]at c;refine Gw3 @dT @ue k ?_;intros;refine zg (ze c rfl) ?_;refine Gw0 ?_;intros;refine⟨(j+1,γ),by omega,by simp only;omega,by rw[b];exact(Xa [(0,0,0),(1,1,0)] [] rfl rfl rfl (QN @ue @ua) (QN @ue @ua))⟩
  |false=>rw[if_pos (by unfold srtP;rw[g];simp only[Bool.not_false,Wh];exact decide_eq_true m)]at b;rw[g]at c;refine Gw3 @dT @ue k ?_;intros;refine zg (ze c rfl) ?_;refine Gw0 ?_;intros;refine⟨(j+1,γ+1),by omega,by simp only;omega,by rw[b,WO,WP,WB];exact(Xa [(0,0,0),(1,1,0)] [] rfl rfl rfl (QO @ue @ua @m9C @m9N) (QO @ue @ua @m9C @m9N))⟩
 .have k:=zkN m;rw[if_neg (by unfold srtP MS.keys;simp only[Wy,decide_eq_true_eq];exact λh=>m h.1)]at b;refine Gw3 @dT @ue k ?_;intros;refine⟨(j+1,γ),by omega,by simp only;omega,by rw[b];exact(Xa [(0,0,0),(1,1,0)] [] rfl rfl rfl (QN @ue @ua) (QN @ue @ua))⟩
theorem zIB{s}{a}(h:∀v,v∈a.keys↔v∈s.res):srtL a s.sav=zFp s:=by
 unfold srtL zFp;congr 1;refine List.filter_congr λv _=>?_
 unfold srtP clobP;have c:decide ((v:Int)∈a.keys)=decide ((v:Int)∈s.res):=decide_eq_decide.2 (h v)
 have d:hasI s.sav v=decide ((v:Int)∈s.sav):=by
  by_cases b:(v:Int)∈s.sav
  .rw[znv b,decide_eq_true b]
  .rw[znu b,decide_eq_false b]
 rw[c,d]
theorem QP{b p:Prop}(a0:b)(h:b->p:=by intro a0;(try simp only[evWB,Nat.reduceBEq,Nat.reduceAdd,Nat.reduceSub,Nat.reduceLeDiff,Nat.reduceLT,implies_true,a0])<;>(repeat' with_reducible apply And.intro)<;>first|(first|exact zj|exact zX|exact RowV.of_flat zaI|exact RowV.of_flat zaE|exact RowV.of_flat zeD;done)|exact fin6):p:=h a0
theorem QR{d e g p:Prop}(a0:d)(b:e)(c:g)(h:d->e->g->p:=by intro a0 b c;(try simp only[evWB,Nat.reduceBEq,Nat.reduceAdd,Nat.reduceSub,Nat.reduceLeDiff,Nat.reduceLT,implies_true,a0,b,c])<;>(repeat' with_reducible apply And.intro)<;>first|(first|exact zj|exact zX|exact RowV.of_flat zaI|exact RowV.of_flat zaE|exact RowV.of_flat zeD;done)|exact fin6):p:=h a0 b c
theorem QS{d e g j p:Prop}(a0:d)(b:e)(c:g)(a3:j)(h:d->e->g->j->p:=by intro a0 b c a3;(try simp only[evWB,Nat.reduceBEq,Nat.reduceAdd,Nat.reduceSub,Nat.reduceLeDiff,Nat.reduceLT,implies_true,a0,b,c,a3])<;>(repeat' with_reducible apply And.intro)<;>first|(first|exact zj|exact zX|exact RowV.of_flat zaI|exact RowV.of_flat zaE|exact RowV.of_flat zeD;done)|exact fin6):p:=h a0 b c a3
theorem zqx(s):zw Z9 zgC [.agg s.cells] (·=za (zFp s)):=by
 refine fn_x zqp rfl ?_;refine dcU zjO.eq_1 ?_;have D:=hBig;have k:∀a:MS,(∀v,v∈a.keys↔v∈s.res)->srtL a s.sav=zFp s:=λa h=>zIB h
 generalize zFp s=R at k⊢;obtain⟨B,b,A⟩:=s;simp only[Sgn.cells]at k⊢;refine Gw3 @ub @zC @ua ?_;intros
 refine zc (λi:Nat=>([(1,encP 3 [za B,za b,za A]),(3,.mp 0 0),(8,za b),(9,.int .i64 b.length),(10,.int .i64 i)],[(0,.row 3 (setN (addL (0,[]) (b.take i))) 0)])) 1
  (λi=>i<=b.length) (λi=>b.length-i) 0 (Wc _) (by rw[WR,show addL (0,[]) []=(0,[])from rfl];exact(Xt [(0,1,0)] [] rfl (QP @ua) (QP @ua))) ?_
 rintro i F wf;clear wf;refine dcU zhZ.eq_1 ?_;by_cases e:i<b.length
 .have o:(b.map λn=>[Xe .i64 n]).getD i []=[.int .i64 b[i]]:=zk (f:=λn=>[Xe .i64 n]) e;have c:=zku (s:=(0,[])) e;generalize addL (0,[]) (b.take i)=d at c⊢;obtain⟨m,p⟩:=d;by_cases q:b[i]∈p.map (·.1)
  .obtain⟨j,C,w,u⟩:=zm1 q;have t:add1 (m,p) b[i]=(m,p):=if_pos q;rw[t]at c;have x:=zJA C w;refine Gw7 @dT o @ua @ue @evSN u x ?_;intros;exact⟨i+1,e,by omega,(Xt [(0,0,0)] [] rfl (QR @ue @ua c) (QR @ue @ua c))⟩
  .have u:=zkN q;have t:add1 (m,p) b[i]=(m+1,p++[(b[i],m)]):=if_neg q;rw[t]at c;refine Gw6 @dT o @ua @ue @evSN u ?_;intros;exact⟨i+1,e,by omega,(Xt [(0,0,0)] [] rfl (QS @ue @ua c @zzK) (QS @ue @ua c @zzK))⟩
 .obtain rfl:i=b.length:=by omega
  rw[WE];have g:∀v,v∈(addL (0,[]) b).keys↔v∈b:=λv=>by rw[zlM];simp[MS.keys]
  have y:=k _ g;generalize addL (0,[]) b=d at g y⊢;refine Qa ?_;intros;refine dcU zh2.eq_1 ?_;refine Gw3 @ub @zC @ua ?_;intros;refine zx [(0,0,0)] 1 _ (zkz d A) rfl rfl (Gin6_1 @ua) (Gin6_1 @ua) ?_;rintro _ _ _ ⟨rfl,rfl,rfl⟩;rw[y];refine Gw3 @renM @renE @zjz.eq_1 ?_;intros;exact⟨_,zM rfl,rfl⟩
theorem Qy{p:Prop}(h:p:=by(try simp only[evWB,Nat.reduceBEq,Nat.reduceAdd,Nat.reduceSub,Nat.reduceLeDiff,Nat.reduceLT,implies_true,za,zo])<;>(repeat' with_reducible apply And.intro)<;>first|(first|exact zb|exact RowV.of_flat (zK zh)|exact zq (zh _)|exact vw_R;done)|exact fin6):p:=h
theorem QU{b p:Prop}(a0:b)(h:b->p:=by intro a0;(try simp only[evWB,Nat.reduceBEq,Nat.reduceAdd,Nat.reduceSub,Nat.reduceLeDiff,Nat.reduceLT,implies_true,a0])<;>(repeat' with_reducible apply And.intro)<;>first|(first|exact zb|exact RowV.of_flat (zK zh)|exact zq (zh _)|exact vw_R;done)|exact fin6):p:=h a0
theorem fl_l0(B:Int)(v:List Bl)(g:List Nat)(i b:Nat)(C:Bool)(o:List (List Kw))(l:List Sgn)(at':List Int)(c:Int)(w:List TE)(X:TabS l at' w)(e:List St)(W:∀s∈e,OkS s)(Z:e.length<=1000000)(x:List Kw)(P:CanR x){Q}(m:Q .normal [(1,.mp 0 0),(2,encP 2 [.int .u32 B,encL 2 Xb v]),(5,.own 1 0 0 0 v.length),(6,zo g),(7,.bool C),(26,zo g),(27,.int .i64 g.length),(28,.int .i64 i),(9,.int .i64 b),(10,.ptr 2 0 0 0 0),(41,encL 8 Xf e),(42,.int .i64 e.length),(43,.int .i64 e.length),(44,.bool false)] [(0,.row 3 (tabM c w) 0),(1,.row 24 (o.map encR) 0),(2,.row 24 [encR (thrR l at' e x)] 0)] 3){K}{H}{S:Nat}(p:Ent 1 K H S [(1,.mp 0 0),(2,encP 2 [.int .u32 B,encL 2 Xb v]),(5,.own 1 0 0 0 v.length),(6,zo g),(7,.bool C),(26,zo g),(27,.int .i64 g.length),(28,.int .i64 i),(9,.int .i64 b),(10,.ptr 2 0 0 0 0),(41,encL 8 Xf e),(42,.int .i64 e.length),(43,.int .i64 (0:Nat))] [(0,.row 3 (tabM c w) 0),(1,.row 24 (o.map encR) 0),(2,.row 24 [encR x] 0)] 3) :
  znL Z9 1 zgz (zdB 4 Q) K H S:=by
 have Y:=hBig;unfold thrR at m;generalize O:e.foldl (thr1 l at') x=R at m;refine zc (λt:Nat×List Kw=>([(1,.mp 0 0),(2,encP 2 [.int .u32 B,encL 2 Xb v]),(5,.own 1 0 0 0 v.length),(6,zo g),(7,.bool C),(26,zo g),(27,.int .i64 g.length),(28,.int .i64 i),(9,.int .i64 b),(10,.ptr 2 0 0 0 0),(41,encL 8 Xf e),(42,.int .i64 e.length),(43,.int .i64 t.1)],[(0,.row 3 (tabM c w) 0),(1,.row 24 (o.map encR) 0),(2,.row 24 [encR t.2] 0)])) 3 (λt=>t.1<=e.length/\CanR t.2/\(e.drop t.1).foldl (thr1 l at') t.2=R) (λt=>e.length-t.1) (0,x) ⟨Wc _,P,O⟩ p ?_;clear p O P;rintro⟨k,J⟩ ⟨V,A,h⟩ wf;simp only at V A h;clear wf;refine dcU zgz.eq_1 ?_;by_cases n:k<e.length
 case neg=>
  obtain rfl:k=e.length:=by omega
  rw[WF (Wp _),Xp]at h;subst h;refine Qa ?_;intros;exact m
 rw[Wx n,Xo]at h;have U:(e.map Xf).getD k []=e[k].cells:=zk (f:=Xf) (d:=[]) n;have F:=W _ (Wf n);have j:=zzb (l:=l) (at':=at') A e[k];have y:=znj e[k] J A l at' F c w X;generalize thr1 l at' J e[k]=u at h j y;have M:(encR J).length=24:=by rw[zcI,A.1]
 have N:(encR u).length=24:=by rw[zcI,j.1]
 have q:[e[k].cells.getD 0 .undef,e[k].cells.getD 1 .undef,e[k].cells.getD 2 .undef,e[k].cells.getD 3 .undef,e[k].cells.getD 4 .undef,e[k].cells.getD 5 .undef,e[k].cells.getD 6 .undef,e[k].cells.getD 7 .undef]=e[k].cells:=Xr _;have D:e[k].cells.length=8:=rfl;have L:∀l:List AV,(Xh l).cells=l:=λ_=>rfl
 have T:∀l:List AV,(Xh l).solid=true:=λ_=>rfl
 refine Gw10 @dT U @ub @zC q D L T M N ?_;intros;refine zx [(0,0,0)] 1 _ y rfl rfl (QU @ua) (QU @ua) ?_;rintro _ _ _ ⟨rfl,rfl,rfl⟩;have I:∀ρ:Nat->Nat,Xk ρ (.agg (encR u))=.agg (encR u):=λρ=>by simp only[Xk];congr 1;exact znJ (zh u)
 refine Gw7 @zdP I L T M N @zC ?_;intros;exact⟨(k+1,u),⟨n,j,h⟩,by simp only;omega,(Xa [(0,0,0),(1,1,0),(2,2,0)] [] rfl rfl rfl Qy Qy)⟩
theorem zHY{o:List (List Kw)}{e:Nat}(h:e<o.length):o.set e (o.getD e z8)=o:=by
 have:o.getD e z8=o[e]:=by simp[Xq,h]
 rw[this];exact W3 h
theorem fl_l2(ad:Int)(m:List Bl)(hbl:m.length<=1000)(h:List Nat)(i:Nat)(c:Int)(es:List TE)(x:List Kw)(L:CanR x)(g:List Nat)(helt:∀e∈g,e<m.length)(hebl:g.length<=1000)(o1:List (List Kw))(N:CanO m.length o1)(D:Bool){Q}(hQE:QExt Q)(P:∀k o,CanO m.length k->g.foldl (zuR x) (o1,D)=(k,o)->Q .normal ([(1,.mp 0 0),(2,encP 2 [.int .u32 ad,encL 2 Xb m]),(5,.own 1 0 0 0 m.length),(6,zo h),(7,.bool o),(26,zo h),(27,.int .i64 h.length),(28,.int .i64 i),(10,.ptr 2 0 0 0 0),(57,za (g.map λ(n:Nat)=>(n:Int))),(58,.int .i64 g.length),(59,.int .i64 g.length)]++[(60,.bool false)]) [(0,.row 3 (tabM c es) 0),(1,.row 24 (k.map encR) 0),(2,.row 24 [encR x] 0)] 3){K}{H}{nx:Nat}(O:Ent 1 K H nx [(1,.mp 0 0),(2,encP 2 [.int .u32 ad,encL 2 Xb m]),(5,.own 1 0 0 0 m.length),(6,zo h),(7,.bool D),(26,zo h),(27,.int .i64 h.length),(28,.int .i64 i),(10,.ptr 2 0 0 0 0),(57,za (g.map λ(n:Nat)=>(n:Int))),(58,.int .i64 g.length),(59,.int .i64 (0:Nat))] [(0,.row 3 (tabM c es) 0),(1,.row 24 (o1.map encR) 0),(2,.row 24 [encR x] 0)] 3) :
  znL Z9 1 zgO (zdB 6 Q) K H nx:=by
 have hB:=hBig;have hz:[Xe .i64 0,.int .i64 0,.int .u32 0,.int .i64 0,.int .i64 0,.int .u32 0,.int .i64 0,.int .i64 0,.int .u32 0,.int .i64 0,.int .i64 0,.int .u32 0,.int .i64 0,.int .i64 0,.int .u32 0,.int .i64 0,.int .i64 0,.int .u32 0,.int .i64 0,.int .i64 0,.int .u32 0,.int .i64 0,.int .i64 0,.int .u32 0]=encR z8:=rfl;have c0:∀l:List AV,(Xh l).cells=l:=λ_=>rfl
 have s0:∀l:List AV,(Xh l).solid=true:=λ_=>rfl
 have erx:(encR x).length=24:=by rw[zcI,L.1]
 generalize hPB:g.foldl (zuR x) (o1,D)=PB at P;refine zc (λs:Nat×(List (List Kw)×Bool)=>([(1,.mp 0 0),(2,encP 2 [.int .u32 ad,encL 2 Xb m]),(5,.own 1 0 0 0 m.length),(6,zo h),(7,.bool s.2.2),(26,zo h),(27,.int .i64 h.length),(28,.int .i64 i),(10,.ptr 2 0 0 0 0),(57,za (g.map λ(n:Nat)=>(n:Int))),(58,.int .i64 g.length),(59,.int .i64 s.1)],[(0,.row 3 (tabM c es) 0),(1,.row 24 (s.2.1.map encR) 0),(2,.row 24 [encR x] 0)])) 3 (λs=>s.1<=g.length/\CanO m.length s.2.1/\(g.drop s.1).foldl (zuR x) s.2=PB) (λs=>g.length-s.1) (0,(o1,D)) ⟨Wc _,N,hPB⟩ O ?_;clear O hPB N;rintro⟨j,⟨k,o⟩⟩ ⟨hj,d,b⟩ wf;simp only at hj d b;clear wf;unfold zgO;by_cases w:j<g.length
 case neg=>
  obtain rfl:j=g.length:=by omega
  rw[WF (Wp _),Xp]at b;have hf:=P k o d b.symm;simp only[Wd,We]at hf;refine Qa ?_;intros;exact hf
 rw[Wx w,Xo]at b;have gj:((g.map λ(n:Nat)=>(n:Int)).map λn=>[Xe .i64 n]).getD j []=[.int .i64 (g[j]:Int)]:=by rw[WK,zk (f:=_) w];rfl
 have hen:=helt _ (Wf w);generalize g[j]=e at gj hen b;have heo:e<k.length:=by rw[d.1];exact hen
 have u:=getR heo;have v:=zrY d e;obtain⟨q,-⟩:=zEk (p:=(k,o)) L d hen;unfold zuR at q b;simp only at q b;have Z:=zlp (k.getD e z8) x v.1 L.1;have J:=zAO v L;have y:=zHY heo;generalize k.getD e z8=M at u v Z J q b y;generalize zxl M x=t at Z J q b;have F:(encR M).length=24:=by rw[zcI,v.1]
 have I:(encR t).length=24:=by rw[zcI,J.1]
 have heq:=eqs24 J.1 v.1;have hst:(k.map encR).set e (encR t)=(k.set e t).map encR:=by rw[XA]
 have hol:=d.1;refine Gw4 @dT @ua gj @m9M ?_;intros;refine zsA ziP zqu zpe zhm [(63,.own 1 0 0 0 m.length),(64,.int .i64 e),(65,.ptr 1 0 0 e 0),(66,.agg (encR M)),(67,.agg (encR x)),(68,.agg (encR t)),(15,.ptr 3 0 0 0 0)] (hsOf [([(0,.row 3 (tabM c es) 0),(1,.row 24 (k.map encR) 0),(2,.row 24 [encR x] 0)],3),([(0,.row 3 (tabM c es) 0),(1,.row 24 (k.map encR) 0),(2,.row 24 [encR x] 0),(3,.row 24 [encR z8] 0)],4),([(0,.row 3 (tabM c es) 0),(1,.row 24 (k.map encR) 0),(2,.row 24 [encR x] 0),(3,.row 24 [encR t] 0)],4)]) (by kernel_rfl) (by rfl) (by rfl) (by repeat' first|exact QExt.retK|apply QExt.seq|apply QExt.block|apply QExt.loop|apply QExt.join|assumption) ?plan [(15,.ptr 3 0 0 0 0)] (by rfl) ?fin
 case' plan=>
  intro B hs C hH;have U:B.get 63=.own 1 0 0 0 m.length:=by rw[C,zi];rfl
  have V:B.get 64=.int .i64 e:=by rw[C,zi];rfl
  have W:B.get 65=.ptr 1 0 0 e 0:=by rw[C,zi];rfl
  have X:B.get 66=.agg (encR M):=by rw[C,zi];rfl
  have Y:B.get 67=.agg (encR x):=by rw[C,zi];rfl
  have A:B.get 68=.agg (encR t):=by rw[C,zi];rfl
  have T:B.get 15=.ptr 3 0 0 0 0:=by rw[C,zi];rfl
  have kf5:B.get 5=.own 1 0 0 0 m.length:=by rw[C,zi];rfl
  have R:B.get 10=.ptr 2 0 0 0 0:=by rw[C,zi];rfl
  have S:B.get 14=.int .i64 e:=by rw[C,zi];rfl
  simp only[zhm,zis,zkR,and_true]
  (repeat' with_reducible apply Wa)
  all_goals(rw[hH];simp only[znI,zif,Wj,Wi,hsOf,hsAt,beqL,zgc,Xc,Wh,Wm,Wl,Wq,cond_true,cond_false,Wr,Ws,Xd])
  all_goals try(simp(disch:=try exact dis1) only[evD,Xc,Xd,Xg,zci,zbt,U,V,W,X,Y,A,T,kf5,R,S,fldP,zC,u,hz,c0,s0,F,I,erx,Wg,Wk];done)
 case' fin=>simp only[ziP,hsOf,hsAt,beqL,zgc,Xc,Wh,Wm,Wl,Wq,cond_true,cond_false,Wr,Ws,Xd,Wj,Wi,zaL]
 .have hnd:(!decide (t=M))=decide (t≠M):=by simp
  by_cases hme:t=M
  .have hd:decide (t≠M)=false:=by simp[hme]
   rw[hd,Bool.or_false]at b;subst hme;rw[y]at b
   (repeat first|simp(disch:=try exact dis1) only[evD,Xc,Xd,Xg,u,Wg,c0,s0,F,I,heq,eqTo,cond_true,hnd,hd,Wn,zC]|with_reducible first|intro _|refine aJ ?_)
   exact⟨(j+1,(k,o)),⟨w,d,b⟩,by simp only;omega,(Xa [(0,0,0),(1,1,0),(2,2,0)] [] rfl rfl rfl Qy Qy)⟩
  .have hd:decide (t≠M)=true:=by simp[hme]
   rw[hd,Bool.or_true]at b;generalize k.set e t=o3 at hst q b
   (repeat first|simp(disch:=try exact dis1) only[evD,Xc,Xd,Xg,u,Wg,c0,s0,F,I,heq,eqTo,cond_true,hnd,hd,hst,Wn,zC]|with_reducible first|intro _|refine aJ ?_)
   exact⟨(j+1,(o3,true)),⟨w,q,b⟩,by simp only;omega,(Xa [(0,0,0),(1,1,0),(2,2,0)] [] rfl rfl rfl Qy Qy)⟩
 all_goals(repeat first|simp(disch:=try exact dis1) only[evD,Xc,Xd,Xg,U,V,W,X,Y,A,T,kf5,R,S,fldP,zC,u,hz,c0,s0,F,I,erx,Wg,Wk,zci,zbt,Wn]|with_reducible first|intro _|refine aJ ?_)
 all_goals first
  |omega
  |(refine zF (ze Z (by simp only[WM,List.all_nil,Xs,zsV,Wh])) ?_;(refine Gw3 @zci @zbt A ?_;intros;try with_reducible exact trivial))
  |rfl
theorem zgK(g)(b:fewC g):zw Z9 zc1 [.agg g.cells] (·=zo (ordG g)):=by have h:=Dm.dominator_Order_ok g.toG (zyt b);rw[G.toG_cells]at h;exact h
theorem zuw(g)(hf:fewC g)(hg:OkG g)(hs:∀b∈g.blocks,∀s∈b.stmts,OkS s)(l)(at')(c)(V)(ht:TabS l at' V):
  z7 Z9 zkJ [.agg g.cells,.mp 0 0] [(0,.row 3 (tabM c V) 0)] 1
  (λv H nx=>v=encL 24 encR (zrI g l at')/\H=[(0,.row 3 (tabM c V) 0)]/\nx=1):=by
 refine zS (fn_x zuP rfl ?_);unfold zog zrI;conv in Z8 _ _=>reduce
 have hB:=hBig;have hz:[Xe .i64 0,.int .i64 0,.int .u32 0,.int .i64 0,.int .i64 0,.int .u32 0,.int .i64 0,.int .i64 0,.int .u32 0,.int .i64 0,.int .i64 0,.int .u32 0,.int .i64 0,.int .i64 0,.int .u32 0,.int .i64 0,.int .i64 0,.int .u32 0,.int .i64 0,.int .i64 0,.int .u32 0,.int .i64 0,.int .i64 0,.int .u32 0]=encR z8:=rfl;have c0:∀l:List AV,(Xh l).cells=l:=λ_=>rfl
 have s0:∀l:List AV,(Xh l).solid=true:=λ_=>rfl
 have M:=zgK g hf;have A:=zwv g;have hole:=zzj g;have hpos:=hg.pos;have hbl8:=hf.blocks;have X:=zEO g.blocks.length;have N:=λo hc=>zE1 hg A (l:=l) (at':=at') (o:=o) hc
 have K:=λp b d hp=>zEn hg (l:=l) (at':=at') (p:=p) (b:=b) d hp
 have hlt:=λb d=>zrq hg (b:=b) d
 have hel:=λb d=>zu6 hf (b:=b) d
 have hsuc:=λb (d:b<g.blocks.length)=>zjb g.blocks[b] (λs h=>WD (hf.cases _ (Wf d) s h) (by decide))
 have L:=λb (d:b<g.blocks.length)=>zu4 hg d
 have hthr:=λb (d:b<g.blocks.length)=>hs _ (Wf d)
 have Y:=λb (d:b<g.blocks.length)=>hf.stmts _ (Wf d)
 have Q:∀o b (d:b<g.blocks.length),zIc g l at' o b=thrR l at' g.blocks[b].stmts (o.getD b z8):=λo b d=>by unfold zIc;rw[zaR d]
 have u:∀n o,zxz g l at' (ordG g) (n+1) o=if (zqn g l at' (ordG g) o).2 then zxz g l at' (ordG g) n (zqn g l at' (ordG g) o).1 else(zqn g l at' (ordG g) o).1:=λn o=>zFq
 have T:∀o,zqn g l at' (ordG g) o=(ordG g).foldl (zzE g l at') (o,false):=λo=>rfl
 have O:∀p b,zzE g l at' p b=(edgB g b).foldl (zuR (zIc g l at' p.1 b)) p:=λp b=>rfl
 generalize hR:zxz g l at' (ordG g) (muO (zBU g.blocks.length)+1) (zBU g.blocks.length)=R;generalize zxz g l at' (ordG g)=FF at u hR;generalize zqn g l at' (ordG g)=FP at N u T;generalize zzE g l at'=FB at K T O;generalize zIc g l at'=FX at Q O;generalize ordG g=e at M A hole T;generalize hE:edgB g=E at hlt hel L O;obtain⟨ad,k⟩:=g;simp only[G.cells]at M A hole hpos hbl8 X N K hlt hel hsuc L hthr Y Q hR⊢;have Z:Wo k.length (encR z8)=(Wo k.length z8).map encR:=by rw[List.map_replicate]
 have hset:((Wo k.length z8).map encR).set (Wz 0) (encR ownR)=(zBU k.length).map encR:=by unfold zBU;rw[XA];rfl
 have e0:((k.length:Nat):Int).toNat=k.length:=Wg _;have ero:(encR ownR).length=24:=rfl;refine Gw5 @ub @zC hz e0 Z ?_;intros;refine zg (ze zmy rfl) ?_;refine Gw11 @ub @zC hz e0 Z c0 s0 ero hset @m9M @m9R ?_;intros;refine zg (ze M rfl) ?_;refine Gw0 ?_;intros;refine zc (λs:Bool×List (List Kw)=>([(1,.mp 0 0),(2,encP 2 [.int .u32 ad,encL 2 Xb k]),(5,.own 1 0 0 0 k.length),(6,zo e),(7,.bool s.1)],[(0,.row 3 (tabM c V) 0),(1,.row 24 (s.2.map encR) 0)])) 2 (λs=>CanO k.length s.2/\(s.1=true->∃m,muO s.2<m/\FF m s.2=R)/\(s.1=false->s.2=R)) (λs=>if s.1=true then muO s.2+1 else 0) (true,zBU k.length) ⟨X,λ_=>⟨_,Ww _,hR⟩,λh=>by cases h⟩ (Xa [(0,0,0),(1,2,0)] [] rfl rfl rfl Qy Qy) ?_;rintro⟨ag,o⟩ ⟨D,I,J⟩ wf;simp only at D I J;clear wf hR;refine dcU zkC.eq_1 ?_
 cases ag with
 |false=>have hR2:=J rfl;refine Gw0 ?_;intros;refine dcU zkP.eq_1 ?_;refine Gw1 @zot.eq_1 ?_;intros;subst hR2;refine⟨encL 24 encR o,[(0,.row 3 (tabM c V) 0)],1,?_,rfl,rfl,rfl⟩;rw[<-D.1];exact(Xa [(0,0,0)] [1] rfl rfl rfl (by((try simp only[evWB,Xc,Xd,XB,Xg,XC,implies_true])<;>(repeat' with_reducible apply Wa)<;>first|(first|exact zb|exact Xm (zK zh)|exact zq (zh _)|exact vw_R;done)|exact fin6)) (by((try simp only[evWB,Xc,Xd,XB,Xg,XC,implies_true])<;>(repeat' with_reducible apply Wa)<;>first|(first|exact zhg ⟨rfl⟩ rfl (by rw[D.1];omega) (λa ha j hj=>zcL (zfB (zh a)))|exact zhg rfl rfl (by rw[D.1];omega) (λa ha j hj=>zcL (zfB (zh a)));done)|exact fin6)))
 |true=>
 obtain⟨m,hm,C⟩:=I rfl;obtain⟨m,rfl⟩:∃m',m=m'+1:=⟨m-1,by omega⟩;rw[u]at C;obtain⟨hpc,hpm⟩:=N o D;have hpo:=T o;generalize FP o=PF at C hpc hpm hpo;clear I J;refine Gw1 @ug ?_;intros;refine zc (λs:Nat×(List (List Kw)×Bool)=>([(1,.mp 0 0),(2,encP 2 [.int .u32 ad,encL 2 Xb k]),(5,.own 1 0 0 0 k.length),(6,zo e),(7,.bool s.2.2),(26,zo e),(27,.int .i64 e.length),(28,.int .i64 s.1)],[(0,.row 3 (tabM c V) 0),(1,.row 24 (s.2.1.map encR) 0)])) 2 (λs=>s.1<=e.length/\CanO k.length s.2.1/\(e.drop s.1).foldl FB s.2=PF) (λs=>e.length-s.1) (0,(o,false)) ⟨Wc _,D,hpo.symm⟩ (Xa [(0,0,0),(1,1,0)] [] rfl rfl rfl Qy Qy) ?_;rintro⟨i,⟨F,B⟩⟩ ⟨hi,t,q⟩ wf;simp only at hi t q;clear wf;refine dcU zkG.eq_1 ?_;by_cases S:i<e.length
 case neg=>
  rw[WF (by omega),Xp]at q;subst q;refine Gw2 @dF @ug ?_;intros;refine⟨(B,F),⟨t,λh=>?_,λh=>?_⟩,?_,(Xa [(0,0,0),(1,1,0)] [] rfl rfl rfl Qy Qy)⟩
  .simp only at h;subst h;rw[if_pos rfl]at C;rcases hpm with ⟨_,h⟩|⟨h,_⟩
   .cases h
   .exact⟨m,by simp only at h⊢;omega,C⟩
  .simp only at h;subst h;rw[if_neg (λh=>by cases h)]at C;exact C
  .rcases hpm with ⟨_,h⟩|⟨h1,h⟩
   .simp only at h;subst h;simp
   .simp only at h h1;subst h;simp;omega
 rw[Wx S,Xo]at q;have gi:(e.map λ(n:Nat)=>[Xe .i64 (n:Int)]).getD i []=[.int .i64 (e[i]:Int)]:=zk (f:=λ(n:Nat)=>[Xe .i64 (n:Int)]) S;have d:=A _ (Wf S);generalize e[i]=b at q gi d;obtain⟨hbc,-⟩:=K (F,B) b d t;have w:=O (F,B) b;generalize FB (F,B) b=PB at q hbc w;have hgb:(k.map Xb).getD b []=Xb k[b]:=zk d;have hob:b<F.length:=by rw[t.1];exact d
 have gob:=getR hob;have P:=zrY t b;have hth:=hthr b d;have hln:=Y b d;have y:=Q F b d;have hxc:CanR (FX F b):=by rw[Q F b d];exact zzB P
 have hed:=L b d;have U:=hsuc b d;rw[hed]at U;have hebl:=hel b d;have W:=hlt b d;generalize FX F b=x at y hxc w;generalize E b=EB at hed U hebl W w;generalize F.getD b z8=ob at gob P y;have hbb:[k[b].cells.getD 0 .undef,k[b].cells.getD 1 .undef]=k[b].cells:=by cases k[b];rfl
 have hb1:k[b].cells.getD 1 .undef=encL 8 Xf k[b].stmts:=by cases k[b];rfl
 generalize k[b]=bb at hgb hth hln y U hbb hb1;have ez:(encR z8).length=24:=rfl;have erb:(encR ob).length=24:=by rw[zcI,P.1]
 (repeat first|simp(disch:=try exact dis1) only[evD,Xc,Xd,Xg,dT,zo,fldP,zC,gi,hgb,hb1,gob,hz,ez,c0,s0,erb,Wg,Wk,Wn]|with_reducible first|intro _|refine aJ ?_)
 refine fl_l0 ad k e i b B F l at' c V ht bb.stmts hth (by omega) ob P ?_ (Xa [(0,0,0),(1,1,0),(2,2,0)] [] rfl rfl rfl Qy Qy);rw[<-y];refine Gw0 ?_;intros;refine dcU zlj.eq_1 ?_;refine Gw5 @ub @zC hgb hbb @ud ?_;intros;refine zg (ze U rfl) ?_;refine Gw2 @ua @m9M ?_;intros;refine fl_l2 ad k (by omega) e i c V x hxc EB W (by omega) F t B (by repeat' first|exact QExt.retK|apply QExt.seq|apply QExt.block|apply QExt.loop|apply QExt.join|assumption) (λo2 ag2 hco2 hPB=>?_) (Xa [(0,0,0),(1,1,0),(2,2,0)] [] rfl rfl rfl Qy Qy);rw[<-w]at hPB;subst hPB;simp only[Wd,We];refine Gw0 ?_;intros;refine dcU zkI.eq_1 ?_;refine Gw0 ?_;intros;exact⟨(i+1,(o2,ag2)),⟨S,hco2,q⟩,by simp only;omega,(Xa [(0,0,0),(1,1,0)] [] rfl rfl rfl Qy Qy)⟩
def kpC(f:Nat->Bool):List AV:=(Wu 8).map λr=>.bool (f r)
theorem zIk{f}{k}(h:k<8):(kpC f).getD k .undef=.bool (f k):=by simp[kpC,Xq,h]
theorem zx4{f}{k}{b}(h:k<8):splice (kpC f) k [.bool b]=kpC λr=>if r=k then b else f r:=by
 unfold kpC splice
 match k,h with
 |0,_=>rfl
 |1,_=>rfl
 |2,_=>rfl
 |3,_=>rfl
 |4,_=>rfl
 |5,_=>rfl
 |6,_=>rfl
 |7,_=>rfl
theorem zL5{f}:(kpC f).length=8:=by simp[kpC]
theorem za6{f}:zR (kpC f)=true:=rfl
theorem zsC{f f'}(h:∀r,r<8->f r=f' r):kpC f=kpC f':=Wv λr b=>by rw[h r (WG.1 b)]
def zxO:List Kw:=[⟨1,0,0⟩,⟨1,1,0⟩,⟨1,2,0⟩,⟨1,3,0⟩,⟨1,4,0⟩,⟨1,5,0⟩,⟨1,6,0⟩,⟨1,7,4⟩]
theorem zIm{k}(h:k<8):zxO.getD k Xj=zIH k:=by
 match k,h with
 |0,_=>rfl
 |1,_=>rfl
 |2,_=>rfl
 |3,_=>rfl
 |4,_=>rfl
 |5,_=>rfl
 |6,_=>rfl
 |7,_=>rfl
def kpR(b:List Kw)(f:Nat->Bool):Nat->Bool:=λr=>f r&&decide (b.getD r Xj=zIH r)
def svS(l:List Sgn)(b:List Int)(p:List Kw×(Nat->Bool))(s:St):List Kw×(Nat->Bool):=(thr1 l b p.1 s,if s.op=9 then kpR p.1 p.2 else p.2)
theorem zK5{l}{at'}{rs}{s}(h:s.op=9):thr1 l at' rs s=rs:=by unfold thr1;rw[if_neg (by omega),if_neg (by omega),if_neg (by omega)]
theorem zIf{s}(h:zmF s=false):s.op≠9:=λb=>by unfold zmF at h;rw[b]at h;revert h;decide
theorem zLo{l:List Sgn}{at':List Int}:∀ {ss:List St}{p:List Kw×(Nat->Bool)},endsOk ss=true->(ss.foldl (svS l at') p).2=match ss.getLast? with
  |some s=>if s.op=9 then kpR (thrR l at' ss p.1) p.2 else p.2
  |none=>p.2
 |[],p,_=>rfl
 |
  [s],p,_=>by
  show(svS l at' p s).2=if s.op=9 then kpR (thr1 l at' p.1 s) p.2 else p.2
  unfold svS;by_cases h:s.op=9
  .rw[if_pos h,if_pos h,zK5 h]
  .rw[if_neg h,if_neg h]
 |
  s::c::ss,p,h=>by
  have b:zmF s=false/\endsOk (c::ss)=true:=by rw[endsOk,Wy]at h;refine⟨?_,h.2⟩;have:=h.1;simpa using this
  have e:=zLo (l:=l) (at':=at') (ss:=c::ss) (p:=svS l at' p s) b.2;rw[Xo,e,List.getLast?_cons_cons];have d:(svS l at' p s).2=p.2:=if_neg (zIf b.1);rw[d];rfl
theorem Qx{p:Prop}(h:p:=by(try simp only[evWB,Nat.reduceBEq,Nat.reduceAdd,Nat.reduceSub,Nat.reduceLeDiff,Nat.reduceLT,implies_true,za,zo])<;>(repeat' with_reducible apply And.intro)<;>first|(first|exact zb|exact zq (zh _)|exact vw_R|exact zq za6;done)|exact fin6):p:=h
theorem sv_l1(u:Int)(v:List Bl)(S:List (List Kw))(d:List Nat)(i:Nat)(c:Int)(w:List TE)(o:List St)(k:Nat)(s:St)(f:Nat->Bool)(rs:List Kw)(P:rs.length=8){Q}(q:Q .normal [(1,.mp 0 0),(2,encP 2 [.int .u32 u,encL 2 Xb v]),(5,.ptr 1 0 0 0 0),(6,.ptr 2 0 0 0 0),(8,encL 24 encR S),(32,zo d),(33,.int .i64 d.length),(34,.int .i64 i),(11,.ptr 3 0 0 0 0),(47,encL 8 Xf o),(48,.int .i64 o.length),(13,.ptr 4 0 0 0 0),(49,.int .i64 k),(56,.int .i64 (8:Nat)),(57,.bool false)] [(0,.row 3 (tabM c w) 0),(1,.row 24 [encR zxO] 0),(2,.row 8 [kpC (kpR rs f)] 0),(3,.row 24 [encR rs] 0),(4,.row 8 [s.cells] 0)] 5){K}{H}{F:Nat}(n:Ent 1 K H F [(1,.mp 0 0),(2,encP 2 [.int .u32 u,encL 2 Xb v]),(5,.ptr 1 0 0 0 0),(6,.ptr 2 0 0 0 0),(8,encL 24 encR S),(32,zo d),(33,.int .i64 d.length),(34,.int .i64 i),(11,.ptr 3 0 0 0 0),(47,encL 8 Xf o),(48,.int .i64 o.length),(13,.ptr 4 0 0 0 0),(49,.int .i64 k),(56,.int .i64 (0:Nat))] [(0,.row 3 (tabM c w) 0),(1,.row 24 [encR zxO] 0),(2,.row 8 [kpC f] 0),(3,.row 24 [encR rs] 0),(4,.row 8 [s.cells] 0)] 5) :
  znL Z9 1 zfU (zdB 6 Q) K H F:=by
 have N:=hBig;have M:kpC (λr=>if r<0 then kpR rs f r else f r)=kpC f:=rfl;refine zc (λj:Nat=>([(1,.mp 0 0),(2,encP 2 [.int .u32 u,encL 2 Xb v]),(5,.ptr 1 0 0 0 0),(6,.ptr 2 0 0 0 0),(8,encL 24 encR S),(32,zo d),(33,.int .i64 d.length),(34,.int .i64 i),(11,.ptr 3 0 0 0 0),(47,encL 8 Xf o),(48,.int .i64 o.length),(13,.ptr 4 0 0 0 0),(49,.int .i64 k),(56,.int .i64 j)],[(0,.row 3 (tabM c w) 0),(1,.row 24 [encR zxO] 0),(2,.row 8 [kpC (λr=>if r<j then kpR rs f r else f r)] 0),(3,.row 24 [encR rs] 0),(4,.row 8 [s.cells] 0)])) 5 (λj=>j<=8) (λj=>8-j) 0 (Wc _) (by rw[M];exact n) ?_;clear n;rintro j O wf;clear wf;refine dcU zfU.eq_1 ?_;by_cases m:j<8
 case neg=>
  obtain rfl:j=8:=by omega
  rw[show kpC (λr=>if r<8 then kpR rs f r else f r)=kpC (kpR rs f)from zsC λr h=>if_pos h];refine Qa ?_;intros;exact q
 have y:j<rs.length:=by omega
 have I:=zpV y;have J:=zpV (rs:=zxO) (k:=j) m;rw[zIm m]at J;have p:(kpC λr=>if r<j then kpR rs f r else f r).getD j .undef=.bool (f j):=by rw[zIk m,if_neg (Nat.lt_irrefl j)]
 have A:=λb=>zx4 (f:=λr=>if r<j then kpR rs f r else f r) (k:=j) (b:=b) m
 have t:∀b,b=kpR rs f j->kpC (λr=>if r=j then b else if r<j then kpR rs f r else f r)=kpC (λr=>if r<j+1 then kpR rs f r else f r):=λb L=>zsC λr _=>by
  by_cases x:r=j
  .rw[if_pos x,if_pos (by omega),L,x]
  .rw[if_neg x];by_cases B:r<j
   .rw[if_pos B,if_pos (by omega)]
   .rw[if_neg B,if_neg (by omega)]
 have e:kpR rs f j=(f j&&decide (rs.getD j Xj=zIH j)):=rfl;generalize kpC (λr=>if r<j then kpR rs f r else f r)=C at p A⊢;generalize rs.getD j Xj=a at I e
 cases D:f j with
 |false=>rw[D]at p e;have g:=A false;rw[t false (by rw[e];rfl)]at g;refine Gw8 @dT @ud @ul @uv @Nat.mul_one @ziO p g ?_;intros;exact⟨j+1,by omega,by omega,(Xa [(0,0,0),(1,1,0),(2,2,0),(3,3,0),(4,4,0)] [] rfl rfl rfl Qx Qx)⟩
 |true=>
  rw[D]at p e;have g:=A (decide (a=zIH j));rw[t _ (by rw[e];simp)]at g
  (repeat first|simp(disch:=try exact dis1) only[evD,Xc,Xd,Xg,dT,Wg,Wk,Wt,XD,ziO,p,I,J,eqsK,eqTo,cond_true,cond_false,g]|with_reducible first|intro _|refine aJ ?_)
  exact⟨j+1,by omega,by omega,(Xa [(0,0,0),(1,1,0),(2,2,0),(3,3,0),(4,4,0)] [] rfl rfl rfl Qx Qx)⟩
theorem QV{b p:Prop}(a0:b)(h:b->p:=by intro a0;(try simp only[evWB,Nat.reduceBEq,Nat.reduceAdd,Nat.reduceSub,Nat.reduceLeDiff,Nat.reduceLT,implies_true,a0])<;>(repeat' with_reducible apply And.intro)<;>first|(first|exact zb|exact zq (zh _)|exact vw_R|exact zq za6;done)|exact fin6):p:=h a0
theorem sv_l4(F:Int)(bl)(S)(ord)(i:Nat)(l)(at')(c:Int)(es)(U:TabS l at' es)(e)(T:∀s∈e,OkS s)(W:e.length<=1000000)(f0)(rs0)(B:CanR rs0){Q}(p:∀f m,CanR m->e.foldl (svS l at') (rs0,f0)=(m,f)->Q .normal ([(1,.mp 0 0),(2,encP 2 [.int .u32 F,encL 2 Xb bl]),(5,.ptr 1 0 0 0 0),(6,.ptr 2 0 0 0 0),(8,encL 24 encR S),(32,zo ord),(33,.int .i64 ord.length),(34,.int .i64 i),(11,.ptr 3 0 0 0 0),(47,encL 8 Xf e),(48,.int .i64 e.length),(49,.int .i64 e.length)]++[(50,.bool false)]) [(0,.row 3 (tabM c es) 0),(1,.row 24 [encR zxO] 0),(2,.row 8 [kpC f] 0),(3,.row 24 [encR m] 0)] 4){K}{H}{O:Nat}(o:Ent 1 K H O [(1,.mp 0 0),(2,encP 2 [.int .u32 F,encL 2 Xb bl]),(5,.ptr 1 0 0 0 0),(6,.ptr 2 0 0 0 0),(8,encL 24 encR S),(32,zo ord),(33,.int .i64 ord.length),(34,.int .i64 i),(11,.ptr 3 0 0 0 0),(47,encL 8 Xf e),(48,.int .i64 e.length),(49,.int .i64 (0:Nat))] [(0,.row 3 (tabM c es) 0),(1,.row 24 [encR zxO] 0),(2,.row 8 [kpC f0] 0),(3,.row 24 [encR rs0] 0)] 4) :
  znL Z9 1 zfV (zdB 4 Q) K H O:=by
 have V:=hBig;generalize M:e.foldl (svS l at') (rs0,f0)=R at p;refine zc (λt:Nat×(List Kw×(Nat->Bool))=>([(1,.mp 0 0),(2,encP 2 [.int .u32 F,encL 2 Xb bl]),(5,.ptr 1 0 0 0 0),(6,.ptr 2 0 0 0 0),(8,encL 24 encR S),(32,zo ord),(33,.int .i64 ord.length),(34,.int .i64 i),(11,.ptr 3 0 0 0 0),(47,encL 8 Xf e),(48,.int .i64 e.length),(49,.int .i64 t.1)],[(0,.row 3 (tabM c es) 0),(1,.row 24 [encR zxO] 0),(2,.row 8 [kpC t.2.2] 0),(3,.row 24 [encR t.2.1] 0)])) 4 (λt=>t.1<=e.length/\CanR t.2.1/\(e.drop t.1).foldl (svS l at') t.2=R) (λt=>e.length-t.1) (0,(rs0,f0)) ⟨Wc _,B,M⟩ o ?_;clear o M B;rintro⟨k,⟨m,f⟩⟩ ⟨P,v,b⟩ wf;simp only at P v b;clear wf;refine dcU zfV.eq_1 ?_;by_cases j:k<e.length
 case neg=>
  obtain rfl:k=e.length:=by omega
  rw[WF (Wp _),Xp]at b;have N:=p f m v b.symm;simp only[Wd,We]at N;refine Qa ?_;intros;exact N
 rw[Wx j,Xo]at b;have J:(e.map Xf).getD k []=e[k].cells:=zk (f:=Xf) (d:=[]) j;have A:=T _ (Wf j);have g:=zzb (l:=l) (at':=at') v e[k];have n:=znj e[k] m v l at' A c es U;unfold svS at b;simp only at b;generalize e[k]=s at J A g n b;generalize thr1 l at' m s=u at b g n;have x:(encR m).length=24:=by rw[zcI,v.1]
 have y:(encR u).length=24:=by rw[zcI,g.1]
 have h:[s.cells.getD 0 .undef,s.cells.getD 1 .undef,s.cells.getD 2 .undef,s.cells.getD 3 .undef,s.cells.getD 4 .undef,s.cells.getD 5 .undef,s.cells.getD 6 .undef,s.cells.getD 7 .undef]=s.cells:=Xr _;have q:s.cells.length=8:=rfl;have I:s.cells.getD 0 .undef=.int .i64 s.op:=rfl;have w:∀l:List AV,(Xh l).cells=l:=λ_=>rfl
 have D:∀l:List AV,(Xh l).solid=true:=λ_=>rfl
 have C:∀ρ:Nat->Nat,Xk ρ (.agg (encR u))=.agg (encR u):=λρ=>by simp only[Xk];congr 1;exact znJ (zh u)
 refine Gw11 @dT J @ub @zC h q I w D x y ?_;intros;by_cases L:s.op=9
 .rw[if_pos L]at b;refine Gw1 @dT ?_;intros;refine sv_l1 F bl S ord i c es e k s f m v.1 ?_ (Xa [(0,0,0),(1,1,0),(2,2,0),(3,3,0),(4,4,0)] [] rfl rfl rfl Qx Qx);refine Gw0 ?_;intros;refine dcU zfT.eq_1 ?_;refine Gw7 @zC h q w D x y ?_;intros;refine zx [(0,0,0)] 1 _ n rfl rfl (QV @ua) (QV @ua) ?_;rintro _ _ _ ⟨rfl,rfl,rfl⟩;refine Gw7 @zdP C w D x y @zC ?_;intros;unfold zfY;refine Gw0 ?_;intros;exact⟨(k+1,(u,kpR m f)),⟨j,g,b⟩,by simp only;omega,(Xa [(0,0,0),(1,1,0),(2,2,0),(3,3,0)] [] rfl rfl rfl Qx Qx)⟩
 .rw[if_neg L]at b;refine Qa ?_;intros;refine dcU zfT.eq_1 ?_;refine Gw7 @zC h q w D x y ?_;intros;refine zx [(0,0,0)] 1 _ n rfl rfl (QV @ua) (QV @ua) ?_;rintro _ _ _ ⟨rfl,rfl,rfl⟩;refine Gw7 @zdP C w D x y @zC ?_;intros;unfold zfY;refine Gw0 ?_;intros;exact⟨(k+1,(u,f)),⟨j,g,b⟩,by simp only;omega,(Xa [(0,0,0),(1,1,0),(2,2,0),(3,3,0)] [] rfl rfl rfl Qx Qx)⟩
def svO(f:Nat->Bool)(j:Nat):List Int:=((Wu j).filter f).map λ(v:Nat)=>(v:Int)
theorem zKY{f}{j}:svO f (j+1)=if f j then svO f j++[(j:Int)]else svO f j:=by
 unfold svO;rw[Xy,WY,WB];by_cases h:f j=true
 .rw[if_pos h];simp[h]
 .rw[if_neg h];simp[h]
theorem zvr{f}{j}:(svO f j).length<=j:=by unfold svO;rw[Wn];exact WD (WZ _ _) (by simp)
theorem zJR{g}{l}{at'}{b}(d:b<g.blocks.length)(c:endsOk g.blocks[b].stmts=true){f}{r}:(g.blocks[b].stmts.foldl (svS l at') ((zrI g l at').getD b z8,f)).2 r=(f r&&zA7 g l at' r b):=by
 rw[zLo c];unfold zA7 retB;rw[zaR d]
 cases g.blocks[b].stmts.getLast? with
 |none=>simp
 |some s=>
  simp only;by_cases h:s.op=9
  .rw[if_pos h];simp only[kpR,h,decide_true,Wm,ne_eq,decide_not,Bool.not_not]
  .rw[if_neg h];simp[h]
theorem QW{p:Prop}(h:p:=by(try simp only[evWB,Nat.reduceBEq,Nat.reduceAdd,Nat.reduceSub,Nat.reduceLeDiff,Nat.reduceLT,implies_true])<;>(repeat' with_reducible apply And.intro)<;>first|(first|exact zb|exact zM rfl;done)|exact fin6):p:=h
theorem QX{p:Prop}(h:p:=by(try simp only[evWB,Nat.reduceBEq,Nat.reduceAdd,Nat.reduceSub,Nat.reduceLeDiff,Nat.reduceLT,implies_true])<;>(repeat' with_reducible apply And.intro)<;>first|(exact zb;done)|exact fin6):p:=h
theorem QY{c d p:Prop}(a0:c)(b:d)(h:c->d->p:=by intro a0 b;(try simp only[evWB,Nat.reduceBEq,Nat.reduceAdd,Nat.reduceSub,Nat.reduceLeDiff,Nat.reduceLT,implies_true,a0,b])<;>(repeat' with_reducible apply And.intro)<;>first|(first|exact zb|exact zM rfl;done)|exact fin6):p:=h a0 b
theorem zs9(g)(Y:fewC g)(hg:OkG g)(hs:∀b∈g.blocks,∀s∈b.stmts,OkS s)(hen:∀b∈g.blocks,endsOk b.stmts=true)(l)(at')(c)(u)(ht:TabS l at' u):
  z7 Z9 zi9 [.agg g.cells,.mp 0 0] [(0,.row 3 (tabM c u) 0)] 1
  (λv H U=>v=za (savG g l at')/\H=[(0,.row 3 (tabM c u) 0)]/\U=1):=by
 refine zS (fn_x zta rfl ?_);refine dcU zmG.eq_1 ?_;have hB:=hBig;have hz:[Xe .i64 0,.int .i64 0,.int .u32 0,.int .i64 0,.int .i64 0,.int .u32 0,.int .i64 0,.int .i64 0,.int .u32 0,.int .i64 0,.int .i64 0,.int .u32 0,.int .i64 0,.int .i64 0,.int .u32 0,.int .i64 0,.int .i64 0,.int .u32 0,.int .i64 0,.int .i64 0,.int .u32 0,.int .i64 0,.int .i64 0,.int .u32 0]=encR z8:=rfl;have hz8:[AV.bool false,.bool false,.bool false,.bool false,.bool false,.bool false,.bool false,.bool false]=kpC λ_=>false:=rfl
 have ez:(encR z8).length=24:=rfl;have K:(encR ownR).length=24:=rfl;have W:∀f,(kpC f).length=8:=λf=>zL5
 have c0:∀l:List AV,(Xh l).cells=l:=λ_=>rfl
 have s0:∀l:List AV,(Xh l).solid=true:=λ_=>rfl
 have C:=zuw g Y hg hs l at' c u ht;have o:=zgK g Y;have m:=zwv g;have hole:=zzj g;have N:=Y.blocks;have q:=zFf g hg l at';have A:=λb (e:b<g.blocks.length)=>hs _ (Wf e)
 have y:=λb (e:b<g.blocks.length)=>Y.stmts _ (Wf e)
 have w:=λb (e:b<g.blocks.length) f r=>zJR (l:=l) (at':=at') e (hen _ (Wf e)) (f:=f) (r:=r)
 have hsv:savG g l at'=svO (λr=>(ordG g).all (zA7 g l at' r)) 8:=rfl;rw[hsv];generalize zA7 g l at'=h at w⊢;generalize zrI g l at'=S at C q w;generalize ordG g=d at o m hole⊢;obtain⟨Z,t⟩:=g;simp only[G.cells]at C o m hole N q A y w⊢;refine Gw2 @ub @zC ?_;intros;refine zg (ze zmy rfl) ?_;refine Gw9 @ub @zC hz hz8 ez W c0 s0 K ?_;intros;refine zc (λj:Nat=>([(1,.mp 0 0),(2,encP 2 [.int .u32 Z,encL 2 Xb t]),(5,.ptr 1 0 0 0 0),(6,.ptr 2 0 0 0 0),(20,.int .i64 j)],[(0,.row 3 (tabM c u) 0),(1,.row 24 [encR ownR] 0),(2,.row 8 [kpC λr=>decide (r<j)] 0)])) 3 (λj=>j<=8) (λj=>8-j) 0 (Wc _) (by rw[show kpC (λr=>decide (r<0))=kpC λ_=>false from rfl];exact(Xa [(0,0,0),(1,2,0),(2,3,0)] [] rfl rfl rfl Qx Qx)) ?_;rintro j hj wf;clear wf;refine dcU zjx.eq_1 ?_;by_cases I:j<8
 case pos=>
  have sp:=zx4 (f:=λr=>decide (r<j)) (k:=j) (b:=true) I
  rw[show kpC (λr=>if r=j then true else decide (r<j))=kpC (λr=>decide (r<j+1))from zsC λr _=>by
   by_cases h1:r=j
   .rw[if_pos h1,decide_eq_true (by omega)]
   .rw[if_neg h1];exact decide_eq_decide.2 (by omega)]at sp
  refine Gw7 @dT @ud @ul @uv @Nat.mul_one @ziO sp ?_;intros;exact⟨j+1,by omega,by omega,(Xa [(0,0,0),(1,1,0),(2,2,0)] [] rfl rfl rfl Qx Qx)⟩
 obtain rfl:j=8:=by omega
 rw[show kpC (λr=>decide (r<8))=kpC (λr=>((d.take 0).all (h r)))from rfl];have hw:splice (encR ownR) 23 [.int .u32 4]=encR zxO:=rfl;refine Qa ?_;intros;refine dcU ziT.eq_1 ?_
 (repeat first|simp(disch:=try exact dis1) only[evD,Xc,Xd,Xg,Wk,ziO,show Wz 7=7 from rfl,Nat.reduceMul,hw,K,fldP,zC]|with_reducible first|intro _|refine aJ ?_)
 refine zx [(0,0,0)] 1 _ C rfl rfl (QV @ua) (QV @ua) ?_;rintro _ _ _ ⟨rfl,rfl,rfl⟩;have hrS:∀ρ:Nat->Nat,Xk ρ (encL 24 encR S)=encL 24 encR S:=λρ=>zr7 rfl
 refine Gw4 @zdP hrS @zC @ub ?_;intros;refine zg (ze o rfl) ?_;refine Gw1 @ug ?_;intros;refine zc (λi:Nat=>([(1,.mp 0 0),(2,encP 2 [.int .u32 Z,encL 2 Xb t]),(5,.ptr 1 0 0 0 0),(6,.ptr 2 0 0 0 0),(8,encL 24 encR S),(32,zo d),(33,.int .i64 d.length),(34,.int .i64 i)],[(0,.row 3 (tabM c u) 0),(1,.row 24 [encR zxO] 0),(2,.row 8 [kpC λr=>(d.take i).all (h r)] 0)])) 3 (λi=>i<=d.length) (λi=>d.length-i) 0 (Wc _) (by rw[show kpC (λr=>(d.take 0).all (h r))=kpC (λr=>[].all (h r))from rfl];exact(Xa [(0,0,0),(1,1,0),(2,2,0)] [] rfl rfl rfl Qx Qx)) ?_;rintro i hi wf;clear wf;refine dcU zj1.eq_1 ?_;by_cases D:i<d.length
 case pos=>
  have gi:(d.map λ(n:Nat)=>[Xe .i64 (n:Int)]).getD i []=[.int .i64 (d[i]:Int)]:=zk (f:=λ(n:Nat)=>[Xe .i64 (n:Int)]) D;have T:∀r,(d.take (i+1)).all (h r)=((d.take i).all (h r)&&h r d[i]):=λr=>by rw[List.take_succ_eq_append_getElem D,List.all_append];simp
  have e:=m _ (Wf D);generalize d[i]=b at gi e T;have P:(t.map Xb).getD b []=Xb t[b]:=zk e;have hob:b<S.length:=by rw[q.1];exact e
  have hSl:S.length=t.length:=q.1;have L:=getR hob;have B:=zrY q b;have R:=A b e;have hln:=y b e;have p:=w b e;generalize S.getD b z8=ob at L B p;have M:t[b].cells.getD 1 .undef=encL 8 Xf t[b].stmts:=by cases t[b];rfl
  generalize t[b]=bb at P R hln p M;have J:(encR ob).length=24:=by rw[zcI,B.1]
  have g24:=get24 J
  (repeat first|simp(disch:=try exact dis1) only[evD,Xc,Xd,Xg,dT,zo,za,fldP,zC,gi,P,M,L,g24,hz,ez,c0,s0,J,Wg,Wk,Wn]|with_reducible first|intro _|refine aJ ?_)
  refine sv_l4 Z t S d i l at' c u ht bb.stmts R (by omega) (λr=>(d.take i).all (h r)) ob B (λf rs hcr hfo=>?_) (Xa [(0,0,0),(1,1,0),(2,2,0),(3,3,0)] [] rfl rfl rfl Qx Qx);simp only[Wd,We];refine Gw0 ?_;intros;refine dcU zjj.eq_1 ?_;refine Gw0 ?_;intros;have hfr:kpC f=kpC λr=>(d.take (i+1)).all (h r):=zsC λr _=>by have h3:=p (λr=>(d.take i).all (h r)) r;rw[hfo]at h3;exact h3.trans (T r).symm
  rw[hfr];exact⟨i+1,by omega,by omega,(Xa [(0,0,0),(1,1,0),(2,2,0)] [] rfl rfl rfl Qx Qx)⟩
 case neg=>
  obtain rfl:i=d.length:=by omega
  rw[WE];generalize (λr=>d.all (h r))=F;refine Qa ?_;intros;refine dcU zju.eq_1 ?_;refine Gw2 @zC W ?_;intros;refine zc (λs:Nat×Nat=>([(15,.own 1 0 s.2 0 (svO F s.1).length),(80,.agg (kpC F)),(81,.int .i64 s.1)],[(0,.row 3 (tabM c u) 0),(1,.row 1 ((svO F s.1).map λn=>[.int .i64 n]) s.2)])) 2 (λs=>s.1<=8) (λs=>8-s.1) (0,0) (Wc _) (by rw[show svO F (0,0).1=[]from rfl];exact(Xa [(0,0,0),(1,3,0)] [] rfl rfl rfl QW QW)) ?_;rintro⟨j,γ⟩ hj wf;simp only at hj;clear wf;refine dcU zjM.eq_1 ?_;by_cases I:j<8
  case neg=>
   obtain rfl:j=8:=by omega
   have Q:=zvr (f:=F) (j:=8);generalize svO F 8=O at Q⊢;refine Qa ?_;intros;refine dcU zjX.eq_1 ?_;refine Gw0 ?_;intros;refine zx [(0,1,0)] 1 _ (zc7 γ O (by omega)) rfl rfl QX QX ?_;rintro _ _ _ ⟨rfl,rfl,rfl⟩
   (repeat first|simp(disch:=try exact dis1) only[evD,Xc,Xd,Xg,zwo,Xk,show Tab.to [(0,1,0)] 2 0=1 from rfl,zmv]|with_reducible intro _|((with_reducible apply Wa);omega))
   exact⟨za O,[(0,.row 3 (tabM c u) 0)],1,(Xa [(0,0,0)] [1] rfl rfl rfl QX QX),rfl,rfl,rfl⟩
  have x:=zKY (f:=F) (j:=j);have Q:=zvr (f:=F) (j:=j);have gk:=zIk (f:=F) I;have V:∀(H:AH)(U:Nat),xopR (.aidx 8 1 false) [.agg (kpC F),.int .i64 (j:Int)] H U=⟨0<=(j:Int)/\(j:Int)<(8:Nat)/\8*1<=(kpC F).length,True,.bool (F j),H,U⟩:=λH U=>by simp only[xopR,zxj,cond_false,Wg,XD,gk];rfl
  cases X:F j with
  |true=>rw[X,if_pos rfl]at x;rw[X]at V;refine Gw3 @dT V W ?_;intros;exact⟨(j+1,γ+1),by omega,by simp only;omega,by rw[x,WO,WP,WB];exact(Xa [(0,0,0),(1,1,0)] [] rfl rfl rfl (QY @m9C @m9N) (QY @m9C @m9N))⟩
  |false=>rw[X,if_neg (by decide)]at x;rw[X]at V;refine Gw3 @dT V W ?_;intros;exact⟨(j+1,γ),by omega,by simp only;omega,by rw[x];exact(Xa [(0,0,0),(1,1,0)] [] rfl rfl rfl QW QW)⟩
theorem QZ{d e g j p:Prop}(a0:d)(b:e)(c:g)(a3:j)(h:d->e->g->j->p:=by intro a0 b c a3;(try simp only[evWB,Nat.reduceBEq,Nat.reduceAdd,Nat.reduceSub,Nat.reduceLeDiff,Nat.reduceLT,implies_true,a0,b,c,a3])<;>(repeat' with_reducible apply And.intro)<;>first|(first|exact zb|exact zj|exact zX|exact RowV.of_flat zaI|exact RowV.of_flat zaE|exact RowV.of_flat zeD;done)|exact fin6):p:=h a0 b c a3
theorem Qaa{d e g j k p:Prop}(a0:d)(b:e)(c:g)(a3:j)(a4:k)(h:d->e->g->j->k->p:=by intro a0 b c a3 a4;(try simp only[evWB,Nat.reduceBEq,Nat.reduceAdd,Nat.reduceSub,Nat.reduceLeDiff,Nat.reduceLT,implies_true,a0,b,c,a3,a4])<;>(repeat' with_reducible apply And.intro)<;>first|(first|exact zb|exact zj|exact zX|exact RowV.of_flat zaI|exact RowV.of_flat zaE|exact RowV.of_flat zeD;done)|exact fin6):p:=h a0 b c a3 a4
theorem rs_l0(x:Int)(y:List Bl)(I:List Int)(g:List Nat)(i:Nat)(c:Int)(B:List TE)(p:List St)(k:Nat)(s:St)(b:List Int)(a:MS)(M:b.length<=9223372036854775807){Q}(o:Q .normal ([(1,.mp 0 0),(2,za I),(3,encP 2 [.int .u32 x,encL 2 Xb y]),(7,.mp 1 0),(18,zo g),(19,.int .i64 g.length),(20,.int .i64 i),(29,encL 8 Xf p),(30,.int .i64 p.length),(31,.int .i64 k),(11,.ptr 2 0 0 0 0),(36,za b),(37,.int .i64 b.length),(38,.int .i64 b.length)]++[(39,.bool false)]) [(0,.row 3 (tabM c B) 0),(1,.row 3 (setN (addL a b)) 0),(2,.row 8 [s.cells] 0)] 3){K}{H}{J:Nat}(m:Ent 1 K H J [(1,.mp 0 0),(2,za I),(3,encP 2 [.int .u32 x,encL 2 Xb y]),(7,.mp 1 0),(18,zo g),(19,.int .i64 g.length),(20,.int .i64 i),(29,encL 8 Xf p),(30,.int .i64 p.length),(31,.int .i64 k),(11,.ptr 2 0 0 0 0),(36,za b),(37,.int .i64 b.length),(38,.int .i64 (0:Nat))] [(0,.row 3 (tabM c B) 0),(1,.row 3 (setN a) 0),(2,.row 8 [s.cells] 0)] 3) :
  znL Z9 1 zeP (zdB 4 Q) K H J:=by
 have N:=hBig;refine zc (λj:Nat=>([(1,.mp 0 0),(2,za I),(3,encP 2 [.int .u32 x,encL 2 Xb y]),(7,.mp 1 0),(18,zo g),(19,.int .i64 g.length),(20,.int .i64 i),(29,encL 8 Xf p),(30,.int .i64 p.length),(31,.int .i64 k),(11,.ptr 2 0 0 0 0),(36,za b),(37,.int .i64 b.length),(38,.int .i64 j)],[(0,.row 3 (tabM c B) 0),(1,.row 3 (setN (addL a (b.take j))) 0),(2,.row 8 [s.cells] 0)])) 3 (λj=>j<=b.length) (λj=>b.length-j) 0 (Wc _) (by rw[WR,show addL a []=a from rfl];exact m) ?_;clear m;rintro j O wf;clear wf;refine dcU zeP.eq_1 ?_;by_cases h:j<b.length
 .have u:(b.map λn=>[Xe .i64 n]).getD j []=[.int .i64 b[j]]:=zk (f:=λn=>[Xe .i64 n]) h;have e:=zku (s:=a) h;generalize addL a (b.take j)=d at e⊢;obtain⟨t,v⟩:=d;by_cases w:b[j]∈v.map (·.1)
  .obtain⟨q,L,F,C⟩:=zm1 w;have A:add1 (t,v) b[j]=(t,v):=if_pos w;rw[A]at e;have D:=zJA L F;refine Gw7 @dT u @ua @ue @evSN C D ?_;intros;exact⟨j+1,h,by omega,(Xa [(0,0,0),(1,1,0),(2,2,0)] [] rfl rfl rfl (QZ @ue @ua @ug e) (QZ @ue @ua @ug e))⟩
  .have C:=zkN w;have A:add1 (t,v) b[j]=(t+1,v++[(b[j],t)]):=if_neg w;rw[A]at e;refine Gw6 @dT u @ua @ue @evSN C ?_;intros;exact⟨j+1,h,by omega,(Xa [(0,0,0),(1,1,0),(2,2,0)] [] rfl rfl rfl (Qaa @ue @ua @ug e @zzK) (Qaa @ue @ua @ug e @zzK))⟩
 .obtain rfl:j=b.length:=by omega
  simp only[Wd,We]at o;rw[WE];refine Qa ?_;intros;exact o
theorem rs_l1(x:Int)(y:List Bl)(I:List Int)(g:List Nat)(i:Nat)(c:Int)(B:List TE)(p:List St)(k:Nat)(s:St)(b:List Int)(a:MS)(M:b.length<=9223372036854775807){Q}(o:Q .normal ([(1,.mp 0 0),(2,za I),(3,encP 2 [.int .u32 x,encL 2 Xb y]),(7,.mp 1 0),(18,zo g),(19,.int .i64 g.length),(20,.int .i64 i),(29,encL 8 Xf p),(30,.int .i64 p.length),(31,.int .i64 k),(11,.ptr 2 0 0 0 0),(52,za b),(53,.int .i64 b.length),(54,.int .i64 b.length)]++[(55,.bool false)]) [(0,.row 3 (tabM c B) 0),(1,.row 3 (setN (addL a b)) 0),(2,.row 8 [s.cells] 0)] 3){K}{H}{J:Nat}(m:Ent 1 K H J [(1,.mp 0 0),(2,za I),(3,encP 2 [.int .u32 x,encL 2 Xb y]),(7,.mp 1 0),(18,zo g),(19,.int .i64 g.length),(20,.int .i64 i),(29,encL 8 Xf p),(30,.int .i64 p.length),(31,.int .i64 k),(11,.ptr 2 0 0 0 0),(52,za b),(53,.int .i64 b.length),(54,.int .i64 (0:Nat))] [(0,.row 3 (tabM c B) 0),(1,.row 3 (setN a) 0),(2,.row 8 [s.cells] 0)] 3) :
  znL Z9 1 zeR (zdB 6 Q) K H J:=by
 have N:=hBig;refine zc (λj:Nat=>([(1,.mp 0 0),(2,za I),(3,encP 2 [.int .u32 x,encL 2 Xb y]),(7,.mp 1 0),(18,zo g),(19,.int .i64 g.length),(20,.int .i64 i),(29,encL 8 Xf p),(30,.int .i64 p.length),(31,.int .i64 k),(11,.ptr 2 0 0 0 0),(52,za b),(53,.int .i64 b.length),(54,.int .i64 j)],[(0,.row 3 (tabM c B) 0),(1,.row 3 (setN (addL a (b.take j))) 0),(2,.row 8 [s.cells] 0)])) 3 (λj=>j<=b.length) (λj=>b.length-j) 0 (Wc _) (by rw[WR,show addL a []=a from rfl];exact m) ?_;clear m;rintro j O wf;clear wf;refine dcU zeR.eq_1 ?_;by_cases h:j<b.length
 .have u:(b.map λn=>[Xe .i64 n]).getD j []=[.int .i64 b[j]]:=zk (f:=λn=>[Xe .i64 n]) h;have e:=zku (s:=a) h;generalize addL a (b.take j)=d at e⊢;obtain⟨t,v⟩:=d;by_cases w:b[j]∈v.map (·.1)
  .obtain⟨q,L,F,C⟩:=zm1 w;have A:add1 (t,v) b[j]=(t,v):=if_pos w;rw[A]at e;have D:=zJA L F;refine Gw7 @dT u @ua @ue @evSN C D ?_;intros;exact⟨j+1,h,by omega,(Xa [(0,0,0),(1,1,0),(2,2,0)] [] rfl rfl rfl (QZ @ue @ua @ug e) (QZ @ue @ua @ug e))⟩
  .have C:=zkN w;have A:add1 (t,v) b[j]=(t+1,v++[(b[j],t)]):=if_neg w;rw[A]at e;refine Gw6 @dT u @ua @ue @evSN C ?_;intros;exact⟨j+1,h,by omega,(Xa [(0,0,0),(1,1,0),(2,2,0)] [] rfl rfl rfl (Qaa @ue @ua @ug e @zzK) (Qaa @ue @ua @ug e @zzK))⟩
 .obtain rfl:j=b.length:=by omega
  simp only[Wd,We]at o;rw[WE];refine Qa ?_;intros;exact o
end Go.Ab
