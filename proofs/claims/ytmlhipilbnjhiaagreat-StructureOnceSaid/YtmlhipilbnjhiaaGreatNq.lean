/-
  Part 17 of the proof: how the calls of this program run, over values instead of memory, and what each function computes.
-/
import Derived.Test.YtmlhipilbnjhiaaGreatNp
set_option maxRecDepth 100000
set_option linter.unusedVariables false
set_option linter.unusedSimpArgs false
set_option linter.unnecessarySimpa false
set_option linter.unusedSectionVars false
open Go.Ab.Ent renaming tab->Xa,keep->Xf,tabB->Xg
open Nat renaming reduceBEq->Xb,reduceAdd->Xc,reduceLeDiff->Xd,reduceSub->Xh,reduceLT->Xi
open Go.Ab.AObj renaming ren->Xe
open Go.Proofs.Tryz renaming prog->Z9
open Bool renaming and_false→Wa,and_true→Wh,and_eq_true→Wx
open Nat renaming zero_le→Wc,le_refl→Wf
open List renaming getElem_mem→Wd,replicate→We,length_map→Wg,all_eq_not_any_not→Wi,length_take→Wj,drop_eq_getElem_cons→Wk,append_assoc→Wl,drop_of_length_le→Wm,eq_nil_of_length_eq_zero→Wn,nil_append→Wo,length_append→Wp,map_append→Wq,take_length→Wr,length_drop→Ws,mem_append→Wt,map_cons→Wu,map_nil→Wv,length_set→Ww,getElem_map→Wy,set_getElem_self→Wz,getElem?_eq_getElem→WA,take_append_drop→WB,take_of_length_le→WC,getD_eq_getElem?_getD→WD,cons_append→WE,findIdx?_eq_some_iff_getElem→WF,findIdx?_eq_none_iff→WG
namespace Go.Ab
open Go.RowKit Go.Proofs
def fm(p:NdF->List Int)(l:List Nd):List Int:=l.flatMap λx=>p x.f
theorem zF4{p:NdF->List Int}{l:List Nd}{i:Nat}(h:i<l.length):fm p (l.drop i)=p l[i].f++fm p (l.drop (i+1)):=by rw[Wk h,fm,List.flatMap_cons];rfl
theorem zrM(p)(n):fm p (allN n)=coll p n:=(zs8 p n).symm
theorem zDE(p):fm p []=[]:=rfl
theorem zpC(e:Nd)(u:zap e<=1000):zo Z9 zdm [.agg (encN e)] (·=za (coll blkP e)):=by
 refine fn_x zpg rfl ?_;refine dcU zjD.eq_1 ?_;have A:=hBig;rw[<-zrM];have q:=zof zw7 e;rw[<-zrM]at q;refine Gw3 @zx @zt @zC ?_;intros;refine zd (ze (zfU e u) (flN rfl)) ?_;have t:(allN e).length<=1000:=by rw[zn0];exact u
 generalize allN e=l at *;generalize v:fm blkP l=R at q⊢;refine Gw0 ?_;intros;refine zf (λs:Nat×List Int=>([(3,.own 0 0 0 0 s.2.length),(7,encL 5 encN l),(8,.int .i64 l.length),(9,.int .i64 s.1)],[(0,.row 1 (s.2.map cI) 0)])) 1 (λs=>s.1<=l.length/\s.2++fm blkP (l.drop s.1)=R) (λs=>l.length-s.1) (0,[]) ⟨Wc _,by simp only[List.drop_zero,Wo];exact v⟩ (Xa [(0,1,0)] [] rfl Qk Qk) ?_;rintro⟨i,x⟩ ⟨w,b⟩ wf;simp only at w b;refine dcU zha.eq_1 ?_;by_cases j:i<l.length
 .rw[zF4 j]at b;have g:=zg (f:=encN) (d:=[]) j;generalize z:l[i]=y at g b;obtain⟨⟨k,n,lb⟩,c,m⟩:=y;simp only[Nd.f]at b;have o:blkP ⟨k,n,lb⟩=if k=2\/k=5 then[n]else[]:=rfl
  rw[zaI]at g;simp only at g;have p:=congrArg List.length b;simp only[Wp]at p;refine Gw4 @dT g @ui @ug ?_;intros;by_cases h:k=2\/k=5
  .rw[if_pos h]at o;rw[o,<-Wl]at b;rcases h with h|h
   ·(refine Gw1 @dT ?_;intros);exact⟨(i+1,x++[n]),⟨by simp only;omega,b⟩,by simp only;omega,(Xa [(0,0,1)] [] rfl (Gin2_6 @m9A @m9P @ui @ug @m9C @m9N) (Gin2_6 @m9A @m9P @ui @ug @m9C @m9N))⟩
   ·(refine Gw2 @dT @dF ?_;intros);exact⟨(i+1,x++[n]),⟨by simp only;omega,b⟩,by simp only;omega,(Xa [(0,0,1)] [] rfl (Gin2_6 @m9A @m9P @ui @ug @m9C @m9N) (Gin2_6 @m9A @m9P @ui @ug @m9C @m9N))⟩
  .rw[if_neg h]at o;rw[o,Wo]at b;refine Gw1 @dF ?_;intros;exact⟨(i+1,x),⟨by simp only;omega,b⟩,by simp only;omega,(Xa [(0,0,0)] [] rfl Qk Qk)⟩
 .rw[Wm (by omega),zDE,List.append_nil]at b;subst b;refine Gw1 @dF ?_;intros;unfold zg4;refine Gw1 @zjG.eq_1 ?_;intros;exact⟨_,zb3 (l:=x) trivial rfl (by omega),rfl⟩
theorem renX{ρ:Nat->Nat}{l:List Ex}{g:Nat}:Xe ρ (.row 5 (l.map encX) g)=.row 5 (l.map encX) g:=by simp only[Xe];rw[zgq (zU λ_=>zn)]
theorem renN{ρ:Nat->Nat}{l:List Nd}{g:Nat}:Xe ρ (.row 5 (l.map encN) g)=.row 5 (l.map encN) g:=by simp only[Xe];rw[zgq (zU λ_=>zt)]
theorem zqQ(l:List Nd)(h:l.length<=100000):z7 Z9 zB [encL 5 encN l] [] 0 (λv H nx=>v=.own 0 0 0 0 l.length/\H=[(0,.row 5 (l.map encN) 0)]/\nx=1):=by
 refine zaK (fn_x zgG rfl ?_);refine dcU zdj.eq_1 ?_;have g:=hBig;have c:∀H,zdx 5 (encL 5 encN l) H=some (l.map encN):=λH=>zcI (λ_ _=>zx)
 refine Gw1 @zqu ?_;intros
 cases d:(l.length == 0)with
 |true=>
  have e:l=[]:=Wn (by simpa using d);subst e;refine Gw0 ?_;intros;rename_i b;cases b
  ·(refine Gw2 c @zaQ.eq_1 ?_;intros);exact⟨.own 0 0 0 0 0,[(0,.row 5 [] 0)],1,(Xa [(0,1,1)] [] rfl Qk Qk),rfl,rfl,rfl⟩
  ·(refine Gw1 @zaQ.eq_1 ?_;intros);exact⟨.own 0 0 0 0 0,[(0,.row 5 [] 0)],1,(Xa [(0,1,0)] [] rfl Qk Qk),rfl,rfl,rfl⟩
 |false=>refine Gw2 c @zaQ.eq_1 ?_;intros;exact⟨.own 0 0 0 0 l.length,[(0,.row 5 (l.map encN) 0)],1,(Xa [(0,1,1)] [] rfl Qk Qk),rfl,rfl,rfl⟩
theorem zzR(l:List Ex)(h:l.length<=100000):z7 Z9 zO [encL 5 encX l] [] 0 (λv H nx=>v=.own 0 0 0 0 l.length/\H=[(0,.row 5 (l.map encX) 0)]/\nx=1):=by
 refine zaK (fn_x zgz rfl ?_);refine dcU zdf.eq_1 ?_;have g:=hBig;have c:∀H,zdx 5 (encL 5 encX l) H=some (l.map encX):=λH=>zcI (λ_ _=>zbl)
 refine Gw1 @zqu ?_;intros
 cases d:(l.length == 0)with
 |true=>
  have e:l=[]:=Wn (by simpa using d);subst e;refine Gw0 ?_;intros;rename_i b;cases b
  ·(refine Gw2 c @zaO.eq_1 ?_;intros);exact⟨.own 0 0 0 0 0,[(0,.row 5 [] 0)],1,(Xa [(0,1,1)] [] rfl Qk Qk),rfl,rfl,rfl⟩
  ·(refine Gw1 @zaO.eq_1 ?_;intros);exact⟨.own 0 0 0 0 0,[(0,.row 5 [] 0)],1,(Xa [(0,1,0)] [] rfl Qk Qk),rfl,rfl,rfl⟩
 |false=>refine Gw2 c @zaO.eq_1 ?_;intros;exact⟨.own 0 0 0 0 l.length,[(0,.row 5 (l.map encX) 0)],1,(Xa [(0,1,1)] [] rfl Qk Qk),rfl,rfl,rfl⟩
theorem zeP:∀(k:Nat)(e:Ex),zeQ e<=k->k<=100000->zo Z9 za1 [.agg (encX e)] (·=.agg (encX e)):=by
 intro k
 induction k with
 |zero=>intro e h;obtain⟨_,_,_,_,l⟩:=e;rw[zeQ]at h;omega
 |succ k s=>
 intro e t u;obtain⟨op,p,v,w,l⟩:=e;refine fn_x znn rfl ?_;refine dcU zia.eq_1 ?_;have x:=hBig;rw[zeQ]at t
 have o:l.length<=100000:=by
  have:∀l:List Ex,l.length<=zo8 l:=by
   intro l
   induction l with
   |nil=>rw[zo8];simp
   |cons a l s=>
    rw[zo8,List.length_cons];have:1<=zeQ a:=by obtain⟨_,_,_,_,m⟩:=a;rw[zeQ];omega
    omega
  have:=this l;omega
 generalize q:encX (.mk op p v w l)=E;rw[zij]at q;subst q;refine Gw0 ?_;intros;refine zaV [] 0 _ (zzR l o) rfl rfl Gin1_0 Gin1_0 ?_;rintro _ _ _ ⟨rfl,rfl,rfl⟩;refine Gw1 @renX ?_;intros;refine zf (λi:Nat=>([(1,.ptr 0 0 0 0 0),(2,.ptr 1 0 0 0 0),(10,.int .i64 l.length),(11,.int .i64 i)],[(0,.row 5 [[.int .i64 op,.int .u32 p,.int .i64 v,.int .i64 w,.own 2 0 0 0 l.length]] 0),(1,.row 5 [[.int .i64 0,.int .u32 0,.int .i64 0,.int .i64 0,.nilsl]] 0),(2,.row 5 (l.map encX) 0)])) 3 (λi=>i<=l.length) (λi=>l.length-i) 0 (Wc _) (Xa [(0,0,0),(1,1,0),(2,2,0)] [] rfl Qk Qk) ?_;intro i y wf;refine dcU zgf.eq_1 ?_;by_cases n:i<l.length
 .have z:=zjJ (Wd n);have g:(l.map encX).set i (encX l[i])=l.map encX:=by rw[<-Wy (f:=encX) (h:=by simpa using n)];exact Wz _
  refine Gw4 @dT (gmp n) @zbl @zba ?_;intros;refine zcG (ze (s l[i] (by omega) (by omega)) (flX rfl)) ?_;refine Gw3 (gmp n) @zbl g ?_;intros;exact⟨i+1,by omega,by omega,(Xa [(0,0,0),(1,1,0),(2,2,0)] [] rfl Qk Qk)⟩
 ·(refine Gw1 @dF ?_;intros);refine dcU zf4.eq_1 ?_;refine Gw1 @zhU.eq_1 ?_;intros;refine⟨.agg [.int .i64 op,.int .u32 p,.int .i64 v,.int .i64 w,encL 5 encX l],.agg _ _ _ rfl (λj a c b d=>?_),rfl⟩
  match j with
  |0=>cases b;cases d;exact .int _ _ _
  |1=>cases b;cases d;exact .int _ _ _
  |2=>cases b;cases d;exact .int _ _ _
  |3=>cases b;cases d;exact .int _ _ _
  |4=>cases b;cases d;exact zCS trivial rfl (by omega)
  |j+5=>cases b
def zN:List AV:=[.int .i64 0,.int .i64 0,.int .i64 0,.nilsl,.nilsl]
theorem zyt{H}{nx}:xopR .capn [.nilsl] H nx=⟨True,True,.int .i64 0,H,nx⟩:=rfl
theorem zKS{c b}{z}{k}{n}{H}{nx}:xopR (.apz c b z) [.nilsl,.int k n] H nx=⟨0<=n/\n*b<=140737488355328/\0<c/\0<b,True,.own nx 0 0 0 n.toNat,H.set nx 0 (.row c (We n.toNat z) 0),nx+1⟩:=rfl
theorem zEU{s}{k}{b}{H}{nx}:zfL s .nilsl none (some (.int k b)) H nx=⟨(0:Int)=0/\b=0,True,.nilsl,H,nx⟩:=rfl
theorem zkt{n}{c}(h:zI c=true):zy (We n c):=λd hd=>by rw[List.eq_of_mem_replicate hd];exact h
theorem renZ{ρ}{n g}:Xe ρ (.row 5 (We n zN) g)=.row 5 (We n zN) g:=by simp only[Xe];rw[zgq (zkt rfl)]
theorem Ql{p:Prop}(h:p:=by(try simp only[evWB,Nat.reduceBEq,Nat.reduceAdd,Nat.reduceSub,Nat.reduceLeDiff,Nat.reduceLT,implies_true,zN])<;>exact fin2):p:=h
theorem zKr(n:Nat)(e:n<=100000):z7 Z9 zaZ [.nilsl,.int .i64 n] [] 0 (λv H nx=>v=.own 0 0 0 0 0/\H=[(0,.row 5 (We n zN) 0)]/\nx=1):=by
 refine zaK (fn_x zgY rfl ?_);refine dcU zds.eq_1 ?_;have d:=hBig;by_cases c:0<n
 .have b:((n:Int)-(0-0)).toNat=n:=by omega
  refine Gw7 @dF @dT @zyt @zKS @zEU b @zbw.eq_1 ?_;intros;exact⟨.own 0 0 0 0 0,[(0,.row 5 (We n zN) 0)],1,(Xa [(0,1,0)] [] rfl Ql Ql),rfl,rfl,rfl⟩
 .obtain rfl:n=0:=by omega
  refine Gw3 @dF @zyt @zbw.eq_1 ?_;intros;exact⟨.own 0 0 0 0 0,[(0,.row 5 (We 0 zN) 0)],1,(Xa [] [] rfl Qk Qk),rfl,rfl,rfl⟩
def LLN(A:List (List Nd)):List (List AV):=A.map λa=>[encL 5 encN a]
def lenA(A:List (List Nd)):Nat:=(A.map List.length).sum
theorem zqe{α}{A:List α}{i:Nat}(h:i<A.length):A.take (i+1)=A.take i++[A[i]]:=by rw[List.take_add_one,WA h];rfl
theorem zDF(A B):lenA (A++B)=lenA A+lenA B:=by unfold lenA;rw[Wq,List.sum_append]
theorem zze{A:List (List Nd)}{i:Nat}(h:i<A.length):lenA (A.take (i+1))=lenA (A.take i)+A[i].length:=by rw[zqe h,zDF];rfl
theorem zxu{A}(i):lenA (A.take i)<=lenA A:=by
 conv=>rhs;rw[<-WB i A,zDF]
 omega
theorem zya{A:List (List Nd)}{i:Nat}(h:i<A.length):(A.take (i+1)).flatten=(A.take i).flatten++A[i]:=by rw[zqe h,List.flatten_append];simp
theorem zpM(A):A.flatten.length=lenA A:=by rw[List.length_flatten];rfl
theorem zEW(A:List (List Nd))(B:A.length<=1000)(z:lenA A<=100000):z7 Z9 zl [.own 0 0 0 0 A.length] [(0,.row 1 (LLN A) 0)] 1 (λv H nx=>v=.own 1 0 0 0 A.flatten.length/\H=[(0,.row 1 (LLN A) 0),(1,.row 5 (A.flatten.map encN) 0)]/\nx=2):=by
 refine zaK (fn_x zgm rfl ?_);refine dcU zcZ.eq_1 ?_;have C:=hBig;have c:(LLN A).length=A.length:=by simp[LLN]
 refine Gw0 ?_;intros;refine zf (λi:Nat=>([(0,.own 0 0 0 0 A.length),(3,.int .i64 (lenA (A.take i):Nat)),(9,.own 0 0 0 0 A.length),(10,.int .i64 A.length),(11,.int .i64 i)],[(0,.row 1 (LLN A) 0)])) 1 (λi=>i<=A.length) (λi=>A.length-i) 0 (Wc _) (Xg [(0,0,0)] [] rfl rfl rfl Qk Qk) ?_;intro i y wf;refine dcU zcn.eq_1 ?_;have t:=zxu (A:=A) i;by_cases b:i<A.length
 .have s:(LLN A).getD i []=[encL 5 encN A[i]]:=zg b;have p:=zze b;have g:=zxu (A:=A) (i+1);have w:decide (((lenA (A.take i):Nat):Int)+((A[i].length:Nat):Int)<0)=false:=decide_eq_false (by omega);refine Gw4 @dT s c w ?_;intros;refine⟨i+1,by omega,by omega,?_⟩;have o:((lenA (A.take (i+1)):Nat):Int)=((lenA (A.take i):Nat):Int)+((A[i].length:Nat):Int):=by omega
  rw[o];exact(Xg [(0,0,0)] [] rfl rfl rfl Qk Qk)
 ·(refine Gw1 @dF ?_;intros);refine dcU zch.eq_1 ?_;obtain rfl:i=A.length:=by omega
  rw[Wr];refine Gw1 c ?_;intros;refine zaV [] 0 _ (zKr (lenA A) z) rfl rfl Gin1_0 Gin1_0 ?_;rintro _ _ _ ⟨rfl,rfl,rfl⟩;refine Gw2 c @renZ ?_;intros;refine zf (λj:Nat×Nat=>([(6,.own 1 0 0 0 (lenA (A.take j.1))),(25,.own 0 0 0 0 A.length),(26,.int .i64 A.length),(27,.int .i64 j.1)],[(0,.row 1 (LLN A) 0),(1,.row 5 ((A.take j.1).flatten.map encN++We j.2 zN) 0)])) 2 (λj=>j.1<=A.length/\(j.1=0->j.2=lenA A)/\(j.1≠0->j.2=0)) (λj=>A.length-j.1) (0,lenA A) ⟨Wc _,λ_=>rfl,λh=>absurd rfl h⟩ ?_ ?_
  .exact(Xg [(0,0,0),(1,1,0)] [] rfl rfl rfl Qk Qk)
  .rintro⟨i,m⟩ ⟨y,k,n⟩ wf;refine dcU zco.eq_1 ?_;have t:=zxu (A:=A) i;simp only at y k n;by_cases b:i<A.length
   .have s:(LLN A).getD i []=[encL 5 encN A[i]]:=zg b;have p:=zze b;have g:=zxu (A:=A) (i+1);have e:((A.take i).flatten.map encN).length=lenA (A.take i):=by rw[Wg,zpM]
    have x:((A.take i).flatten.map encN++We m zN).take (lenA (A.take i))=(A.take i).flatten.map encN:=List.take_left' e;have u:((A.take i).flatten.map encN++We m zN).length=lenA (A.take i)+m:=by rw[Wp,e,List.length_replicate]
    have q:∀H,zdx 5 (encL 5 encN A[i]) H=some (A[i].map encN):=λH=>zcI (λ_ _=>zx)
    have o:((lenA (A.take (i+1)):Nat):Int)=((lenA (A.take i):Nat):Int)+((A[i].length:Nat):Int):=by omega
    have d:(A.take (i+1)).flatten.map encN++We 0 zN=(A.take i).flatten.map encN++A[i].map encN:=by rw[zya b,Wq];simp
    refine Gw6 @dT s c q x u ?_;intros;refine⟨(i+1,0),⟨by simp only;omega,λh=>absurd h (Nat.succ_ne_zero i),λ_=>rfl⟩,by simp only;omega,?_⟩;simp only;rw[d,p];exact(Xg [(0,0,0),(1,1,1)] [] rfl rfl rfl Qk Qk)
   ·(refine Gw1 @dF ?_;intros);unfold zcq;obtain rfl:i=A.length:=by omega
    obtain rfl:m=0:=by
     by_cases h:A.length=0
     .rw[k h,Wn h];rfl
     .exact n h
    have d:(A.take A.length).flatten.map encN++We 0 zN=A.flatten.map encN:=by rw[Wr];simp
    rw[d,Wr,<-zpM];refine Gw1 @zc1.eq_1 ?_;intros;exact⟨.own 1 0 0 0 A.flatten.length,[(0,.row 1 (LLN A) 0),(1,.row 5 (A.flatten.map encN) 0)],2,(Xg [(0,0,0),(1,1,0)] [] rfl rfl rfl Qk Qk),rfl,rfl,rfl⟩
theorem frzN{H}{r q g}{h e lb}{c}{l}(m:H.get r q=some (.row 5 (l.map encN) g))(k:l.length<=big):Frz H (.agg [.int .i64 h,.int .i64 e,.int .i64 lb,encL 5 encX c,.own r q g 0 l.length]) (.agg (encN (.mk ⟨h,e,lb⟩ c l))):=by
 rw[zaI];refine .agg _ _ _ rfl (λj a c b d=>?_)
 match j with
 |0=>cases b;cases d;exact .int _ _ _
 |1=>cases b;cases d;exact .int _ _ _
 |2=>cases b;cases d;exact .int _ _ _
 |3=>cases b;cases d;exact zV rfl
 |4=>cases b;cases d;exact zsX trivial m k
 |j+5=>cases b
theorem flA{e}:(AV.agg (encN e)).flat=true:=by have:=flN (r:=[]) rfl (e:=e);simpa using this
theorem frzA{H}{e}:Frz H (.agg (encN e)) (.agg (encN e)):=zV flA
def elN(x:Nd):List Nd:=if x.f.kind=1 then x.l else[x]
theorem zG8{b d lb}{c}{m}(h:b=1):elN (.mk ⟨b,d,lb⟩ c m)=m:=if_pos h
theorem zFp{kd b lb}{c}{m}(h:kd≠1):elN (.mk ⟨kd,b,lb⟩ c m)=[.mk ⟨kd,b,lb⟩ c m]:=if_neg h
theorem zEI(x):zY (elN x)<=zap x:=by
 obtain⟨⟨b,d,lb⟩,c,m⟩:=x;rw[zap];by_cases h:b=1
 .rw[zG8 h];omega
 .rw[zFp h,zY,zY,zap];omega
theorem zrO:∀l:List Nd,zY (zhM l)<=zY l
 |[]=>Wf _
 |
  x::l=>by
  have c:=zrO l;have b:=zEI x;show zY (elN x++zhM l)<=_;rw[zbY,zY];omega
theorem ztO(n):zap (zu6 n)<=zap n:=by
 obtain⟨f,c,l⟩:=n;rw[zkM];have:=zrO l;split
 .unfold ztb;split
  .rename_i a b;rw[b,zY,zY]at this;rw[zap];omega
  .rw[zap,zap];omega
 .exact Wf _
mutual
theorem zr4:∀n:Nd,zap (zeu n)<=zap n
 |
  .mk f c l=>by
  rw[zeu,zap];have b:=ztO (.mk f c (zc6 l));have d:=zkS l;rw[zap]at b;omega
theorem zkS:∀l:List Nd,zY (zc6 l)<=zY l
 |[]=>by rw[zc6];exact Wf _
 |
  x::l=>by
  have b:=zr4 x;have c:=zkS l;rw[zc6,zY,zY];omega
end
mutual
theorem zn9:∀n:Nd,zap (cutN n)<=zap n
 |
  .mk f c l=>by
  have b:=zoY l;have d:=zqI l;rw[cutN];split
  .simp only[zap,zY];omega
  .split
   .simp only[zap];omega
   .split
    .simp only[zap];omega
    .exact Wf _
theorem zoY:∀l:List Nd,zY (zbn l)<=zY l
 |[]=>by rw[zbn];exact Wf _
 |
  [x]=>by
  have b:=zn9 x;simp only[zbn,zY];omega
 |
  x::y::l=>by
  have b:=zoY (y::l);rw[zbn,zY];rw[zY.eq_2];omega
theorem zqI:∀l:List Nd,zY (zer l)<=zY l
 |[]=>by rw[zer];exact Wf _
 |
  x::l=>by
  have b:=zn9 x;have c:=zqI l;rw[zer,zY,zY];omega
end
mutual
theorem zpi:∀n:Nd,zap (zfe n)<=zap n
 |
  .mk f c l=>by
  rw[zfe,zap];have b:=ztO (.mk f c (zfb (zbE f.kind) l));have d:=zlR (zbE f.kind) l;rw[zap]at b;omega
theorem zlR:∀(b:Bool)(l:List Nd),zY (zfb b l)<=zY l
 |b,[]=>by rw[zfb];exact Wf _
 |
  b,x::l=>by
  have c:=zpi x;have d:=zlR b l;have e:=zn9 (zfe x);have g:=zr4 (cutN (zfe x));rw[zfb,zY,zY];split<;>omega
end
def pm{α:Type}(g:α->α)(l:List α)(i:Nat):List α:=(l.take i).map g++l.drop i
theorem zwY{α:Type}{g:α->α}{l:List α}:pm g l 0=l:=rfl
theorem zGh{α:Type}{g:α->α}{l:List α}{i:Nat}(h:l.length<=i):pm g l i=l.map g:=by unfold pm;rw[WC h,Wm h,List.append_nil]
theorem zFR{α:Type}{g:α->α}{l:List α}{i:Nat}(h:i<=l.length):(pm g l i).length=l.length:=by unfold pm;rw[Wp,Wg,Wj,Ws];omega
theorem zuo{α:Type}{f:α->List AV}{g:α->α}{l:List α}{i:Nat}{d:List AV}(h:i<l.length):((pm g l i).map f).getD i d=f l[i]:=by
 have b:(pm g l i)[i]?=some l[i]:=by unfold pm;rw[List.getElem?_append_right (by rw[Wg,Wj];omega),Wg,Wj,List.getElem?_drop];rw[show i+(i-min i l.length)=i by omega];exact WA h
 rw[WD,List.getElem?_map,b];rfl
theorem zFQ{α:Type}{f:α->List AV}{g:α->α}{l:List α}{i:Nat}(h:i<l.length):((pm g l i).map f).set i (f (g l[i]))=(pm g l (i+1)).map f:=by
 rw[<-List.map_set];congr 1;unfold pm;have b:((l.take i).map g).length=i:=by rw[Wg,Wj];omega
 rw[List.set_append_right (h:=by omega),b,Nat.sub_self,Wk h,List.set_cons_zero,zqe h,Wq,Wl];rfl
theorem zpF:∀(l:List Nd)(h:l.length-1<l.length),zbn l=l.set (l.length-1) (cutN (l[l.length-1]'h))
 |[],h=>by simp at h
 |[x],h=>by rw[zbn];rfl
 |
  x::y::l,h=>by
  rw[zbn,zpF (y::l) (by simp)];simp
def zwz(b:Bool)(x:Nd):Nd:=if b=true then zeu (cutN (zfe x))else zfe x
theorem zDN{x}:zwz true x=zeu (cutN (zfe x)):=rfl
theorem zAM{x}:zwz false x=zfe x:=rfl
theorem zvU{b}{l}:zfb b l=l.map (zwz b):=zjc b l
def zLx(l:List Nd):Prop:=∀x∈l,x.f.kind≠1
theorem znX{x}{l}:zhM (x::l)=elN x++zhM l:=rfl
theorem zkb:∀l m:List Nd,zhM (l++m)=zhM l++zhM m
 |[],m=>rfl
 |x::l,m=>by rw[WE,znX,znX,zkb l m,Wl]
theorem zpN:∀{l:List Nd},zLx l->zhM l=l
 |[],_=>rfl
 |
  x::l,h=>by
  have b:=h x (by simp);obtain⟨⟨kd,e,lb⟩,c,m⟩:=x;rw[znX,zFp (kd:=kd) b,zpN (l:=l) (λy d=>h y (by simp[d]))];rfl
def zo4(l m:List Nd)(i:Nat):List Nd:=l.take i++m++l.drop (i+1)
theorem zsx{l:List Nd}{i:Nat}(h:i<l.length):l=l.take i++l[i]::l.drop (i+1):=by rw[<-Wk h,WB]
theorem zBv{l}{i}{e g lb}{c}{m}(h:i<l.length)(d:l[i]=.mk ⟨e,g,lb⟩ c m)(b:e=1)(k:∀x∈l,zkh x):zhM (zo4 l m i)=zhM l:=by
 have j:zLx m:=by have:=k _ (Wd h);rw[d]at this;exact this b
 conv=>rhs;rw[zsx h]
 unfold zo4;rw[zkb,zkb,zkb,znX,d,zG8 b,zpN j,Wl]
theorem zBj{l}{i}{f}{c}{m}(h:i<l.length)(b:l[i]=.mk f c m):zY (zo4 l m i)<zY l:=by
 conv=>rhs;rw[zsx h]
 unfold zo4;rw[zbY,zbY,zbY,zY,b,zap];omega
theorem zFT{l}{i}{g j lb}{c}{m}(h:i<l.length)(n:l[i]=.mk ⟨g,j,lb⟩ c m)(d:g=1)(e:∀x∈l,zkh x):∀x∈zo4 l m i,zkh x:=by
 intro x b;have k:zLx m:=by have:=e _ (Wd h);rw[n]at this;exact this d
 unfold zo4 at b;rcases Wt.1 b with b|b
 .rcases Wt.1 b with b|b
  .exact e x (List.mem_of_mem_take b)
  .have:=k x b;obtain⟨f,c,l⟩:=x;exact λd=>absurd d this
 .exact e x (List.mem_of_mem_drop b)
section
variable {H HH:AH}{σ:Nat->Nat->Option (Nat×Nat×Nat)}{D:Nat->Nat->Prop}{t:Bool}
theorem vw_to{cur:List Nd}{i:Nat}(g:i<=cur.length):Vw H HH σ D t (.sl 5 ((i:Int)-0).toNat λa j=>((cur.map encN).getD ((0:Int).toNat+a) []).getD j .undef) (encL 5 encN (cur.take i)):=by
 have e:((i:Int)-0).toNat=(cur.take i).length:=by rw[Wj];omega
 rw[e];refine .slf _ _ _ _ _ (λa j c d=>?_);have b:a<cur.length:=by rw[Wj]at c;omega
 rw[show(0:Int).toNat+a=a by simp,zg b,zg c,List.getElem_take];exact zqr _ j d
theorem zJH{cur:List Nd}{i:Nat}(g:i<cur.length):Vw H HH σ D t (.sl 5 ((cur.length:Int)-((i:Int)+1)).toNat λa j=>((cur.map encN).getD (((i:Int)+1).toNat+a) []).getD j .undef) (encL 5 encN (cur.drop (i+1))):=by
 have e:((cur.length:Int)-((i:Int)+1)).toNat=(cur.drop (i+1)).length:=by rw[Ws];omega
 rw[e];refine .slf _ _ _ _ _ (λa j c d=>?_);have b:i+1+a<cur.length:=by rw[Ws]at c;omega
 rw[show((i:Int)+1).toNat+a=i+1+a by omega,zg b,zg c,List.getElem_drop];exact zqr _ j d
theorem zD4{a1 a2 a3 b1 b2 b3}(e:Vw H HH σ D true a1 b1)(g:Vw H HH σ D true a2 b2)(k:Vw H HH σ D true a3 b3):RowV H HH σ D [[a1],[a2],[a3]] [[b1],[b2],[b3]]:=by
 refine⟨rfl,λi m h=>?_⟩
 match i with
 |0=>cases h;exact⟨_,rfl,rfl,λj a b c d=>by match j with|0=>cases c;cases d;exact e|j+1=>cases c⟩
 |1=>cases h;exact⟨_,rfl,rfl,λj a b c d=>by match j with|0=>cases c;cases d;exact g|j+1=>cases c⟩
 |2=>cases h;exact⟨_,rfl,rfl,λj a b c d=>by match j with|0=>cases c;cases d;exact k|j+1=>cases c⟩
 |i+3=>cases h
theorem zv5{cur m:List Nd}{i:Nat}(b:i<cur.length):RowV H HH σ D [[.sl 5 ((i:Int)-0).toNat λa j=>((cur.map encN).getD ((0:Int).toNat+a) []).getD j .undef],[encL 5 encN m],[.sl 5 ((cur.length:Int)-((i:Int)+1)).toNat λa j=>((cur.map encN).getD (((i:Int)+1).toNat+a) []).getD j .undef]] [[encL 5 encN (cur.take i)],[encL 5 encN m],[encL 5 encN (cur.drop (i+1))]] :=
 zD4 (vw_to (by omega)) (zV rfl) (zJH b)
end
section
variable (bl lb:Int) (c:List Ex) (l:List Nd)
def fS(cur:List Nd):Kn×AH:=([(1,.ptr 0 0 0 0 0),(2,.ptr 1 0 0 0 0),(3,encL 5 encN cur)],[(0,.row 5 [[.int .i64 1,.int .i64 bl,.int .i64 lb,encL 5 encX c,encL 5 encN l]] 0),(1,.row 5 [zN] 0)])
def fInv(cur:List Nd):Prop:=(∀x∈cur,zkh x)/\zhM cur=zhM l/\zY cur<=100000
theorem uj:type_of% @zN.eq_1:=@zN.eq_1
theorem zyb(Q:QT)(cur:List Nd)(C:fInv l cur)(K:Kn)(H:AH)(nx:Nat)(e:∀K H nx,Q .ret K H nx=retK zdJ (λv F _=>∃a,Frz F v a/\a=.agg (encN (ztb ⟨1,bl,lb⟩ c (zhM l)))) .ret K H nx)(z:∀K H nx b,fInv l b->zY b<zY cur->Ent 0 K H nx (fS bl lb c l b).1 (fS bl lb c l b).2 2->Q (.goto 0) K H nx)(s:Ent 0 K H nx [(1,.ptr 0 0 0 0 0),(2,.ptr 1 0 0 0 0),(3,encL 5 encN cur),(13,encL 5 encN cur),(14,.int .i64 cur.length),(15,.int .i64 0)] [(0,.row 5 [[.int .i64 1,.int .i64 bl,.int .i64 lb,encL 5 encX c,encL 5 encN l]] 0),(1,.row 5 [zN] 0)] 2) :
  zA9 Z9 0 zfd (zgx 0 (seqQ Z9 0 zff Q)) K H nx:=by
 have P:=hBig;obtain⟨u,t,N⟩:=C;have L:=zde cur;refine zf (λi:Nat=>([(1,.ptr 0 0 0 0 0),(2,.ptr 1 0 0 0 0),(3,encL 5 encN cur),(13,encL 5 encN cur),(14,.int .i64 cur.length),(15,.int .i64 i)],[(0,.row 5 [[.int .i64 1,.int .i64 bl,.int .i64 lb,encL 5 encX c,encL 5 encN l]] 0),(1,.row 5 [zN] 0)])) 2 (λi=>i<=cur.length/\zLx (cur.take i)) (λi=>cur.length-i) 0 ⟨Wc _,by intro x p;simp at p⟩ s ?_;rintro i ⟨C,o⟩ wf;unfold zfd;by_cases n:i<cur.length
 .have g:=zg (f:=encN) (d:=[]) n;generalize p:cur[i]=y at g;obtain⟨⟨A,I,O⟩,c',m⟩:=y;rw[zaI]at g;simp only at g;by_cases B:A=1
  .subst B;have j:[cur.take i,m,cur.drop (i+1)].flatten=zo4 cur m i:=by simp[zo4]
   have w:=zBj n p;have D:=zde (zo4 cur m i);have q:=zEW [cur.take i,m,cur.drop (i+1)] (by simp) (by rw[<-zpM,j];omega);rw[j]at q;refine Gw5 @dT g @ua @znR @zl8 ?_;intros
   (repeat' with_reducible apply And.intro)<;>(first|omega|skip)<;>(refine Gw5 @dT g @ua @znR @zl8 ?_;intros;try with_reducible exact trivial)
   all_goals(repeat' with_reducible apply And.intro)<;>(first|omega|skip)<;>(refine Gw5 @dT g @ua @znR @zl8 ?_;intros;try with_reducible exact trivial)
   all_goals(repeat' with_reducible apply And.intro)<;>(first|omega|skip)<;>(refine Gw5 @dT g @ua @znR @zl8 ?_;intros;try with_reducible exact trivial)
   all_goals
    refine zaV [(0,3,0)] 1 _ (q) rfl rfl (by(try simp only[evWB,Xb,Xc,Xh,Xd,Xi,implies_true,LLN,Wu,Wv,zv5 n])<;>exact fin1) (by(try simp only[evWB,Xb,Xc,Xh,Xd,Xi,implies_true,LLN,Wu,Wv,zv5 n])<;>exact fin1) ?_;rintro _ _ _ ⟨rfl,rfl,rfl⟩;refine Gw1 @renN ?_;intros;exact z _ _ _ (zo4 cur m i) ⟨zFT n p rfl u,(zBv n p rfl u).trans t,by omega⟩ w (Xa [(0,0,0),(1,1,0)] [5] rfl (Gin7_2 @uj @fS.eq_1) (Gin7_2 @uj @fS.eq_1))
  ·(refine Gw4 @dT @dF g @ua ?_;intros)
   exact⟨i+1,⟨by omega,by
    rw[zqe n];intro x h;rcases Wt.1 h with h|h
    .exact o x h
    .rw[List.mem_singleton.1 h,p];exact B⟩,by omega,(Xa [(0,0,0),(1,1,0)] [] rfl Ql Ql)⟩
 .rw[WC (by omega)]at o;have J:zhM l=cur:=by rw[<-t,zpN o]
  rw[J]at e;refine Gw1 @dF ?_;intros;refine dcU zff.eq_1 ?_;by_cases k:cur.length=1
  .obtain⟨a,rfl⟩:∃a,cur=[a]:=List.length_eq_one_iff.1 k;have g:([a].map encN).getD (Int.toNat 0) []=encN a:=rfl;simp only[Wu,Wv]at g;refine Gw6 @dT g @zdJ.eq_1 @zx @zC e ?_;intros;exact⟨_,frzA,rfl⟩
  .have M:ztb ⟨1,bl,lb⟩ c cur=.mk ⟨1,bl,lb⟩ c cur:=by
    unfold ztb;split
    .rename_i a;simp at k
    .rfl
   rw[M,zaI]at e;simp only at e;refine Gw3 @dF e @zdJ.eq_1 ?_;intros;exact⟨_,zV rfl,rfl⟩
end
theorem zkY(e:Nd)(u:zap e<=100000)(k:∀x∈e.l,zkh x):zo Z9 zeh [.agg (encN e)] (·=.agg (encN (zu6 e))):=by
 obtain⟨⟨p,j,lb⟩,c,l⟩:=e;refine fn_x zrG rfl ?_;unfold zlx;have v:=hBig;rw[zap]at u;have t:=zde l;have n:=zaI ⟨p,j,lb⟩ c l;simp only at n;simp only[Nd.l]at k;rw[n];by_cases g:p=1
 .rw[zkM,if_pos g];subst g;refine Gw0 ?_;intros;refine ztq (fS j lb c l) 2 (fInv l) zY ?_ ?_
  ·(refine Gw1 @dF ?_;intros);refine zaV [] 0 _ (zqQ l (by omega)) rfl rfl Gin1_0 Gin1_0 ?_;rintro _ _ _ ⟨rfl,rfl,rfl⟩;refine Gw1 @renN ?_;intros;exact zyb j lb c l _ l ⟨k,rfl,by omega⟩ _ _ _ (λ_ _ _=>rfl) (λK H nx b g o m=>⟨rfl,b,g,m⟩) (Xa [(0,0,0),(1,1,0)] [2] rfl (Gin7_1 @uj) (Gin7_1 @uj))
  .rintro cur d wf;have q:=zde cur;have s:=d.2.2;unfold ziD fS;refine Gw0 ?_;intros;exact zyb j lb c l _ cur d _ _ _ (λ_ _ _=>rfl) (λK H nx b g o m=>⟨rfl,b,g,o,m⟩) (Xa [(0,0,0),(1,1,0)] [] rfl (Gin7_1 @uj) (Gin7_1 @uj))
 .rw[zkM,if_neg g];refine Gw0 ?_;intros;refine ztq (fS j lb c l) 2 (λ_=>False) (λ_=>0) ?_ (λ_ h=>h.elim);refine Gw2 @dT @zdJ.eq_1 ?_;intros;rw[<-n];exact⟨_,frzA,rfl⟩
theorem zmL:zo Z9 zah [.nilsl] (·=.agg (encN (.mk seqF [] []))):=by
 refine fn_x zmP rfl ?_;refine dcU zih.eq_1 ?_;have e:=hBig;refine Gw1 @zid.eq_1 ?_;intros;refine⟨.agg (encN (.mk seqF [] [])),?_,rfl⟩;rw[zaI];refine .agg _ _ _ rfl (λj a c b d=>?_)
 match j with
 |0=>cases b;cases d;exact .int _ _ _
 |1=>cases b;cases d;exact .int _ _ _
 |2=>cases b;cases d;exact .int _ _ _
 |3=>cases b;cases d;exact zkH
 |4=>cases b;cases d;exact zkH
 |j+5=>cases b
theorem zir:∀(k:Nat)(e:Nd),zap e<=k->k<=100000->zo Z9 zcR [.agg (encN e)] (·=.agg (encN (zeu e))):=by
 intro k
 induction k with
 |zero=>intro e h;obtain⟨_,_,l⟩:=e;rw[zap]at h;omega
 |succ k B=>
 intro e u v;obtain⟨⟨j,d,lb⟩,c,l⟩:=e;refine fn_x zoz rfl ?_;refine dcU ziV.eq_1 ?_;have C:=hBig;rw[zap]at u;have w:=zde l;have o:=zaI ⟨j,d,lb⟩ c l;simp only at o;rw[o,zeu];refine Gw0 ?_;intros;refine zaV [] 0 _ (zqQ l (by omega)) rfl rfl Gin1_0 Gin1_0 ?_;rintro _ _ _ ⟨rfl,rfl,rfl⟩;refine Gw1 @renN ?_;intros;refine zf (λi:Nat=>([(1,.ptr 0 0 0 0 0),(2,.ptr 1 0 0 0 0),(3,.own 2 0 0 0 l.length),(9,.int .i64 l.length),(10,.int .i64 i)],[(0,.row 5 [[.int .i64 j,.int .i64 d,.int .i64 lb,encL 5 encX c,encL 5 encN l]] 0),(1,.row 5 [zN] 0),(2,.row 5 ((pm zeu l i).map encN) 0)])) 3 (λi=>i<=l.length) (λi=>l.length-i) 0 (Wc _) (Xa [(0,0,0),(1,1,0),(2,2,0)] [] rfl (Gin2_2 @uj @zwY) (Gin2_2 @uj @zwY)) ?_;intro i t wf;refine dcU zgH.eq_1 ?_;have b:(pm zeu l i).length=l.length:=zFR t;by_cases g:i<l.length
 .have D:=zeM (Wd g)
  (repeat first|simp(disch:=try exact dis1) only[evD,Xb,Xc,Xd,dT,b,zuo g,zx,zC]|with_reducible first|intro _|refine aJ ?_)
  refine zd (ze (B l[i] (by omega) (by omega)) (flN rfl)) ?_
  (repeat first|simp(disch:=try exact dis1) only[evD,Xb,Xc,Xd,b,zuo g,zx,zC,zFQ g]|with_reducible first|intro _|refine aJ ?_)
  exact⟨i+1,by omega,by omega,(Xa [(0,0,0),(1,1,0),(2,2,0)] [] rfl Ql Ql)⟩
 .have z:pm zeu l i=zc6 l:=by rw[zGh (by omega),zfX]
  have m:l.length=(zc6 l).length:=by rw[zfX,Wg]
  have A:=zkS l;have n:∀x∈zc6 l,zkh x:=by intro x q;rw[zfX]at q;obtain⟨y,_,rfl⟩:=List.mem_map.1 q;exact zl5 y
  rw[z];refine Gw1 @dF ?_;intros;unfold zgL;refine Gw0 ?_;intros;rw[m];have s:(zc6 l).length<=big:=by omega
  refine zaL [(1,.ptr 0 0 0 0 0),(2,.ptr 1 0 0 0 0)] [(0,.row 5 [[.int .i64 j,.int .i64 d,.int .i64 lb,encL 5 encX c,encL 5 encN (zc6 l)]] 0),(1,.row 5 [zN] 0)] 2 λ_=>⟨(Xa [(0,0,0),(1,1,0)] [2] rfl (Gin7_1 @uj) (Gin7_1 @uj)),?_⟩
  have p:=zkY (.mk ⟨j,d,lb⟩ c (zc6 l)) (by rw[zap];omega) n;rw[zaI]at p;refine Gw0 ?_;intros;refine zd (ze p rfl) ?_;refine Gw2 @zx @ziJ.eq_1 ?_;intros;exact⟨_,frzA,rfl⟩
theorem zk2:∀(k:Nat)(e:Nd),zap e<=k->k<=100000->zo Z9 zdb [.agg (encN e)] (·=.agg (encN (cutN e))):=by
 intro k
 induction k with
 |zero=>intro e h;obtain⟨_,_,l⟩:=e;rw[zap]at h;omega
 |succ k y=>
 intro e D F;obtain⟨⟨b,d,lb⟩,c,l⟩:=e;refine fn_x zrl rfl ?_;refine dcU zk4.eq_1 ?_;have N:=hBig;rw[zap]at D;have I:=zde l;have w:=zaI ⟨b,d,lb⟩ c l;simp only at w;rw[w];have g:cutN (.mk ⟨b,d,lb⟩ c l)=if b=8 then .mk seqF [] []else if b=1 then .mk ⟨b,d,lb⟩ c (zbn l)else if b=3\/b=6 then .mk ⟨b,d,lb⟩ c (zer l)else .mk ⟨b,d,lb⟩ c l:=by rw[cutN]
 generalize C:cutN (.mk ⟨b,d,lb⟩ c l)=R;rw[C]at g;subst g;refine Gw0 ?_;intros;refine zaV [] 0 _ (zqQ l (by omega)) rfl rfl Gin1_0 Gin1_0 ?_;rintro _ _ _ ⟨rfl,rfl,rfl⟩;refine Gw1 @renN ?_;intros;by_cases u:b=8
 .rw[if_pos u];refine Gw1 @dT ?_;intros;refine zd (ze zmL rfl) ?_;refine Gw2 @zx @zbD.eq_1 ?_;intros;exact⟨_,frzA,rfl⟩
 rw[if_neg u];by_cases t:b=1
 .rw[if_pos t];refine Gw2 @dF @dT ?_;intros;by_cases M:0<l.length
  .have n:l.length-1<l.length:=by omega
   have j:(((l.length:Nat):Int)-1).toNat=l.length-1:=by omega
   have J:=zeM (Wd n);refine Gw5 @dT j (gmp n) @zx @zC ?_;intros;refine zd (ze (y l[l.length-1] (by omega) (by omega)) (flN rfl)) ?_;have q:(l.map encN).set (l.length-1) (encN (cutN l[l.length-1]))=(zbn l).map encN:=by rw[zpF l n,List.map_set]
   have m:l.length=(zbn l).length:=by rw[zpF l n,Ww]
   refine Gw6 @dT j (gmp n) @zx @zC q ?_;intros;refine dcU zbs.eq_1 ?_;refine Gw1 @zbD.eq_1 ?_;intros;rw[m];exact⟨_,frzN rfl (by omega),rfl⟩
  .obtain rfl:l=[]:=Wn (by omega);refine Gw2 @dF @ug ?_;intros;refine dcU zbs.eq_1 ?_;refine Gw1 @zbD.eq_1 ?_;intros;exact⟨_,frzN (l:=[]) rfl (by simp),by rw[zbn]⟩
 rw[if_neg t]
 have loop:∀(K:Kn)(H:AH)(nx:Nat),Ent 0 K H nx [(1,.ptr 0 0 0 0 0),(2,.ptr 1 0 0 0 0),(3,.own 2 0 0 0 l.length),(34,.int .i64 l.length),(35,.int .i64 0)] [(0,.row 5 [[.int .i64 b,.int .i64 d,.int .i64 lb,encL 5 encX c,encL 5 encN l]] 0),(1,.row 5 [zN] 0),(2,.row 5 (l.map encN) 0)] 3->zA9 Z9 0 zfh (zgx 1 (zgx 0 (seqQ Z9 0 zbs (retK zbD λv z x=>∃a,Frz z v a/\a=.agg (encN (.mk ⟨b,d,lb⟩ c (zer l))))))) K H nx:=by
  intro K H nx p;refine zf (λi:Nat=>([(1,.ptr 0 0 0 0 0),(2,.ptr 1 0 0 0 0),(3,.own 2 0 0 0 l.length),(34,.int .i64 l.length),(35,.int .i64 i)],[(0,.row 5 [[.int .i64 b,.int .i64 d,.int .i64 lb,encL 5 encX c,encL 5 encN l]] 0),(1,.row 5 [zN] 0),(2,.row 5 ((pm cutN l i).map encN) 0)])) 3 (λi=>i<=l.length) (λi=>l.length-i) 0 (Wc _) p ?_;intro i n wf;refine dcU zfh.eq_1 ?_;have o:(pm cutN l i).length=l.length:=zFR n;by_cases s:i<l.length
  .have J:=zeM (Wd s)
   (repeat first|simp(disch:=try exact dis1) only[evD,Xb,Xc,Xd,dT,o,zuo s,zx,zC]|with_reducible first|intro _|refine aJ ?_)
   refine zd (ze (y l[i] (by omega) (by omega)) (flN rfl)) ?_
   (repeat first|simp(disch:=try exact dis1) only[evD,Xb,Xc,Xd,o,zuo s,zx,zC,zFQ s]|with_reducible first|intro _|refine aJ ?_)
   exact⟨i+1,by omega,by omega,(Xa [(0,0,0),(1,1,0),(2,2,0)] [] rfl Ql Ql)⟩
  ·(refine Gw2 @dF o ?_;intros);refine dcU zbs.eq_1 ?_;have L:pm cutN l i=zer l:=by rw[zGh (by omega),zoa]
   have m:l.length=(zer l).length:=by rw[zoa,Wg]
   rw[L,m];refine Gw1 @zbD.eq_1 ?_;intros;exact⟨_,frzN rfl (by omega),rfl⟩
 by_cases A:b=3
 .rw[if_pos (.inl A)];refine Gw2 @dF @dT ?_;intros;exact loop _ _ _ (Xa [(0,0,0),(1,1,0),(2,2,0)] [] rfl Ql Ql)
 by_cases B:b=6
 .rw[if_pos (.inr B)];refine Gw2 @dF @dT ?_;intros;exact loop _ _ _ (Xa [(0,0,0),(1,1,0),(2,2,0)] [] rfl Ql Ql)
 rw[if_neg (by omega)];refine Gw1 @dF ?_;intros;refine dcU zbs.eq_1 ?_;refine Gw1 @zbD.eq_1 ?_;intros;exact⟨_,frzN rfl (by omega),rfl⟩
mutual
def zBE:Nd->Prop
 |.mk _ c l=>(c.length<=100/\∀x∈c,zeQ x<=1000)/\ztC l
def ztC:List Nd->Prop
 |[]=>True
 |x::l=>zBE x/\ztC l
end
theorem zwf:∀{l:List Nd}{x:Nd},ztC l->x∈l->zBE x
 |[],x,_,b=>by simp at b
 |
  a::l,x,h,b=>by
  rw[ztC]at h;rcases List.mem_cons.1 b with rfl|b
  .exact h.1
  .exact zwf h.2 b
mutual
theorem zpf:∀(e:Ex)(m n:Int),0<=zhY e m n->(zeQ e:Int)+zhY e m n<=n
 |
  .mk op nn v w l,m,n,h=>by
  rw[zhY]at h⊢;split at h
  .omega
  .rename_i b;rw[if_neg b];have:=zse l (m-1) (n-1) h;rw[zeQ];omega
theorem zse:∀(l:List Ex)(m n:Int),0<=zd3 l m n->(zo8 l:Int)+zd3 l m n<=n
 |
  [],m,n,h=>by
  rw[zd3,zo8];omega
 |
  e::l,m,n,h=>by
  rw[zd3]at h⊢;split at h
  .omega
  .rename_i c;rw[if_neg c];have g:=zse l m _ h;have b:0<=zhY e m n:=by apply Classical.byContradiction;intro j;have:=zuU (l:=l) (m:=m) (n:=zhY e m n) (by omega);omega
   have d:=zpf e m n b;rw[zo8];omega
end
theorem zpA:∀{c:List Ex}{x:Ex},zkT c=true->x∈c->0<=zhY x 70 200
 |[],x,_,b=>by simp at b
 |
  a::c,x,h,b=>by
  rw[zkT]at h;split at h
  .cases h
  .rename_i d;rcases List.mem_cons.1 b with rfl|b
   .omega
   .exact zpA h b
theorem zxw{L:List (List AV)}{i:Nat}{v:List AV}(h:i<L.length):(L.set i v).getD i []=v:=by rw[WD,List.getElem?_set_self h];rfl
theorem znC:∀(k:Nat)(e:Nd),zap e<=k->k<=100000->zBE e->zo Z9 zaq [.agg (encN e)] (·=.agg (encN (zfe e))):=by
 intro k
 induction k with
 |zero=>intro e h;obtain⟨_,_,l⟩:=e;rw[zap]at h;omega
 |succ k S=>
 intro e L N u;obtain⟨⟨p,t,lb⟩,c,l⟩:=e;refine fn_x znx rfl ?_;refine dcU zh5.eq_1 ?_;have V:=hBig;rw[zap]at L;rw[zBE]at u;obtain⟨⟨K,C⟩,hcl⟩:=u;have O:=zde l;have F:=zaI ⟨p,t,lb⟩ c l;simp only at F;have n:zbE p=decide (p=4\/p=5):=rfl;rw[F,zfe];simp only;generalize zbE p=b at n⊢;refine Gw0 ?_;intros;refine zaV [] 0 _ (zqQ l (by omega)) rfl rfl Gin1_0 Gin1_0 ?_;rintro _ _ _ ⟨rfl,rfl,rfl⟩;refine Gw1 @renN ?_;intros;refine zf (λi:Nat=>([(1,.ptr 0 0 0 0 0),(2,.ptr 1 0 0 0 0),(3,.own 2 0 0 0 l.length),(11,.int .i64 l.length),(12,.int .i64 i)],[(0,.row 5 [[.int .i64 p,.int .i64 t,.int .i64 lb,encL 5 encX c,encL 5 encN l]] 0),(1,.row 5 [zN] 0),(2,.row 5 ((pm (zwz b) l i).map encN) 0)])) 3 (λi=>i<=l.length) (λi=>l.length-i) 0 (Wc _) (Xa [(0,0,0),(1,1,0),(2,2,0)] [] rfl (Gin2_2 @uj @zwY) (Gin2_2 @uj @zwY)) ?_;intro i I wf;refine dcU zf7.eq_1 ?_;have j:(pm (zwz b) l i).length=l.length:=zFR I;have d:((pm (zwz b) l i).map encN).length=l.length:=by rw[Wg,j]
 by_cases q:i<l.length
 .have X:=zeM (Wd q);have Q:=zpi l[i];have R:=zn9 (zfe l[i]);have o:=zFQ (f:=encN) (g:=zwz b) q;have m:∀v,(((pm (zwz b) l i).map encN).set i v).getD i []=v:=λv=>zxw (by omega)
  (repeat first|simp(disch:=try exact dis1) only[evD,Xb,Xc,Xd,dT,j,zuo q,zx,zC]|with_reducible first|intro _|refine aJ ?_)
  refine zd (ze (S l[i] (by omega) (by omega) (zwf hcl (Wd q))) (flN rfl)) ?_;by_cases s:p=4\/p=5
  .rw[decide_eq_true s]at n;subst n;rw[zDN]at o;rcases s with T|U
   ·(refine Gw7 @dT j d @m9S m @zx @zC ?_;intros);refine zd (ze (zk2 (k+1) (zfe l[i]) (by omega) (by omega)) (flN rfl)) ?_;refine Gw7 @dT j d @m9S m @zx @zC ?_;intros;refine zd (ze (zir (k+1) (cutN (zfe l[i])) (by omega) (by omega)) (flN rfl)) ?_
    (repeat first|simp(disch:=try exact dis1) only[evD,Xb,Xc,Xd,dT,j,d,Ww,m,zx,zC,List.set_set,o]|with_reducible first|intro _|refine aJ ?_)
    exact⟨i+1,by omega,by omega,(Xa [(0,0,0),(1,1,0),(2,2,0)] [] rfl Ql Ql)⟩
   ·(refine Gw8 @dF @dT j d @m9S m @zx @zC ?_;intros);refine zd (ze (zk2 (k+1) (zfe l[i]) (by omega) (by omega)) (flN rfl)) ?_;refine Gw7 @dT j d @m9S m @zx @zC ?_;intros;refine zd (ze (zir (k+1) (cutN (zfe l[i])) (by omega) (by omega)) (flN rfl)) ?_
    (repeat first|simp(disch:=try exact dis1) only[evD,Xb,Xc,Xd,dT,j,d,Ww,m,zx,zC,List.set_set,o]|with_reducible first|intro _|refine aJ ?_)
    exact⟨i+1,by omega,by omega,(Xa [(0,0,0),(1,1,0),(2,2,0)] [] rfl Ql Ql)⟩
  .rw[decide_eq_false s]at n;subst n;rw[zAM]at o;refine Gw6 @dF j d @zx @zC o ?_;intros;exact⟨i+1,by omega,by omega,(Xa [(0,0,0),(1,1,0),(2,2,0)] [] rfl Ql Ql)⟩
 .have P:pm (zwz b) l i=zfb b l:=by rw[zGh (by omega),zvU]
  have w:l.length=(zfb b l).length:=by rw[zvU,Wg]
  have D:=zlR b l
  have z:∀x∈zfb b l,zkh x:=by
   intro x J;rw[zjc]at J;obtain⟨y,_,rfl⟩:=List.mem_map.1 J;split
   .exact zl5 _
   .exact zyd _
  rw[P];refine Gw1 @dF ?_;intros;refine dcU zf6.eq_1 ?_;rw[w];have B:(zfb b l).length<=big:=by omega
  generalize W:zfb b l=M at B D z⊢;refine Gw0 ?_;intros;refine zaV [] 0 _ (zzR c (by omega)) rfl rfl Gin1_0 Gin1_0 ?_;rintro _ _ _ ⟨rfl,rfl,rfl⟩;refine Gw2 @renN @renX ?_;intros;refine zf (λi:Nat=>([(1,.ptr 0 0 0 0 0),(2,.ptr 1 0 0 0 0),(5,.own 3 0 0 0 c.length),(47,.int .i64 c.length),(48,.int .i64 i)],[(0,.row 5 [[.int .i64 p,.int .i64 t,.int .i64 lb,encL 5 encX c,.own 2 0 0 0 M.length]] 0),(1,.row 5 [zN] 0),(2,.row 5 (M.map encN) 0),(3,.row 5 (c.map encX) 0)])) 4 (λi=>i<=c.length) (λi=>c.length-i) 0 (Wc _) (Xa [(0,0,0),(1,1,0),(2,2,0),(3,3,0)] [] rfl Ql Ql) ?_;intro i I wf;refine dcU zf5.eq_1 ?_;by_cases q:i<c.length
  .have A:(c.map encX).set i (encX c[i])=c.map encX:=by rw[<-Wy (f:=encX) (h:=by simpa using q)];exact Wz _
   refine Gw4 @dT (gmp q) @zbl @zba ?_;intros;refine zd (ze (zeP 1000 c[i] (C _ (Wd q)) (by omega)) (flX rfl)) ?_;refine Gw3 (gmp q) @zbl A ?_;intros;exact⟨i+1,by omega,by omega,(Xa [(0,0,0),(1,1,0),(2,2,0),(3,3,0)] [] rfl Ql Ql)⟩
  ·(refine Gw1 @dF ?_;intros);unfold zge;refine Gw0 ?_;intros;refine zaL [(1,.ptr 0 0 0 0 0),(2,.ptr 1 0 0 0 0)] [(0,.row 5 [[.int .i64 p,.int .i64 t,.int .i64 lb,encL 5 encX c,encL 5 encN M]] 0),(1,.row 5 [zN] 0)] 2 λ_=>⟨(Xa [(0,0,0),(1,1,0)] [2,3] rfl (Gin7_1 @uj) (Gin7_1 @uj)),?_⟩
   have H:=zkY (.mk ⟨p,t,lb⟩ c M) (by rw[zap];omega) z;rw[zaI]at H;refine Gw0 ?_;intros;refine zd (ze H rfl) ?_;refine Gw2 @zx @zh8.eq_1 ?_;intros;exact⟨_,frzA,rfl⟩
def zwL(v:Int):Bool:=decide (0<=v/\v<65536)
def zxe(w:Int):Bool:=decide (w=1\/w=2\/w=4)
theorem zkW(v):zo Z9 zgI [.int .i64 v] (·=.bool (zwL v)):=by
 refine fn_x zvl rfl ?_;unfold zoZ zwL;conv in Z8 _ _=>reduce
 by_cases b:0<=v
 ·(refine Gw2 @dT @zkV.eq_1 ?_;intros);exact⟨_,.bool _ _,congrArg _ (decide_eq_decide.2 (by omega))⟩
 ·(refine Gw2 @dF @zkV.eq_1 ?_;intros);exact bzO
theorem zsj(v):zo Z9 zjN [.int .i64 v] (·=.bool (zwL v)):=by
 refine fn_x zye rfl ?_;unfold zr5 zwL;conv in Z8 _ _=>reduce
 by_cases b:0<=v
 ·(refine Gw2 @dT @znT.eq_1 ?_;intros);exact⟨_,.bool _ _,congrArg _ (decide_eq_decide.2 (by omega))⟩
 ·(refine Gw2 @dF @znT.eq_1 ?_;intros);exact bzO
theorem zsb(w):zo Z9 zjP [.int .i64 w] (·=.bool (zxe w)):=by
 refine fn_x zzN rfl ?_;unfold zsz zxe;conv in Z8 _ _=>reduce
 by_cases b:w=1
 ·(refine Gw2 @dT @zj9.eq_1 ?_;intros);exact bzO
 by_cases c:w=2
 ·(refine Gw3 @dF @dT @zj9.eq_1 ?_;intros);exact bzO
 ·(refine Gw2 @dF @zj9.eq_1 ?_;intros);exact⟨_,.bool _ _,congrArg _ (decide_eq_decide.2 (by omega))⟩
mutual
def zul:Ex->Int->Bool
 |.mk _ _ _ _ l,m=>if m<1 then true else zqE l (m-1)
def zqE:List Ex->Int->Bool
 |[],_=>false
 |e::l,m=>zul e m||zqE l m
end
theorem zv1:∀(l:List Ex)(m:Int),zqE l m=l.any (zul · m)
 |[],m=>by rw[zqE];rfl
 |e::l,m=>by rw[zqE,zv1 l m];rfl
def zr(op n v w:Int)(k:Nat):Bool:=decide ((op=1/\v=0/\w=0/\k=0)\/(op=2/\n=0/\w=0/\k=0/\0<=v/\v<65536)\/((op=16\/op=17)/\n=0/\v=0/\w=0/\k=1)\/(op=18/\n=0/\v=0/\(w=1\/w=2\/w=4)/\k=1)\/(op=19/\n=0/\v=0/\(w=1\/w=2)/\k=1)\/(3<=op/\op<=15/\n=0/\v=0/\w=0/\k=2))
mutual
def zj2:Ex->Bool
 |.mk op n v w l=>zf9 l&&zr op n v w l.length
def zf9:List Ex->Bool
 |[]=>true
 |e::l=>zj2 e&&zf9 l
end
theorem ze2:∀(l:List Ex),zf9 l=l.all zj2
 |[]=>by rw[zf9];rfl
 |e::l=>by rw[zf9,ze2 l];rfl
def zji(e:Ex):Int:=if zul e 64=true then 20 else if zj2 e=true then 0 else 2
theorem zwK:∀(k:Nat)(e:Ex)(m:Int),zeQ e<=k -> -1000<=m->m<=1000->zo Z9 zh1 [.agg (encX e),.int .i64 m] (·=.bool (zul e m)):=by
 intro k
 induction k with
 |zero=>intro e m h;obtain⟨_,_,_,_,l⟩:=e;rw[zeQ]at h;omega
 |succ k p=>
 intro e m j n o;obtain⟨op,q,v,w,l⟩:=e;refine fn_x zxK rfl ?_;refine dcU zqw.eq_1 ?_;have s:=hBig;rw[zeQ]at j;rw[zij,zul];by_cases d:m<1
 .rw[if_pos d];refine Gw3 @ua @dT @zi5.eq_1 ?_;intros;exact bzO
 .rw[if_neg d];refine Gw2 @ua @dF ?_;intros;generalize g:zqE l (m-1)=R;refine zf (λi:Nat=>([(1,.int .i64 m),(2,encP 5 [.int .i64 op,.int .u32 q,.int .i64 v,.int .i64 w,encL 5 encX l]),(5,.int .i64 i)],[])) 0 (λi=>i<=l.length/\zqE (l.drop i) (m-1)=R) (λi=>l.length-i) 0 ⟨Wc _,g⟩ (Xf rfl fin5) ?_;rintro i ⟨t,b⟩ wf;refine dcU zmt.eq_1 ?_;by_cases c:i<l.length
  .have u:=zjJ (Wd c);rw[Wk c,zqE]at b;refine Gw5 @ua @dT (gmp c) @zbl @zba ?_;intros;refine zd (ze (p l[i] (m-1) (by omega) (by omega) (by omega)) (flX rfl)) ?_
   cases hd:zul l[i] (m-1)with
   |true=>rw[hd,Bool.true_or]at b;subst b;refine Gw1 @zi5.eq_1 ?_;intros;exact bzO
   |false=>rw[hd,Bool.false_or]at b;refine Gw0 ?_;intros;exact⟨i+1,⟨by omega,b⟩,by omega,Xf rfl fin5⟩
  .rw[Wm (by omega),zqE]at b;subst b;refine Gw2 @ua @dF ?_;intros;unfold zmW;refine Gw1 @zi5.eq_1 ?_;intros;exact bzO
theorem Qf{p q:Prop}(k:q)(h:Im q p:=by(repeat first|simp(disch:=try exact dis1) only[evD,Nat.reduceBEq,Nat.reduceAdd,Nat.reduceLeDiff,dT,dF,fldP,zj]|((with_reducible apply Im.i);intro _)|((with_reducible apply Im.a);omega));exact Im.r):p:=h k
theorem zuW{op nn v w i}{l}(h:op=1):
  wpX Z9 0 zT (retK zj λc b x=>∃a,Frz b c a/\a=.bool (zr op nn v w l.length)) [(1,encP 5 [.int .i64 op,.int .u32 nn,.int .i64 v,.int .i64 w,encL 5 encX l]),(3,.int .i64 i),(8,.bool false)] [] 0:=by
 refine dcU zT.eq_1 ?_;have d:=hBig;refine Qf ?_;intros;by_cases e:v=0<;>(refine Qf ?_;intros)
 case neg=>unfold zr;exact bxO lb
 by_cases g:w=0<;>(refine Qf ?_;intros)
 case neg=>unfold zr;exact bxO lb
 unfold zr;exact bxO lb
theorem ztK{op nn v w i}{l}(h:op=2):
  wpX Z9 0 zT (retK zj λc b x=>∃a,Frz b c a/\a=.bool (zr op nn v w l.length)) [(1,encP 5 [.int .i64 op,.int .u32 nn,.int .i64 v,.int .i64 w,encL 5 encX l]),(3,.int .i64 i),(8,.bool false)] [] 0:=by
 refine dcU zT.eq_1 ?_;have d:=hBig;refine Qf ?_;intros;by_cases e:nn=0<;>(refine Qf ?_;intros)
 case neg=>unfold zr;exact bxO lb
 by_cases g:w=0<;>(refine Qf ?_;intros)
 case neg=>unfold zr;exact bxO lb
 by_cases j:l.length=0<;>(refine Qf ?_;intros)
 case neg=>unfold zr;exact bxO lb
 refine zd (ze (zsj v) rfl) ?_;unfold zwL;refine Qf ?_;intros;unfold zr;exact bxO lb
theorem zuZ{op nn v w i}{l}(h:op=16):
  wpX Z9 0 zT (retK zj λc b x=>∃a,Frz b c a/\a=.bool (zr op nn v w l.length)) [(1,encP 5 [.int .i64 op,.int .u32 nn,.int .i64 v,.int .i64 w,encL 5 encX l]),(3,.int .i64 i),(8,.bool false)] [] 0:=by
 refine dcU zT.eq_1 ?_;have d:=hBig;refine Qf ?_;intros;by_cases e:nn=0<;>(refine Qf ?_;intros)
 case neg=>unfold zr;exact bxO lb
 by_cases g:v=0<;>(refine Qf ?_;intros)
 case neg=>unfold zr;exact bxO lb
 by_cases j:w=0<;>(refine Qf ?_;intros)
 case neg=>unfold zr;exact bxO lb
 unfold zr;exact bxO lb
theorem zta{op nn v w i}{l}(h:op=17):
  wpX Z9 0 zT (retK zj λc b x=>∃a,Frz b c a/\a=.bool (zr op nn v w l.length)) [(1,encP 5 [.int .i64 op,.int .u32 nn,.int .i64 v,.int .i64 w,encL 5 encX l]),(3,.int .i64 i),(8,.bool false)] [] 0:=by
 refine dcU zT.eq_1 ?_;have d:=hBig;refine Qf ?_;intros;by_cases e:nn=0<;>(refine Qf ?_;intros)
 case neg=>unfold zr;exact bxO lb
 by_cases g:v=0<;>(refine Qf ?_;intros)
 case neg=>unfold zr;exact bxO lb
 by_cases j:w=0<;>(refine Qf ?_;intros)
 case neg=>unfold zr;exact bxO lb
 unfold zr;exact bxO lb
theorem zte{op nn v w i}{l}(h:op=18):
  wpX Z9 0 zT (retK zj λc b x=>∃a,Frz b c a/\a=.bool (zr op nn v w l.length)) [(1,encP 5 [.int .i64 op,.int .u32 nn,.int .i64 v,.int .i64 w,encL 5 encX l]),(3,.int .i64 i),(8,.bool false)] [] 0:=by
 refine dcU zT.eq_1 ?_;have d:=hBig;refine Qf ?_;intros;by_cases e:nn=0<;>(refine Qf ?_;intros)
 case neg=>unfold zr;exact bxO lb
 by_cases g:v=0<;>(refine Qf ?_;intros)
 case neg=>unfold zr;exact bxO lb
 by_cases j:w=1;case pos=>refine Qf ?_;intros;unfold zr;exact bxO lb
 refine Qf ?_;intros;by_cases k:w=2;case pos=>refine Qf ?_;intros;unfold zr;exact bxO lb
 refine Qf ?_;intros;by_cases m:w=4;case pos=>refine Qf ?_;intros;unfold zr;exact bxO lb
 refine Qf ?_;intros;unfold zr;exact bxO lb
theorem ztL{op nn v w i}{l}(h:op=19):
  wpX Z9 0 zT (retK zj λc b x=>∃a,Frz b c a/\a=.bool (zr op nn v w l.length)) [(1,encP 5 [.int .i64 op,.int .u32 nn,.int .i64 v,.int .i64 w,encL 5 encX l]),(3,.int .i64 i),(8,.bool false)] [] 0:=by
 refine dcU zT.eq_1 ?_;have d:=hBig;refine Qf ?_;intros;by_cases e:nn=0<;>(refine Qf ?_;intros)
 case neg=>unfold zr;exact bxO lb
 by_cases g:v=0<;>(refine Qf ?_;intros)
 case neg=>unfold zr;exact bxO lb
 by_cases j:w=1;case pos=>refine Qf ?_;intros;unfold zr;exact bxO lb
 refine Qf ?_;intros;by_cases k:w=2;case pos=>refine Qf ?_;intros;unfold zr;exact bxO lb
 refine Qf ?_;intros;unfold zr;exact bxO lb
theorem zu7{op nn v w i}{l}(j:op≠1)(k:op≠2)(c:op≠16)(d:op≠17)(e:op≠18)(g:op≠19):
  wpX Z9 0 zT (retK zj λh b x=>∃a,Frz b h a/\a=.bool (zr op nn v w l.length)) [(1,encP 5 [.int .i64 op,.int .u32 nn,.int .i64 v,.int .i64 w,encL 5 encX l]),(3,.int .i64 i),(8,.bool false)] [] 0:=by
 refine dcU zT.eq_1 ?_;have m:=hBig;refine Qf ?_;intros;by_cases n:3<=op<;>(refine Qf ?_;intros)
 case neg=>unfold zr;exact bxO lb
 by_cases o:op<=15<;>(refine Qf ?_;intros)
 case neg=>unfold zr;exact bxO lb
 by_cases p:nn=0<;>(refine Qf ?_;intros)
 case neg=>unfold zr;exact bxO lb
 by_cases q:v=0<;>(refine Qf ?_;intros)
 case neg=>unfold zr;exact bxO lb
 by_cases s:w=0<;>(refine Qf ?_;intros)
 case neg=>unfold zr;exact bxO lb
 unfold zr;exact bxO lb
theorem zt8:∀(k:Nat)(e:Ex),zeQ e<=k->zo Z9 zfs [.agg (encX e)] (·=.bool (zj2 e)):=by
 intro k
 induction k with
 |zero=>intro e h;obtain⟨_,_,_,_,l⟩:=e;rw[zeQ]at h;omega
 |succ k s=>
 intro e q;obtain⟨op,t,v,w,l⟩:=e;refine fn_x ztG rfl ?_;refine dcU znl.eq_1 ?_;have u:=hBig;rw[zeQ]at q;rw[zij,zj2];generalize p:zf9 l=R;refine Gw1 @ua ?_;intros;refine zf (λi:Nat=>([(1,encP 5 [.int .i64 op,.int .u32 t,.int .i64 v,.int .i64 w,encL 5 encX l]),(3,.int .i64 i)],[])) 0 (λi=>i<=l.length/\zf9 (l.drop i)=R) (λi=>l.length-i) 0 ⟨Wc _,p⟩ (Xf rfl fin5) ?_;rintro i ⟨x,b⟩ wf;refine dcU zkj.eq_1 ?_;by_cases m:i<l.length
 .have y:=zjJ (Wd m);rw[Wk m,zf9]at b;refine Gw5 @ua @dT (gmp m) @zbl @zba ?_;intros;refine zd (ze (s l[i] (by omega)) (flX rfl)) ?_
  cases hd:zj2 l[i]with
  |false=>rw[hd,Bool.false_and]at b;subst b;refine Gw1 @zj.eq_1 ?_;intros;exact bzO
  |true=>rw[hd,Bool.true_and]at b;refine Gw0 ?_;intros;exact⟨i+1,⟨by omega,b⟩,by omega,Xf rfl fin5⟩
 .rw[Wm (by omega),zf9]at b;subst b;refine Gw3 @ua @dF @Bool.true_and ?_;intros;by_cases n:op=1
  .exact zuW n
  by_cases o:op=2
  .exact ztK o
  by_cases c:op=16
  .exact zuZ c
  by_cases d:op=17
  .exact zta d
  by_cases g:op=18
  .exact zte g
  by_cases j:op=19
  .exact ztL j
  exact zu7 n o c d g j
theorem zsB(e):zo Z9 zgJ [.agg (encX e)] (·=.int .i64 (zji e)):=by
 refine fn_x zsF rfl ?_;unfold zmE zji;conv in Z8 _ _=>reduce
 have b:=hBig;refine Gw3 @zbl @zn @zba ?_;intros;refine zd (ze (zwK (zeQ e) e 64 (Wf _) (by omega) (by omega)) (flX rfl)) ?_
 cases zul e 64 with
 |true=>refine Gw1 @zfW.eq_1 ?_;intros;exact izO
 |false=>
  refine Gw3 @zbl @zn @zba ?_;intros;refine zd (ze (zt8 (zeQ e) e (Wf _)) (flX rfl)) ?_
  cases zj2 e with
  |true=>refine Gw1 @zfW.eq_1 ?_;intros;exact izO
  |false=>refine Gw1 @zfW.eq_1 ?_;intros;exact izO
structure PredE(fv:AV)(l:List Ex)(p:Ex->Bool):Prop where
 ex:∃f caps,fv=.fn (.func f) caps/\zga Z9 f=true/\zI caps=true/\∀s∈l,zo Z9 f ([.agg (encX s)]++caps) (·=.bool (p s))
theorem zd6:∀{l:List AV},zI l=true->l.all AV.flat=true
 |[],_=>rfl
 |
  a::l,h=>by
  simp only[zI,Wx]at h;simp only[List.all_cons,Wx];refine⟨?_,zd6 h.2⟩;cases a<;>first|rfl|exact absurd h.1 (by simp[AV.flat0])
theorem zB7{fv}{l}{p}(h:PredE fv l p){s}(j:s∈l){H}{nx}{k}(g:k (.bool (p s)) H nx):znI Z9 fv [.agg (encX s)] H nx k:=by obtain⟨f,b,rfl,d,c,m⟩:=h.ex;rw[zh6];refine⟨d,zd (ze (m s j) ?_) g⟩;simp only[WE,Wo,List.all_cons,Wx];exact⟨by have:=flX (r:=[]) rfl (e:=s);simpa using this,zd6 c⟩
theorem zhB{fv}{l}{p}(h:PredE fv l p){H H2}{σ}{D}{t}:Vw H H2 σ D t fv fv:=by
 obtain⟨f,c,rfl,j,g,k⟩:=h.ex;refine .fn _ _ _ _ rfl λi a b d e=>?_
 rw[d]at e;cases e;exact zq (zbF g d)
def idxI(o:Option Nat):Int:=match o with|some i=>(i:Int)|none=> -1
theorem zon(l)(fv)(p)(n:PredE fv l p):zo Z9 zaF [encL 5 encX l,fv] (·=.int .i64 (idxI (l.findIdx? p))):=by
 refine fn_x zfi rfl ?_;refine dcU zcm.eq_1 ?_;have q:=hBig;refine Gw0 ?_;intros;refine zf (λi:Nat=>([(0,encL 5 encX l),(1,fv),(7,.int .i64 l.length),(8,.int .i64 i)],[])) 0 (λi=>i<=l.length/\∀j (h:j<l.length),j<i->p l[j]=false) (λi=>l.length-i) 0 ⟨Wc _,λj _ h=>by omega⟩ (Xf rfl fin5) ?_;intro i ⟨s,c⟩ wf;refine dcU zbL.eq_1 ?_;refine Gw0 ?_;intros;(refine zi (λh=>?_) (λh=>?_))<;>(try simp only[dcd]at h)
 .have b:i<l.length:=by omega
  refine Gw3 (gmp b) @zbl @zba ?_;intros;refine zB7 n (Wd b) ?_;refine Gw0 ?_;intros;(refine zi (λg=>?_) (λg=>?_))<;>(try simp only[dcd]at g)
  ·(refine Gw1 @za0.eq_1 ?_;intros);have e:l.findIdx? p=some i:=by rw[WF];exact⟨b,g,λj d=>by rw[c j (by omega) d];simp⟩
   rw[e];exact izO
  ·(refine Gw0 ?_;intros);refine⟨i+1,⟨by omega,λj d m=>?_⟩,by omega,Xf rfl fin5⟩;by_cases k:j=i
   .subst k;simpa using g
   .exact c j d (by omega)
 .unfold zbJ;refine Gw1 @za0.eq_1 ?_;intros;have e:l.findIdx? p=none:=by rw[WG];intro x o;obtain⟨j,d,rfl⟩:=List.mem_iff_getElem.1 o;exact c j d (by omega)
  rw[e];exact izO
theorem zKm{l:List Ex}{p:Ex->Bool}:decide (idxI (l.findIdx? p) >= 0)=l.any p:=by
 cases h:l.findIdx? p with
 |none=>have:=WG.1 h;rw[decide_eq_false (by simp[idxI])];symm;rw[List.any_eq_false];intro x d;rw[this x d];simp
 |some i=>obtain⟨b,c,_⟩:=WF.1 h;rw[decide_eq_true (by simp[idxI])];exact(zww b c).symm
theorem zai(l)(fv)(p)(b:PredE fv l p):zo Z9 zab [encL 5 encX l,fv] (·=.bool (l.any p)):=by refine fn_x zeI rfl ?_;refine dcU zbR.eq_1 ?_;refine Gw0 ?_;intros;refine zd (zaB (D:=noR) (zon l fv p b) (.cons (zV rfl) (.cons (zhB b) .nil)) (.inl rfl)) ?_;refine Gw1 @zbO.eq_1 ?_;intros;refine⟨_,.bool _ _,?_⟩;rw[<-zKm]
theorem ub:type_of% @encP.eq_1:=@encP.eq_1
theorem zwN:∀(k:Nat)(e:Ex)(m:Int),zeQ e<=k -> -1000<=m->m<=1000->zo Z9 zh9 [.agg (encX e),.int .i64 m] (·=.bool (!zul e m)):=by
 intro k
 induction k with
 |zero=>intro e m h;obtain⟨_,_,_,_,l⟩:=e;rw[zeQ]at h;omega
 |succ k o=>
 intro e m d g j;obtain⟨op,t,v,w,l⟩:=e;refine fn_x zxD rfl ?_;unfold zqz;have p:=hBig;rw[zeQ]at d;rw[zij,zul];by_cases b:m<1
 .rw[if_pos b];refine Gw4 @ua @dF @ub @zlW.eq_1 ?_;intros;exact bzO
 .rw[if_neg b,zv1];have c:PredE (.fn (.func zhG) [encP 1 [.int .i64 m]]) l (zul · (m-1)):=by refine⟨_,_,rfl,by kernel_rfl,rfl,λs n=>?_⟩;have q:=zjJ n;refine fn_x ztd rfl ?_;refine dcU znO.eq_1 ?_;refine Gw4 @zbl @zn @zba @ub ?_;intros;refine zd (ze (o s (m-1) (by omega) (by omega) (by omega)) (flX rfl)) ?_;refine Gw1 @znB.eq_1 ?_;intros;exact bzO
  refine Gw3 @ua @dT @ub ?_;intros;refine zd (zaB (D:=noR) (zai l _ _ c) (.cons (zV rfl) (.cons (zhB c) .nil)) (.inl rfl)) ?_;refine Gw1 @zlW.eq_1 ?_;intros;exact bzO
theorem Qe{p q:Prop}(k:q)(h:Im q p:=by(repeat first|simp(disch:=try exact dis1) only[evD,Nat.reduceBEq,Nat.reduceAdd,Nat.reduceLeDiff,dT,dF,fldP,zn,zp]|((with_reducible apply Im.i);intro _)|((with_reducible apply Im.a);omega));exact Im.r):p:=h k
theorem zx4{op b v w}{l}(h:op=1)(c:PredE (.fn (.func zaH) []) l (λx=> !zj2 x)):zo Z9 za4 [.agg [.int .i64 op,.int .u32 b,.int .i64 v,.int .i64 w,encL 5 encX l]] (·=.bool (zf9 l&&zr op b v w l.length)):=by
 refine fn_x zb4 rfl ?_;unfold zbv;have d:=hBig;refine Qe ?_;intros;by_cases e:v=0<;>(refine Qe ?_;intros)
 case neg=>exact bxO (by rw[show zr op b v w l.length=false from by unfold zr;exact dF (by omega),Wa])
 by_cases g:w=0<;>(refine Qe ?_;intros)
 case neg=>exact bxO (by rw[show zr op b v w l.length=false from by unfold zr;exact dF (by omega),Wa])
 by_cases j:l.length=0<;>(refine Qe ?_;intros)
 case neg=>exact bxO (by rw[show zr op b v w l.length=false from by unfold zr;exact dF (by omega),Wa])
 refine zd (zaB (D:=noR) (zai l _ _ c) (.cons (zV rfl) (.cons (zhB c) .nil)) (.inl rfl)) ?_;refine Qe ?_;intros;exact bxO (by rw[show zr op b v w l.length=true from by unfold zr;exact dT (by omega),Wh,ze2,Wi])
theorem zz6{op b v w}{l}(h:op=2)(c:PredE (.fn (.func zaH) []) l (λx=> !zj2 x)):zo Z9 za4 [.agg [.int .i64 op,.int .u32 b,.int .i64 v,.int .i64 w,encL 5 encX l]] (·=.bool (zf9 l&&zr op b v w l.length)):=by
 refine fn_x zb4 rfl ?_;unfold zbv;have d:=hBig;refine Qe ?_;intros;refine zd (ze (zkW v) rfl) ?_;unfold zwL;by_cases e:0<=v/\v<65536<;>(refine Qe ?_;intros)
 case neg=>exact bxO (by rw[show zr op b v w l.length=false from by unfold zr;exact dF (by omega),Wa])
 by_cases g:b=0<;>(refine Qe ?_;intros)
 case neg=>exact bxO (by rw[show zr op b v w l.length=false from by unfold zr;exact dF (by omega),Wa])
 by_cases j:w=0<;>(refine Qe ?_;intros)
 case neg=>exact bxO (by rw[show zr op b v w l.length=false from by unfold zr;exact dF (by omega),Wa])
 by_cases k:l.length=0<;>(refine Qe ?_;intros)
 case neg=>exact bxO (by rw[show zr op b v w l.length=false from by unfold zr;exact dF (by omega),Wa])
 refine zd (zaB (D:=noR) (zai l _ _ c) (.cons (zV rfl) (.cons (zhB c) .nil)) (.inl rfl)) ?_;refine Qe ?_;intros;exact bxO (by rw[show zr op b v w l.length=true from by unfold zr;exact dT (by omega),Wh,ze2,Wi])
theorem zzF{op b v w}{l}(h:3<=op)(d:op<=15)(c:PredE (.fn (.func zaH) []) l (λx=> !zj2 x)):zo Z9 za4 [.agg [.int .i64 op,.int .u32 b,.int .i64 v,.int .i64 w,encL 5 encX l]] (·=.bool (zf9 l&&zr op b v w l.length)):=by
 refine fn_x zb4 rfl ?_;unfold zbv;have e:=hBig;refine Qe ?_;intros;by_cases g:b=0<;>(refine Qe ?_;intros)
 case neg=>exact bxO (by rw[show zr op b v w l.length=false from by unfold zr;exact dF (by omega),Wa])
 by_cases j:v=0<;>(refine Qe ?_;intros)
 case neg=>exact bxO (by rw[show zr op b v w l.length=false from by unfold zr;exact dF (by omega),Wa])
 by_cases k:w=0<;>(refine Qe ?_;intros)
 case neg=>exact bxO (by rw[show zr op b v w l.length=false from by unfold zr;exact dF (by omega),Wa])
 by_cases m:l.length=2<;>(refine Qe ?_;intros)
 case neg=>exact bxO (by rw[show zr op b v w l.length=false from by unfold zr;exact dF (by omega),Wa])
 refine zd (zaB (D:=noR) (zai l _ _ c) (.cons (zV rfl) (.cons (zhB c) .nil)) (.inl rfl)) ?_;refine Qe ?_;intros;exact bxO (by rw[show zr op b v w l.length=true from by unfold zr;exact dT (by omega),Wh,ze2,Wi])
theorem zxH{op b v w}{l}(h:op=16)(c:PredE (.fn (.func zaH) []) l (λx=> !zj2 x)):zo Z9 za4 [.agg [.int .i64 op,.int .u32 b,.int .i64 v,.int .i64 w,encL 5 encX l]] (·=.bool (zf9 l&&zr op b v w l.length)):=by
 refine fn_x zb4 rfl ?_;unfold zbv;have d:=hBig;refine Qe ?_;intros;by_cases e:b=0<;>(refine Qe ?_;intros)
 case neg=>exact bxO (by rw[show zr op b v w l.length=false from by unfold zr;exact dF (by omega),Wa])
 by_cases g:v=0<;>(refine Qe ?_;intros)
 case neg=>exact bxO (by rw[show zr op b v w l.length=false from by unfold zr;exact dF (by omega),Wa])
 by_cases j:w=0<;>(refine Qe ?_;intros)
 case neg=>exact bxO (by rw[show zr op b v w l.length=false from by unfold zr;exact dF (by omega),Wa])
 by_cases k:l.length=1<;>(refine Qe ?_;intros)
 case neg=>exact bxO (by rw[show zr op b v w l.length=false from by unfold zr;exact dF (by omega),Wa])
 refine zd (zaB (D:=noR) (zai l _ _ c) (.cons (zV rfl) (.cons (zhB c) .nil)) (.inl rfl)) ?_;refine Qe ?_;intros;exact bxO (by rw[show zr op b v w l.length=true from by unfold zr;exact dT (by omega),Wh,ze2,Wi])
theorem zxW{op b v w}{l}(h:op=17)(c:PredE (.fn (.func zaH) []) l (λx=> !zj2 x)):zo Z9 za4 [.agg [.int .i64 op,.int .u32 b,.int .i64 v,.int .i64 w,encL 5 encX l]] (·=.bool (zf9 l&&zr op b v w l.length)):=by
 refine fn_x zb4 rfl ?_;unfold zbv;have d:=hBig;refine Qe ?_;intros;by_cases e:b=0<;>(refine Qe ?_;intros)
 case neg=>exact bxO (by rw[show zr op b v w l.length=false from by unfold zr;exact dF (by omega),Wa])
 by_cases g:v=0<;>(refine Qe ?_;intros)
 case neg=>exact bxO (by rw[show zr op b v w l.length=false from by unfold zr;exact dF (by omega),Wa])
 by_cases j:w=0<;>(refine Qe ?_;intros)
 case neg=>exact bxO (by rw[show zr op b v w l.length=false from by unfold zr;exact dF (by omega),Wa])
 by_cases k:l.length=1<;>(refine Qe ?_;intros)
 case neg=>exact bxO (by rw[show zr op b v w l.length=false from by unfold zr;exact dF (by omega),Wa])
 refine zd (zaB (D:=noR) (zai l _ _ c) (.cons (zV rfl) (.cons (zhB c) .nil)) (.inl rfl)) ?_;refine Qe ?_;intros;exact bxO (by rw[show zr op b v w l.length=true from by unfold zr;exact dT (by omega),Wh,ze2,Wi])
theorem zwV{op b v w}{l}(h:op=18)(c:PredE (.fn (.func zaH) []) l (λx=> !zj2 x)):zo Z9 za4 [.agg [.int .i64 op,.int .u32 b,.int .i64 v,.int .i64 w,encL 5 encX l]] (·=.bool (zf9 l&&zr op b v w l.length)):=by
 refine fn_x zb4 rfl ?_;unfold zbv;have d:=hBig;refine Qe ?_;intros;refine zd (ze (zsb w) rfl) ?_;unfold zxe;by_cases e:w=1\/w=2\/w=4<;>(refine Qe ?_;intros)
 case neg=>exact bxO (by rw[show zr op b v w l.length=false from by unfold zr;exact dF (by omega),Wa])
 by_cases g:b=0<;>(refine Qe ?_;intros)
 case neg=>exact bxO (by rw[show zr op b v w l.length=false from by unfold zr;exact dF (by omega),Wa])
 by_cases j:v=0<;>(refine Qe ?_;intros)
 case neg=>exact bxO (by rw[show zr op b v w l.length=false from by unfold zr;exact dF (by omega),Wa])
 by_cases k:l.length=1<;>(refine Qe ?_;intros)
 case neg=>exact bxO (by rw[show zr op b v w l.length=false from by unfold zr;exact dF (by omega),Wa])
 refine zd (zaB (D:=noR) (zai l _ _ c) (.cons (zV rfl) (.cons (zhB c) .nil)) (.inl rfl)) ?_;refine Qe ?_;intros;exact bxO (by rw[show zr op b v w l.length=true from by unfold zr;exact dT (by omega),Wh,ze2,Wi])
theorem zvr{op b v w}{l}(h:op=19)(e:w=1)(c:PredE (.fn (.func zaH) []) l (λx=> !zj2 x)):zo Z9 za4 [.agg [.int .i64 op,.int .u32 b,.int .i64 v,.int .i64 w,encL 5 encX l]] (·=.bool (zf9 l&&zr op b v w l.length)):=by
 refine fn_x zb4 rfl ?_;unfold zbv;have d:=hBig;refine Qe ?_;intros;by_cases g:b=0<;>(refine Qe ?_;intros)
 case neg=>exact bxO (by rw[show zr op b v w l.length=false from by unfold zr;exact dF (by omega),Wa])
 by_cases j:v=0<;>(refine Qe ?_;intros)
 case neg=>exact bxO (by rw[show zr op b v w l.length=false from by unfold zr;exact dF (by omega),Wa])
 by_cases k:l.length=1<;>(refine Qe ?_;intros)
 case neg=>exact bxO (by rw[show zr op b v w l.length=false from by unfold zr;exact dF (by omega),Wa])
 refine zd (zaB (D:=noR) (zai l _ _ c) (.cons (zV rfl) (.cons (zhB c) .nil)) (.inl rfl)) ?_;refine Qe ?_;intros;exact bxO (by rw[show zr op b v w l.length=true from by unfold zr;exact dT (by omega),Wh,ze2,Wi])
theorem zvf{op b v w}{l}(h:op=19)(e:w=2)(c:PredE (.fn (.func zaH) []) l (λx=> !zj2 x)):zo Z9 za4 [.agg [.int .i64 op,.int .u32 b,.int .i64 v,.int .i64 w,encL 5 encX l]] (·=.bool (zf9 l&&zr op b v w l.length)):=by
 refine fn_x zb4 rfl ?_;unfold zbv;have d:=hBig;refine Qe ?_;intros;by_cases g:b=0<;>(refine Qe ?_;intros)
 case neg=>exact bxO (by rw[show zr op b v w l.length=false from by unfold zr;exact dF (by omega),Wa])
 by_cases j:v=0<;>(refine Qe ?_;intros)
 case neg=>exact bxO (by rw[show zr op b v w l.length=false from by unfold zr;exact dF (by omega),Wa])
 by_cases k:l.length=1<;>(refine Qe ?_;intros)
 case neg=>exact bxO (by rw[show zr op b v w l.length=false from by unfold zr;exact dF (by omega),Wa])
 refine zd (zaB (D:=noR) (zai l _ _ c) (.cons (zV rfl) (.cons (zhB c) .nil)) (.inl rfl)) ?_;refine Qe ?_;intros;exact bxO (by rw[show zr op b v w l.length=true from by unfold zr;exact dT (by omega),Wh,ze2,Wi])
theorem zvj{op nn v w}{l}(h:op=19)(b:w≠1)(c:w≠2)(e:PredE (.fn (.func zaH) []) l (λx=> !zj2 x)):zo Z9 za4 [.agg [.int .i64 op,.int .u32 nn,.int .i64 v,.int .i64 w,encL 5 encX l]] (·=.bool (zf9 l&&zr op nn v w l.length)):=by refine fn_x zb4 rfl ?_;unfold zbv;have d:=hBig;refine Qe ?_;intros;exact bxO (by rw[show zr op nn v w l.length=false from by unfold zr;exact dF (by omega),Wa])
theorem zAu{op nn v w}{l}(b:op<1)(d:PredE (.fn (.func zaH) []) l (λx=> !zj2 x)):zo Z9 za4 [.agg [.int .i64 op,.int .u32 nn,.int .i64 v,.int .i64 w,encL 5 encX l]] (·=.bool (zf9 l&&zr op nn v w l.length)):=by refine fn_x zb4 rfl ?_;unfold zbv;have c:=hBig;refine Qe ?_;intros;exact bxO (by rw[show zr op nn v w l.length=false from by unfold zr;exact dF (by omega),Wa])
theorem zAv{op nn v w}{l}(b:19<op)(d:PredE (.fn (.func zaH) []) l (λx=> !zj2 x)):zo Z9 za4 [.agg [.int .i64 op,.int .u32 nn,.int .i64 v,.int .i64 w,encL 5 encX l]] (·=.bool (zf9 l&&zr op nn v w l.length)):=by refine fn_x zb4 rfl ?_;unfold zbv;have c:=hBig;refine Qe ?_;intros;exact bxO (by rw[show zr op nn v w l.length=false from by unfold zr;exact dF (by omega),Wa])
theorem zx0:∀(k:Nat)(e:Ex),zeQ e<=k->zo Z9 za4 [.agg (encX e)] (·=.bool (zj2 e)):=by
 intro k
 induction k with
 |zero=>intro e h;obtain⟨_,_,_,_,l⟩:=e;rw[zeQ]at h;omega
 |succ k z=>
 intro e u;obtain⟨op,C,v,w,l⟩:=e;rw[zeQ]at u;rw[zij,zj2];have b:PredE (.fn (.func zaH) []) l (λx=> !zj2 x):=by refine⟨_,_,rfl,by kernel_rfl,rfl,λs y=>?_⟩;have B:=zjJ y;refine fn_x zva rfl ?_;refine dcU zoX.eq_1 ?_;have A:=hBig;refine Gw4 @zbl @zn @zba @ub ?_;intros;refine zd (ze (z s (by omega)) (flX rfl)) ?_;refine Gw1 @zo5.eq_1 ?_;intros;exact bzO
 by_cases q:op=1
 .exact zx4 q b
 by_cases t:op=2
 .exact zz6 t b
 by_cases m:3<=op/\op<=15
 .exact zzF m.1 m.2 b
 by_cases d:op=16
 .exact zxH d b
 by_cases g:op=17
 .exact zxW g b
 by_cases j:op=18
 .exact zwV j b
 by_cases c:op=19
 .by_cases n:w=1
  .exact zvr c n b
  by_cases o:w=2
  .exact zvf c o b
  exact zvj c n o b
 by_cases p:op<1
 .exact zAu p b
 exact zAv (by omega) b
theorem zgQ(e):zo Z9 zfG [.agg (encX e)] (·=.int .i64 (zji e)):=by
 refine fn_x ztU rfl ?_;unfold znu zji;conv in Z8 _ _=>reduce
 have b:=hBig;refine Gw3 @zbl @zn @zba ?_;intros;refine zd (ze (zwN (zeQ e) e 64 (Wf _) (by omega) (by omega)) (flX rfl)) ?_
 cases zul e 64 with
 |true=>refine Gw1 @zgT.eq_1 ?_;intros;exact izO
 |false=>
  refine Gw3 @zbl @zn @zba ?_;intros;refine zd (ze (zx0 (zeQ e) e (Wf _)) (flX rfl)) ?_
  cases zj2 e with
  |true=>refine Gw1 @zgT.eq_1 ?_;intros;exact izO
  |false=>refine Gw1 @zgT.eq_1 ?_;intros;exact izO
end Go.Ab
