/-
  Part 17 of the proof: how the calls of this program run, over values instead of memory, and what each function computes.
-/
import Derived.Test.YtmlhipilbnjhiaaGreatPp
set_option maxRecDepth 100000
set_option linter.unusedVariables false
set_option linter.unusedSimpArgs false
set_option linter.unnecessarySimpa false
set_option linter.unusedSectionVars false
open Go.Ab.Ent renaming tab->Xa,keep->Xb
open Go.Proofs.Tryz renaming prog->Z9
open Bool renaming and_false→Wa,and_true→Wc,and_eq_true→Wh
open List renaming all_eq_not_any_not→Wd,length_nil→Wf,nil_append→Wg,length_append→Wi,length_cons→Wj,drop_of_length_le→Wk,getElem_mem→Wl,findIdx?_eq_some_iff_getElem→Wm,findIdx?_eq_none_iff→Wn
open Nat renaming zero_le→We
namespace Go.Ab
open Go.RowKit Go.Proofs
def fm(p:NdF->List Int)(l:List Nd):List Int:=l.flatMap λx=>p x.f
theorem zCo{p:NdF->List Int}{l:List Nd}{i:Nat}(h:i<l.length):fm p (l.drop i)=p l[i].f++fm p (l.drop (i+1)):=by rw[List.drop_eq_getElem_cons h,fm,List.flatMap_cons];rfl
theorem zuR(p)(n):fm p (allN n)=coll p n:=(zuI p n).symm
theorem zIb(p):fm p []=[]:=rfl
theorem zow(e:Nd)(o:zco e<=1000):zq Z9 zd5 [.agg (encN e)] (·=.int .i64 (coll zgg e).length):=by
 refine fn_x zoR rfl ?_;refine dcU zjd.eq_1 ?_;have z:=hBig;rw[<-zuR];have u:=zo2 zvZ e;rw[<-zuR]at u;refine Gw3 @zD @zt @zJ ?_;intros;refine ze (zh (zhj e o) (flN rfl)) ?_;have n:(allN e).length<=1000:=by rw[zoe];exact o
 generalize allN e=l at *;generalize A:(((fm zgg l).length:Nat):Int)=R;refine Gw0 ?_;intros;refine zd (λs:Nat×Nat=>([(3,.int .i64 s.2),(7,encL 5 encN l),(8,.int .i64 l.length),(9,.int .i64 s.1)],[])) 0 (λs=>s.1<=l.length/\((s.2+(fm zgg (l.drop s.1)).length:Nat):Int)=R) (λs=>l.length-s.1) (0,0) ⟨We _,by simp only[List.drop_zero];omega⟩ (Xb rfl fin5) ?_;rintro⟨i,x⟩ ⟨t,b⟩ wf;simp only at t b;refine dcU zg2.eq_1 ?_;by_cases h:i<l.length
 .rw[zCo h,Wi]at b;have g:=zi (f:=encN) (d:=[]) h;generalize v:l[i]=y at g b;obtain⟨⟨p,q,lb⟩,c,m⟩:=y;simp only[Nd.f]at b;have k:zgg ⟨p,q,lb⟩=if p=9 then[lb]else[]:=rfl
  rw[zbj]at g;simp only at g;refine Gw4 @dT g @ui @uh ?_;intros;have w:x<=1000:=by omega
  (refine zc (λj=>?_) (λj=>?_))<;>(try simp only[dcd]at j)
  .rw[if_pos j]at k;rw[k]at b;simp only[Wj,Wf]at b;refine Gw0 ?_;intros;exact⟨(i+1,x+1),⟨by simp only;omega,by simp only;omega⟩,by simp only;omega,(Xa [] [] rfl Qd Qd)⟩
  .rw[if_neg j]at k;rw[k]at b;simp only[Wf]at b;refine Gw0 ?_;intros;exact⟨(i+1,x),⟨by simp only;omega,by simp only;omega⟩,by simp only;omega,(Xa [] [] rfl Qd Qd)⟩
 .rw[Wk (by omega),zIb]at b;simp only[Wf,Nat.add_zero]at b;subst b;refine Gw1 @dF ?_;intros;unfold zg8;refine Gw1 @zjl.eq_1 ?_;intros;exact izO
theorem znC(e:Nd)(q:zco e<=1000):zq Z9 zdE [.agg (encN e)] (·=zb (coll labP e)):=by
 refine fn_x znp rfl ?_;refine dcU zit.eq_1 ?_;have A:=hBig;rw[<-zuR];have o:=zo2 zz2 e;rw[<-zuR]at o;refine Gw3 @zD @zt @zJ ?_;intros;refine ze (zh (zhj e q) (flN rfl)) ?_;have p:(allN e).length<=1000:=by rw[zoe];exact q
 generalize allN e=l at *;generalize v:fm labP l=R at o⊢;refine Gw0 ?_;intros;refine zd (λs:Nat×List Int=>([(3,.own 0 0 0 0 s.2.length),(7,encL 5 encN l),(8,.int .i64 l.length),(9,.int .i64 s.1)],[(0,.row 1 (s.2.map cI) 0)])) 1 (λs=>s.1<=l.length/\s.2++fm labP (l.drop s.1)=R) (λs=>l.length-s.1) (0,[]) ⟨We _,by simp only[List.drop_zero,Wg];exact v⟩ (Xa [(0,1,0)] [] rfl Qd Qd) ?_;rintro⟨i,x⟩ ⟨w,b⟩ wf;simp only at w b;refine dcU zf8.eq_1 ?_;by_cases h:i<l.length
 .rw[zCo h]at b;have g:=zi (f:=encN) (d:=[]) h;generalize z:l[i]=y at g b;obtain⟨⟨t,u,lb⟩,c,m⟩:=y;simp only[Nd.f]at b;have k:labP ⟨t,u,lb⟩=if t=10 then[lb]else[]:=rfl
  rw[zbj]at g;simp only at g;have n:=congrArg List.length b;simp only[Wi]at n;refine Gw4 @dT g @ui @uh ?_;intros;(refine zc (λj=>?_) (λj=>?_))<;>(try simp only[dcd]at j)
  .rw[if_pos j]at k;rw[k,<-List.append_assoc]at b;refine Gw0 ?_;intros;exact⟨(i+1,x++[lb]),⟨by simp only;omega,b⟩,by simp only;omega,(Xa [(0,0,1)] [] rfl (Gin2_6 @m9A @m9P @ui @uh @m9C @m9N) (Gin2_6 @m9A @m9P @ui @uh @m9C @m9N))⟩
  .rw[if_neg j]at k;rw[k,Wg]at b;refine Gw0 ?_;intros;exact⟨(i+1,x),⟨by simp only;omega,b⟩,by simp only;omega,(Xa [(0,0,0)] [] rfl Qd Qd)⟩
 .rw[Wk (by omega),zIb,List.append_nil]at b;subst b;refine Gw1 @dF ?_;intros;unfold zf7;refine Gw1 @zik.eq_1 ?_;intros;exact⟨_,zcd (l:=x) trivial rfl (by omega),rfl⟩
theorem renX{ρ:Nat->Nat}{l:List Ex}{g:Nat}:AObj.ren ρ (.row 5 (l.map encX) g)=.row 5 (l.map encX) g:=by simp only[AObj.ren];rw[zhJ (zI λ_=>zm)]
theorem zEJ(l:List Ex)(h:l.length<=100000):zG Z9 zA [encL 5 encX l] [] 0 (λv H nx=>v=.own 0 0 0 0 l.length/\H=[(0,.row 5 (l.map encX) 0)]/\nx=1):=by
 refine zaC (fn_x zfy rfl ?_);refine dcU zck.eq_1 ?_;have g:=hBig;have c:∀H,zcX 5 (encL 5 encX l) H=some (l.map encX):=λH=>zcN (λ_ _=>zdZ)
 refine Gw1 @zrB ?_;intros
 cases d:(l.length == 0)with
 |true=>
  have e:l=[]:=List.eq_nil_of_length_eq_zero (by simpa using d);subst e;refine Gw0 ?_;intros;rename_i b;cases b
  ·(refine Gw2 c @zal.eq_1 ?_;intros);exact⟨.own 0 0 0 0 0,[(0,.row 5 [] 0)],1,(Xa [(0,1,1)] [] rfl Qd Qd),rfl,rfl,rfl⟩
  ·(refine Gw1 @zal.eq_1 ?_;intros);exact⟨.own 0 0 0 0 0,[(0,.row 5 [] 0)],1,(Xa [(0,1,0)] [] rfl Qd Qd),rfl,rfl,rfl⟩
 |false=>refine Gw2 c @zal.eq_1 ?_;intros;exact⟨.own 0 0 0 0 l.length,[(0,.row 5 (l.map encX) 0)],1,(Xa [(0,1,1)] [] rfl Qd Qd),rfl,rfl,rfl⟩
theorem zgS:∀(k:Nat)(e:Ex),zhS e<=k->k<=100000->zq Z9 zaX [.agg (encX e)] (·=.agg (encX e)):=by
 intro k
 induction k with
 |zero=>intro e h;obtain⟨_,_,_,_,l⟩:=e;rw[zhS]at h;omega
 |succ k s=>
 intro e t u;obtain⟨op,p,v,w,l⟩:=e;refine fn_x zlN rfl ?_;refine dcU zg7.eq_1 ?_;have x:=hBig;rw[zhS]at t
 have o:l.length<=100000:=by
  have:∀l:List Ex,l.length<=zno l:=by
   intro l
   induction l with
   |nil=>rw[zno];simp
   |cons a l s=>
    rw[zno,Wj];have:1<=zhS a:=by obtain⟨_,_,_,_,m⟩:=a;rw[zhS];omega
    omega
  have:=this l;omega
 generalize q:encX (.mk op p v w l)=E;rw[zjz]at q;subst q;refine Gw0 ?_;intros;refine zb6 [] 0 _ (zEJ l o) rfl rfl Gin1_0 Gin1_0 ?_;rintro _ _ _ ⟨rfl,rfl,rfl⟩;refine Gw1 @renX ?_;intros;refine zd (λi:Nat=>([(1,.ptr 0 0 0 0 0),(2,.ptr 1 0 0 0 0),(10,.int .i64 l.length),(11,.int .i64 i)],[(0,.row 5 [[.int .i64 op,.int .u32 p,.int .i64 v,.int .i64 w,.own 2 0 0 0 l.length]] 0),(1,.row 5 [[.int .i64 0,.int .u32 0,.int .i64 0,.int .i64 0,.nilsl]] 0),(2,.row 5 (l.map encX) 0)])) 3 (λi=>i<=l.length) (λi=>l.length-i) 0 (We _) (Xa [(0,0,0),(1,1,0),(2,2,0)] [] rfl Qd Qd) ?_;intro i y wf;refine dcU zfg.eq_1 ?_;by_cases n:i<l.length
 .have z:=zl4 (Wl n);have g:(l.map encX).set i (encX l[i])=l.map encX:=by rw[<-List.getElem_map (f:=encX) (h:=by simpa using n)];exact List.set_getElem_self _
  refine Gw4 @dT (gmp n) @zdZ @zdh ?_;intros;refine zdn (zh (s l[i] (by omega) (by omega)) (flX rfl)) ?_;refine Gw3 (gmp n) @zdZ g ?_;intros;exact⟨i+1,by omega,by omega,(Xa [(0,0,0),(1,1,0),(2,2,0)] [] rfl Qd Qd)⟩
 ·(refine Gw1 @dF ?_;intros);refine dcU zeZ.eq_1 ?_;refine Gw1 @zgU.eq_1 ?_;intros;refine⟨.agg [.int .i64 op,.int .u32 p,.int .i64 v,.int .i64 w,encL 5 encX l],.agg _ _ _ rfl (λj a c b d=>?_),rfl⟩
  match j with
  |0=>cases b;cases d;exact .int _ _ _
  |1=>cases b;cases d;exact .int _ _ _
  |2=>cases b;cases d;exact .int _ _ _
  |3=>cases b;cases d;exact .int _ _ _
  |4=>cases b;cases d;exact zGi trivial rfl (by omega)
  |j+5=>cases b
def zN:List AV:=[.int .i64 0,.int .i64 0,.int .i64 0,.nilsl,.nilsl]
theorem zom{n}{c}(h:zu c=true):zr (List.replicate n c):=λd hd=>by rw[List.eq_of_mem_replicate hd];exact h
theorem flA{e}:(AV.agg (encN e)).flat=true:=by have:=flN (r:=[]) rfl (e:=e);simpa using this
theorem zqn:zq Z9 zQ [.nilsl] (·=.agg (encN (.mk seqF [] []))):=by
 refine fn_x zlf rfl ?_;refine dcU zhg.eq_1 ?_;have e:=hBig;refine Gw1 @zhc.eq_1 ?_;intros;refine⟨.agg (encN (.mk seqF [] [])),?_,rfl⟩;rw[zbj];refine .agg _ _ _ rfl (λj a c b d=>?_)
 match j with
 |0=>cases b;cases d;exact .int _ _ _
 |1=>cases b;cases d;exact .int _ _ _
 |2=>cases b;cases d;exact .int _ _ _
 |3=>cases b;cases d;exact zjj
 |4=>cases b;cases d;exact zjj
 |j+5=>cases b
mutual
theorem zqM:∀(e:Ex)(m n:Int),0<=zgZ e m n->(zhS e:Int)+zgZ e m n<=n
 |
  .mk op nn v w l,m,n,h=>by
  rw[zgZ]at h⊢;split at h
  .omega
  .rename_i b;rw[if_neg b];have:=zpZ l (m-1) (n-1) h;rw[zhS];omega
theorem zpZ:∀(l:List Ex)(m n:Int),0<=zda l m n->(zno l:Int)+zda l m n<=n
 |
  [],m,n,h=>by
  rw[zda,zno];omega
 |
  e::l,m,n,h=>by
  rw[zda]at h⊢;split at h
  .omega
  .rename_i c;rw[if_neg c];have g:=zpZ l m _ h;have b:0<=zgZ e m n:=by apply Classical.byContradiction;intro j;have:=zsb (l:=l) (m:=m) (n:=zgZ e m n) (by omega);omega
   have d:=zqM e m n b;rw[zno];omega
end
theorem zrp:∀{c:List Ex}{x:Ex},zjv c=true->x∈c->0<=zgZ x 70 200
 |[],x,_,b=>by simp at b
 |
  a::c,x,h,b=>by
  rw[zjv]at h;split at h
  .cases h
  .rename_i d;rcases List.mem_cons.1 b with rfl|b
   .omega
   .exact zrp h b
def zCc(v:Int):Bool:=decide (0<=v/\v<65536)
def zt9(w:Int):Bool:=decide (w=1\/w=2\/w=4)
theorem zjA(v):zq Z9 zfG [.int .i64 v] (·=.bool (zCc v)):=by
 refine fn_x zsx rfl ?_;unfold znb zCc;conv in Z8 _ _=>reduce
 by_cases b:0<=v
 ·(refine Gw2 @dT @zjy.eq_1 ?_;intros);exact⟨_,.bool _ _,congrArg _ (decide_eq_decide.2 (by omega))⟩
 ·(refine Gw2 @dF @zjy.eq_1 ?_;intros);exact bzO
theorem zpW(w):zq Z9 ziy [.int .i64 w] (·=.bool (zt9 w)):=by
 refine fn_x zwp rfl ?_;unfold zqa zt9;conv in Z8 _ _=>reduce
 by_cases b:w=1
 ·(refine Gw2 @dT @ziT.eq_1 ?_;intros);exact bzO
 by_cases c:w=2
 ·(refine Gw3 @dF @dT @ziT.eq_1 ?_;intros);exact bzO
 ·(refine Gw2 @dF @ziT.eq_1 ?_;intros);exact⟨_,.bool _ _,congrArg _ (decide_eq_decide.2 (by omega))⟩
mutual
def zxU:Ex->Int->Bool
 |.mk _ _ _ _ l,m=>if m<1 then true else zv3 l (m-1)
def zv3:List Ex->Int->Bool
 |[],_=>false
 |e::l,m=>zxU e m||zv3 l m
end
theorem zta:∀(l:List Ex)(m:Int),zv3 l m=l.any (zxU · m)
 |[],m=>by rw[zv3];rfl
 |e::l,m=>by rw[zv3,zta l m];rfl
def zy(op n v w:Int)(k:Nat):Bool:=decide ((op=1/\v=0/\w=0/\k=0)\/(op=2/\n=0/\w=0/\k=0/\0<=v/\v<65536)\/((op=16\/op=17)/\n=0/\v=0/\w=0/\k=1)\/(op=18/\n=0/\v=0/\(w=1\/w=2\/w=4)/\k=1)\/(op=19/\n=0/\v=0/\(w=1\/w=2)/\k=1)\/(3<=op/\op<=15/\n=0/\v=0/\w=0/\k=2))
mutual
def zlo:Ex->Bool
 |.mk op n v w l=>zhy l&&zy op n v w l.length
def zhy:List Ex->Bool
 |[]=>true
 |e::l=>zlo e&&zhy l
end
theorem zd2:∀(l:List Ex),zhy l=l.all zlo
 |[]=>by rw[zhy];rfl
 |e::l=>by rw[zhy,zd2 l];rfl
def zqS(e:Ex):Int:=if zxU e 64=true then 20 else if zlo e=true then 0 else 2
structure PredE(fv:AV)(l:List Ex)(p:Ex->Bool):Prop where
 ex:∃f caps,fv=.fn (.func f) caps/\ze7 Z9 f=true/\zu caps=true/\∀s∈l,zq Z9 f ([.agg (encX s)]++caps) (·=.bool (p s))
theorem zdU:∀{l:List AV},zu l=true->l.all AV.flat=true
 |[],_=>rfl
 |
  a::l,h=>by
  simp only[zu,Wh]at h;simp only[List.all_cons,Wh];refine⟨?_,zdU h.2⟩;cases a<;>first|rfl|exact absurd h.1 (by simp[AV.flat0])
theorem zyu{fv}{l}{p}(h:PredE fv l p){s}(j:s∈l){H}{nx}{k}(g:k (.bool (p s)) H nx):znj Z9 fv [.agg (encX s)] H nx k:=by obtain⟨f,b,rfl,d,c,m⟩:=h.ex;rw[zix];refine⟨d,ze (zh (m s j) ?_) g⟩;simp only[List.cons_append,Wg,List.all_cons,Wh];exact⟨by have:=flX (r:=[]) rfl (e:=s);simpa using this,zdU c⟩
theorem zgA{fv}{l}{p}(h:PredE fv l p){H H2}{σ}{D}{t}:Vw H H2 σ D t fv fv:=by
 obtain⟨f,c,rfl,j,g,k⟩:=h.ex;refine .fn _ _ _ _ rfl λi a b d e=>?_
 rw[d]at e;cases e;exact zk (zbz g d)
def idxI(o:Option Nat):Int:=match o with|some i=>(i:Int)|none=> -1
theorem zmI(l)(fv)(p)(n:PredE fv l p):zq Z9 zab [encL 5 encX l,fv] (·=.int .i64 (idxI (l.findIdx? p))):=by
 refine fn_x zeo rfl ?_;refine dcU zbE.eq_1 ?_;have q:=hBig;refine Gw0 ?_;intros;refine zd (λi:Nat=>([(0,encL 5 encX l),(1,fv),(7,.int .i64 l.length),(8,.int .i64 i)],[])) 0 (λi=>i<=l.length/\∀j (h:j<l.length),j<i->p l[j]=false) (λi=>l.length-i) 0 ⟨We _,λj _ h=>by omega⟩ (Xb rfl fin5) ?_;intro i ⟨s,c⟩ wf;refine dcU zbc.eq_1 ?_;refine Gw0 ?_;intros;(refine zc (λh=>?_) (λh=>?_))<;>(try simp only[dcd]at h)
 .have b:i<l.length:=by omega
  refine Gw3 (gmp b) @zdZ @zdh ?_;intros;refine zyu n (Wl b) ?_;refine Gw0 ?_;intros;(refine zc (λg=>?_) (λg=>?_))<;>(try simp only[dcd]at g)
  ·(refine Gw1 @zax.eq_1 ?_;intros);have e:l.findIdx? p=some i:=by rw[Wm];exact⟨b,g,λj d=>by rw[c j (by omega) d];simp⟩
   rw[e];exact izO
  ·(refine Gw0 ?_;intros);refine⟨i+1,⟨by omega,λj d m=>?_⟩,by omega,Xb rfl fin5⟩;by_cases k:j=i
   .subst k;simpa using g
   .exact c j d (by omega)
 .unfold zba;refine Gw1 @zax.eq_1 ?_;intros;have e:l.findIdx? p=none:=by rw[Wn];intro x o;obtain⟨j,d,rfl⟩:=List.mem_iff_getElem.1 o;exact c j d (by omega)
  rw[e];exact izO
theorem zGz{l:List Ex}{p:Ex->Bool}:decide (idxI (l.findIdx? p) >= 0)=l.any p:=by
 cases h:l.findIdx? p with
 |none=>have:=Wn.1 h;rw[decide_eq_false (by simp[idxI])];symm;rw[List.any_eq_false];intro x d;rw[this x d];simp
 |some i=>obtain⟨b,c,_⟩:=Wm.1 h;rw[decide_eq_true (by simp[idxI])];exact(zwL b c).symm
theorem zL(l)(fv)(p)(b:PredE fv l p):zq Z9 zF [encL 5 encX l,fv] (·=.bool (l.any p)):=by refine fn_x zdJ rfl ?_;refine dcU zbg.eq_1 ?_;refine Gw0 ?_;intros;refine ze (zaQ (D:=noR) (zmI l fv p b) (.cons (zac rfl) (.cons (zgA b) .nil)) (.inl rfl)) ?_;refine Gw1 @zbd.eq_1 ?_;intros;refine⟨_,.bool _ _,?_⟩;rw[<-zGz]
theorem ua:type_of% @encP.eq_1:=@encP.eq_1
theorem ztL:∀(k:Nat)(e:Ex)(m:Int),zhS e<=k -> -1000<=m->m<=1000->zq Z9 zg6 [.agg (encX e),.int .i64 m] (·=.bool (!zxU e m)):=by
 intro k
 induction k with
 |zero=>intro e m h;obtain⟨_,_,_,_,l⟩:=e;rw[zhS]at h;omega
 |succ k o=>
 intro e m d g j;obtain⟨op,t,v,w,l⟩:=e;refine fn_x zuy rfl ?_;unfold zoC;have p:=hBig;rw[zhS]at d;rw[zjz,zxU];by_cases b:m<1
 .rw[if_pos b];refine Gw4 @uf @dF @ua @zkv.eq_1 ?_;intros;exact bzO
 .rw[if_neg b,zta];have c:PredE (.fn (.func zgG) [encP 1 [.int .i64 m]]) l (zxU · (m-1)):=by refine⟨_,_,rfl,by kernel_rfl,rfl,λs n=>?_⟩;have q:=zl4 n;refine fn_x zqL rfl ?_;refine dcU zmg.eq_1 ?_;refine Gw4 @zdZ @zm @zdh @ua ?_;intros;refine ze (zh (o s (m-1) (by omega) (by omega) (by omega)) (flX rfl)) ?_;refine Gw1 @zl1.eq_1 ?_;intros;exact bzO
  refine Gw3 @uf @dT @ua ?_;intros;refine ze (zaQ (D:=noR) (zL l _ _ c) (.cons (zac rfl) (.cons (zgA c) .nil)) (.inl rfl)) ?_;refine Gw1 @zkv.eq_1 ?_;intros;exact bzO
theorem Qb{p q:Prop}(k:q)(h:Im q p:=by(repeat first|simp(disch:=try exact dis1) only[evD,Nat.reduceBEq,Nat.reduceAdd,Nat.reduceLeDiff,dT,dF,fldP,zm,zl]|((with_reducible apply Im.i);intro _)|((with_reducible apply Im.a);omega));exact Im.r):p:=h k
theorem zuX{op b v w}{l}(h:op=1)(c:PredE (.fn (.func zaf) []) l (λx=> !zlo x)):zq Z9 zaz [.agg [.int .i64 op,.int .u32 b,.int .i64 v,.int .i64 w,encL 5 encX l]] (·=.bool (zhy l&&zy op b v w l.length)):=by
 refine fn_x zbp rfl ?_;unfold zaZ;have d:=hBig;refine Qb ?_;intros;by_cases e:v=0<;>(refine Qb ?_;intros)
 case neg=>exact bxO (by rw[show zy op b v w l.length=false from by unfold zy;exact dF (by omega),Wa])
 by_cases g:w=0<;>(refine Qb ?_;intros)
 case neg=>exact bxO (by rw[show zy op b v w l.length=false from by unfold zy;exact dF (by omega),Wa])
 by_cases j:l.length=0<;>(refine Qb ?_;intros)
 case neg=>exact bxO (by rw[show zy op b v w l.length=false from by unfold zy;exact dF (by omega),Wa])
 refine ze (zaQ (D:=noR) (zL l _ _ c) (.cons (zac rfl) (.cons (zgA c) .nil)) (.inl rfl)) ?_;refine Qb ?_;intros;exact bxO (by rw[show zy op b v w l.length=true from by unfold zy;exact dT (by omega),Wc,zd2,Wd])
theorem zwD{op b v w}{l}(h:op=2)(c:PredE (.fn (.func zaf) []) l (λx=> !zlo x)):zq Z9 zaz [.agg [.int .i64 op,.int .u32 b,.int .i64 v,.int .i64 w,encL 5 encX l]] (·=.bool (zhy l&&zy op b v w l.length)):=by
 refine fn_x zbp rfl ?_;unfold zaZ;have d:=hBig;refine Qb ?_;intros;refine ze (zh (zjA v) rfl) ?_;unfold zCc;by_cases e:0<=v/\v<65536<;>(refine Qb ?_;intros)
 case neg=>exact bxO (by rw[show zy op b v w l.length=false from by unfold zy;exact dF (by omega),Wa])
 by_cases g:b=0<;>(refine Qb ?_;intros)
 case neg=>exact bxO (by rw[show zy op b v w l.length=false from by unfold zy;exact dF (by omega),Wa])
 by_cases j:w=0<;>(refine Qb ?_;intros)
 case neg=>exact bxO (by rw[show zy op b v w l.length=false from by unfold zy;exact dF (by omega),Wa])
 by_cases k:l.length=0<;>(refine Qb ?_;intros)
 case neg=>exact bxO (by rw[show zy op b v w l.length=false from by unfold zy;exact dF (by omega),Wa])
 refine ze (zaQ (D:=noR) (zL l _ _ c) (.cons (zac rfl) (.cons (zgA c) .nil)) (.inl rfl)) ?_;refine Qb ?_;intros;exact bxO (by rw[show zy op b v w l.length=true from by unfold zy;exact dT (by omega),Wc,zd2,Wd])
theorem zwi{op b v w}{l}(h:3<=op)(d:op<=15)(c:PredE (.fn (.func zaf) []) l (λx=> !zlo x)):zq Z9 zaz [.agg [.int .i64 op,.int .u32 b,.int .i64 v,.int .i64 w,encL 5 encX l]] (·=.bool (zhy l&&zy op b v w l.length)):=by
 refine fn_x zbp rfl ?_;unfold zaZ;have e:=hBig;refine Qb ?_;intros;by_cases g:b=0<;>(refine Qb ?_;intros)
 case neg=>exact bxO (by rw[show zy op b v w l.length=false from by unfold zy;exact dF (by omega),Wa])
 by_cases j:v=0<;>(refine Qb ?_;intros)
 case neg=>exact bxO (by rw[show zy op b v w l.length=false from by unfold zy;exact dF (by omega),Wa])
 by_cases k:w=0<;>(refine Qb ?_;intros)
 case neg=>exact bxO (by rw[show zy op b v w l.length=false from by unfold zy;exact dF (by omega),Wa])
 by_cases m:l.length=2<;>(refine Qb ?_;intros)
 case neg=>exact bxO (by rw[show zy op b v w l.length=false from by unfold zy;exact dF (by omega),Wa])
 refine ze (zaQ (D:=noR) (zL l _ _ c) (.cons (zac rfl) (.cons (zgA c) .nil)) (.inl rfl)) ?_;refine Qb ?_;intros;exact bxO (by rw[show zy op b v w l.length=true from by unfold zy;exact dT (by omega),Wc,zd2,Wd])
theorem zuE{op b v w}{l}(h:op=16)(c:PredE (.fn (.func zaf) []) l (λx=> !zlo x)):zq Z9 zaz [.agg [.int .i64 op,.int .u32 b,.int .i64 v,.int .i64 w,encL 5 encX l]] (·=.bool (zhy l&&zy op b v w l.length)):=by
 refine fn_x zbp rfl ?_;unfold zaZ;have d:=hBig;refine Qb ?_;intros;by_cases e:b=0<;>(refine Qb ?_;intros)
 case neg=>exact bxO (by rw[show zy op b v w l.length=false from by unfold zy;exact dF (by omega),Wa])
 by_cases g:v=0<;>(refine Qb ?_;intros)
 case neg=>exact bxO (by rw[show zy op b v w l.length=false from by unfold zy;exact dF (by omega),Wa])
 by_cases j:w=0<;>(refine Qb ?_;intros)
 case neg=>exact bxO (by rw[show zy op b v w l.length=false from by unfold zy;exact dF (by omega),Wa])
 by_cases k:l.length=1<;>(refine Qb ?_;intros)
 case neg=>exact bxO (by rw[show zy op b v w l.length=false from by unfold zy;exact dF (by omega),Wa])
 refine ze (zaQ (D:=noR) (zL l _ _ c) (.cons (zac rfl) (.cons (zgA c) .nil)) (.inl rfl)) ?_;refine Qb ?_;intros;exact bxO (by rw[show zy op b v w l.length=true from by unfold zy;exact dT (by omega),Wc,zd2,Wd])
theorem zuP{op b v w}{l}(h:op=17)(c:PredE (.fn (.func zaf) []) l (λx=> !zlo x)):zq Z9 zaz [.agg [.int .i64 op,.int .u32 b,.int .i64 v,.int .i64 w,encL 5 encX l]] (·=.bool (zhy l&&zy op b v w l.length)):=by
 refine fn_x zbp rfl ?_;unfold zaZ;have d:=hBig;refine Qb ?_;intros;by_cases e:b=0<;>(refine Qb ?_;intros)
 case neg=>exact bxO (by rw[show zy op b v w l.length=false from by unfold zy;exact dF (by omega),Wa])
 by_cases g:v=0<;>(refine Qb ?_;intros)
 case neg=>exact bxO (by rw[show zy op b v w l.length=false from by unfold zy;exact dF (by omega),Wa])
 by_cases j:w=0<;>(refine Qb ?_;intros)
 case neg=>exact bxO (by rw[show zy op b v w l.length=false from by unfold zy;exact dF (by omega),Wa])
 by_cases k:l.length=1<;>(refine Qb ?_;intros)
 case neg=>exact bxO (by rw[show zy op b v w l.length=false from by unfold zy;exact dF (by omega),Wa])
 refine ze (zaQ (D:=noR) (zL l _ _ c) (.cons (zac rfl) (.cons (zgA c) .nil)) (.inl rfl)) ?_;refine Qb ?_;intros;exact bxO (by rw[show zy op b v w l.length=true from by unfold zy;exact dT (by omega),Wc,zd2,Wd])
theorem ztT{op b v w}{l}(h:op=18)(c:PredE (.fn (.func zaf) []) l (λx=> !zlo x)):zq Z9 zaz [.agg [.int .i64 op,.int .u32 b,.int .i64 v,.int .i64 w,encL 5 encX l]] (·=.bool (zhy l&&zy op b v w l.length)):=by
 refine fn_x zbp rfl ?_;unfold zaZ;have d:=hBig;refine Qb ?_;intros;refine ze (zh (zpW w) rfl) ?_;unfold zt9;by_cases e:w=1\/w=2\/w=4<;>(refine Qb ?_;intros)
 case neg=>exact bxO (by rw[show zy op b v w l.length=false from by unfold zy;exact dF (by omega),Wa])
 by_cases g:b=0<;>(refine Qb ?_;intros)
 case neg=>exact bxO (by rw[show zy op b v w l.length=false from by unfold zy;exact dF (by omega),Wa])
 by_cases j:v=0<;>(refine Qb ?_;intros)
 case neg=>exact bxO (by rw[show zy op b v w l.length=false from by unfold zy;exact dF (by omega),Wa])
 by_cases k:l.length=1<;>(refine Qb ?_;intros)
 case neg=>exact bxO (by rw[show zy op b v w l.length=false from by unfold zy;exact dF (by omega),Wa])
 refine ze (zaQ (D:=noR) (zL l _ _ c) (.cons (zac rfl) (.cons (zgA c) .nil)) (.inl rfl)) ?_;refine Qb ?_;intros;exact bxO (by rw[show zy op b v w l.length=true from by unfold zy;exact dT (by omega),Wc,zd2,Wd])
theorem zsD{op b v w}{l}(h:op=19)(e:w=1)(c:PredE (.fn (.func zaf) []) l (λx=> !zlo x)):zq Z9 zaz [.agg [.int .i64 op,.int .u32 b,.int .i64 v,.int .i64 w,encL 5 encX l]] (·=.bool (zhy l&&zy op b v w l.length)):=by
 refine fn_x zbp rfl ?_;unfold zaZ;have d:=hBig;refine Qb ?_;intros;by_cases g:b=0<;>(refine Qb ?_;intros)
 case neg=>exact bxO (by rw[show zy op b v w l.length=false from by unfold zy;exact dF (by omega),Wa])
 by_cases j:v=0<;>(refine Qb ?_;intros)
 case neg=>exact bxO (by rw[show zy op b v w l.length=false from by unfold zy;exact dF (by omega),Wa])
 by_cases k:l.length=1<;>(refine Qb ?_;intros)
 case neg=>exact bxO (by rw[show zy op b v w l.length=false from by unfold zy;exact dF (by omega),Wa])
 refine ze (zaQ (D:=noR) (zL l _ _ c) (.cons (zac rfl) (.cons (zgA c) .nil)) (.inl rfl)) ?_;refine Qb ?_;intros;exact bxO (by rw[show zy op b v w l.length=true from by unfold zy;exact dT (by omega),Wc,zd2,Wd])
theorem zsr{op b v w}{l}(h:op=19)(e:w=2)(c:PredE (.fn (.func zaf) []) l (λx=> !zlo x)):zq Z9 zaz [.agg [.int .i64 op,.int .u32 b,.int .i64 v,.int .i64 w,encL 5 encX l]] (·=.bool (zhy l&&zy op b v w l.length)):=by
 refine fn_x zbp rfl ?_;unfold zaZ;have d:=hBig;refine Qb ?_;intros;by_cases g:b=0<;>(refine Qb ?_;intros)
 case neg=>exact bxO (by rw[show zy op b v w l.length=false from by unfold zy;exact dF (by omega),Wa])
 by_cases j:v=0<;>(refine Qb ?_;intros)
 case neg=>exact bxO (by rw[show zy op b v w l.length=false from by unfold zy;exact dF (by omega),Wa])
 by_cases k:l.length=1<;>(refine Qb ?_;intros)
 case neg=>exact bxO (by rw[show zy op b v w l.length=false from by unfold zy;exact dF (by omega),Wa])
 refine ze (zaQ (D:=noR) (zL l _ _ c) (.cons (zac rfl) (.cons (zgA c) .nil)) (.inl rfl)) ?_;refine Qb ?_;intros;exact bxO (by rw[show zy op b v w l.length=true from by unfold zy;exact dT (by omega),Wc,zd2,Wd])
theorem zsv{op nn v w}{l}(h:op=19)(b:w≠1)(c:w≠2)(e:PredE (.fn (.func zaf) []) l (λx=> !zlo x)):zq Z9 zaz [.agg [.int .i64 op,.int .u32 nn,.int .i64 v,.int .i64 w,encL 5 encX l]] (·=.bool (zhy l&&zy op nn v w l.length)):=by refine fn_x zbp rfl ?_;unfold zaZ;have d:=hBig;refine Qb ?_;intros;exact bxO (by rw[show zy op nn v w l.length=false from by unfold zy;exact dF (by omega),Wa])
theorem zw2{op nn v w}{l}(b:op<1)(d:PredE (.fn (.func zaf) []) l (λx=> !zlo x)):zq Z9 zaz [.agg [.int .i64 op,.int .u32 nn,.int .i64 v,.int .i64 w,encL 5 encX l]] (·=.bool (zhy l&&zy op nn v w l.length)):=by refine fn_x zbp rfl ?_;unfold zaZ;have c:=hBig;refine Qb ?_;intros;exact bxO (by rw[show zy op nn v w l.length=false from by unfold zy;exact dF (by omega),Wa])
theorem zw3{op nn v w}{l}(b:19<op)(d:PredE (.fn (.func zaf) []) l (λx=> !zlo x)):zq Z9 zaz [.agg [.int .i64 op,.int .u32 nn,.int .i64 v,.int .i64 w,encL 5 encX l]] (·=.bool (zhy l&&zy op nn v w l.length)):=by refine fn_x zbp rfl ?_;unfold zaZ;have c:=hBig;refine Qb ?_;intros;exact bxO (by rw[show zy op nn v w l.length=false from by unfold zy;exact dF (by omega),Wa])
theorem zuT:∀(k:Nat)(e:Ex),zhS e<=k->zq Z9 zaz [.agg (encX e)] (·=.bool (zlo e)):=by
 intro k
 induction k with
 |zero=>intro e h;obtain⟨_,_,_,_,l⟩:=e;rw[zhS]at h;omega
 |succ k z=>
 intro e u;obtain⟨op,C,v,w,l⟩:=e;rw[zhS]at u;rw[zjz,zlo];have b:PredE (.fn (.func zaf) []) l (λx=> !zlo x):=by refine⟨_,_,rfl,by kernel_rfl,rfl,λs y=>?_⟩;have B:=zl4 y;refine fn_x zsn rfl ?_;refine dcU zna.eq_1 ?_;have A:=hBig;refine Gw4 @zdZ @zm @zdh @ua ?_;intros;refine ze (zh (z s (by omega)) (flX rfl)) ?_;refine Gw1 @znk.eq_1 ?_;intros;exact bzO
 by_cases q:op=1
 .exact zuX q b
 by_cases t:op=2
 .exact zwD t b
 by_cases m:3<=op/\op<=15
 .exact zwi m.1 m.2 b
 by_cases d:op=16
 .exact zuE d b
 by_cases g:op=17
 .exact zuP g b
 by_cases j:op=18
 .exact ztT j b
 by_cases c:op=19
 .by_cases n:w=1
  .exact zsD c n b
  by_cases o:w=2
  .exact zsr c o b
  exact zsv c n o b
 by_cases p:op<1
 .exact zw2 p b
 exact zw3 (by omega) b
theorem zrD(e):zq Z9 zgC [.agg (encX e)] (·=.int .i64 (zqS e)):=by
 refine fn_x zrd rfl ?_;unfold zlU zqS;conv in Z8 _ _=>reduce
 have b:=hBig;refine Gw3 @zdZ @zm @zdh ?_;intros;refine ze (zh (ztL (zhS e) e 64 (Nat.le_refl _) (by omega) (by omega)) (flX rfl)) ?_
 cases zxU e 64 with
 |true=>refine Gw1 @zfP.eq_1 ?_;intros;exact izO
 |false=>
  refine Gw3 @zdZ @zm @zdh ?_;intros;refine ze (zh (zuT (zhS e) e (Nat.le_refl _)) (flX rfl)) ?_
  cases zlo e with
  |true=>refine Gw1 @zfP.eq_1 ?_;intros;exact izO
  |false=>refine Gw1 @zfP.eq_1 ?_;intros;exact izO
end Go.Ab
