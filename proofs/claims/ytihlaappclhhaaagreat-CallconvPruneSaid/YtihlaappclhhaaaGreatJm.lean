/-
  Part 13 of the proof: how the calls of this program run, over values instead of memory, and what each function computes.
-/
import Derived.Test.YtihlaappclhhaaaGreatJl
set_option maxRecDepth 100000
set_option linter.unusedVariables false
set_option linter.unusedSimpArgs false
set_option linter.unnecessarySimpa false
set_option linter.unusedSectionVars false
open Go.Ab.Ent renaming tab->Xa,keep->Xf,tabB->Xl
open Go.Ab.St renaming cells->Xb
open Nat renaming reduceBEq->Xc,reduceAdd->Xd,reduceLeDiff->Xe,reduceSub->Xi,reduceLT->Xj,add_assoc->Xm
open Go.Ab.Bl renaming cells->Xg
open Go.DataW renaming trod->Xh,Trod->Xn
open Go.Ab.AObj renaming ren->Xk
open Go.Proofs.Tryz renaming prog->Z9
open List renaming getElem_mem→Wa,getD→Wc,length_nil→We,length_cons→Wf,take_zero→Wg,length_append→Wh,getElem?_eq_getElem→Wi,replicate→Wj,drop_eq_getElem_cons→Wk,length_singleton→Wn,take_add_one→Wo,take_length→Wp,range→Ws,drop_of_length_le→Wt,take_of_length_le→Wu,map_map→Ww,length_map→Wx,map_cons→Wy,length_take→WA,append_assoc→WB,append_nil→WC,take_append_drop→WD,mem_iff_getElem→WF,map_nil→WG,mem_cons→WI,length_set→WJ,replicate_succ→WK,cons_append→WM,mem_singleton→WN,map_congr_left→WO,filter_append→WP,flatMap_append→WQ,flatMap_cons→WR,findIdx?_eq_some_iff_getElem→WS,set_getElem_self→WV,eq_of_mem_replicate→WW,not_mem_nil→WX,mem_or_eq_of_mem_set→WY
open Nat renaming zero_le→Wd,le_trans→Wl,le_refl→Wv,lt_or_ge→WE
open Bool renaming false_or→Wm,true_or→Wq,true_and→Wr,false_and→Wz,and_eq_true→WL
open Option renaming map_some→WH
open Int renaming toNat_natCast→WU
namespace Go.Ab
open Go.RowKit Go.Proofs
mutual
theorem zoS:∀e:Ex,(zga e).length<=zbn e
 |
  .mk op _ v _ l=>by
  have h:=zye (if op=2 then[v]else[]) l;rw[zga,zbn];have:(if op=2 then[v]else([]:List Int)).length<=1:=by split<;>simp
  omega
theorem zye:∀(a:List Int)(l:List Ex),(zlb a l).length<=a.length+zZ l
 |a,[]=>by rw[zlb,zZ];simp
 |
  a,x::l=>by
  have c:=zye (ze5 a (zga x)) l;have d:=zp5 (a:=a) (b:=zga x);have e:=zoS x;rw[zlb,zZ];omega
end
theorem zry{l:List Ex}{i:Nat}(h:i<l.length):zZ (l.drop i)=zbn l[i]+zZ (l.drop (i+1)):=by rw[Wk h,zZ]
theorem zC8:∀(k:Nat)(e:Ex),zbn e<=k->k<=100000->zw Z9 zp2 [.agg (encX e)] (·=za (zga e)):=by
 intro k
 induction k with
 |zero=>intro e h;obtain⟨_,_,_,_,l⟩:=e;rw[zbn]at h;omega
 |succ k U=>
 intro e Q S;obtain⟨op,L,v,w,l⟩:=e;refine fn_x zCZ rfl ?_;refine dcU zwm.eq_1 ?_;have X:=hBig;rw[zbn]at Q;rw[zdh,zga];generalize D:zlb (if op=2 then[v]else[]) l=R
 have c:∀(K:Kn)(H:AH)(M:Nat),Ent 0 K H M [(1,encP 5 [.int .i64 op,.int .u32 L,.int .i64 v,.int .i64 w,encL 5 encX l]),(3,za (if op=2 then[v]else[])),(4,.int .i64 0)] [] 0 ->
   znL Z9 0 zmq (zdB 0 (seqQ Z9 0 zma (retK zro λV O x=>∃a,Frz O V a/\a=za R))) K H M:=by
  intro K H M t
  refine zc (λs:Nat×List Int=>([(1,encP 5 [.int .i64 op,.int .u32 L,.int .i64 v,.int .i64 w,encL 5 encX l]),(3,za s.2),(4,.int .i64 s.1)],[])) 0
   (λs=>s.1<=l.length/\zlb s.2 (l.drop s.1)=R/\s.2.length+zZ (l.drop s.1)<=100001) (λs=>l.length-s.1) (0,if op=2 then[v]else[]) ⟨Wd _,D,?_⟩ t ?_
  .have:(if op=2 then[v]else([]:List Int)).length<=1:=by split<;>simp
   simp only[List.drop_zero];omega
  rintro⟨i,x⟩ ⟨P,g,I⟩ wf;simp only at P g I;refine dcU zmq.eq_1 ?_;by_cases o:i<l.length;case neg=>rw[Wt (by omega),zlb]at g;subst g;refine Qi ?_;intros;unfold zma;refine Gw1 @zro.eq_1 ?_;intros;exact⟨_,zM rfl,rfl⟩
  have Z:=zd7 (Wa o);have T:=zry o;rw[Wk o,zlb]at g;have J:=zoS l[i];refine Gw5 @ub @dT (gmp o) @zam @zab ?_;intros;refine zg (ze (U l[i] (by omega) (by omega)) (flX rfl)) ?_;generalize zga l[i]=u at g J⊢;refine Gw0 ?_;intros;have B:ze5 x []=x:=rfl;refine zc (λj:Nat=>([(1,encP 5 [.int .i64 op,.int .u32 L,.int .i64 v,.int .i64 w,encL 5 encX l]),(3,za (ze5 x (u.take j))),(4,.int .i64 i),(5,za u),(6,.int .i64 j)],[])) 0 (λj=>j<=u.length) (λj=>u.length-j) 0 (Wd _) (Xa [] [] rfl (by(try simp only[evWB,Xc,Xd,Xi,Xe,Xj,implies_true,za,Wg,B])<;>exact fin2) (by(try simp only[evWB,Xc,Xd,Xi,Xe,Xj,implies_true,za,Wg,B])<;>exact fin2)) ?_;rintro j Y W;refine dcU zqO.eq_1 ?_;by_cases A:j<u.length
  .have F:=zk (f:=cI) (d:=[]) A;have m:=zp5 (a:=x) (b:=u.take j);rw[WA]at m;have p:=zCP (a:=x) A;generalize ze5 x (u.take j)=y at m p⊢;refine Gw3 @dT @ua F ?_;intros;refine zg (ze (zzx y u[j] (by omega)) rfl) ?_;refine Gw0 ?_;intros;exact⟨j+1,by omega,by omega,(Xa [] [] rfl (Gin2_2 @ua p) (Gin2_2 @ua p))⟩
  .rw[Wu (by omega)];have m:=zp5 (a:=x) (b:=u);refine Gw2 @dF @ua ?_;intros;refine dcU zrc.eq_1 ?_;refine Gw0 ?_;intros;exact⟨(i+1,ze5 x u),⟨by simp only;omega,g,by simp only;omega⟩,by simp only;omega,(Xa [] [] rfl (Gin2_1 @ua) (Gin2_1 @ua))⟩
 by_cases N:op=2
 .rw[if_pos N]at c D;refine Gw2 @ub @dT ?_;intros;have q:∀ {H C:AH}{σ:Nat->Nat->Option (Nat×Nat×Nat)},H.get 1 0=some (.row 1 [[.int .i64 v]] 1)->Vw H C σ (inD [1]) true (.own 1 0 1 0 1) (encL 1 (λn=>[.int .i64 n]) [v]):=λh=>zbv (l:=[v]) rfl h (by simp[big])
  refine c _ _ _ (Xa [] [1] rfl trivial ⟨zM rfl,q rfl,.int _ _ _,trivial⟩)
 .rw[if_neg N]at c D;refine Qi ?_;intros;have q:∀ {H C:AH}{σ:Nat->Nat->Option (Nat×Nat×Nat)},H.get 1 0=some (.row 1 [] 0)->Vw H C σ (inD [1]) true (.own 1 0 0 0 0) (encL 1 (λn=>[.int .i64 n]) []):=λh=>zbv (l:=[]) rfl h (by simp[big])
  refine c _ _ _ (Xa [] [1] rfl trivial ⟨zM rfl,q rfl,.int _ _ _,trivial⟩)
theorem zov(s):zw Z9 zhN [.agg s.cells] (·=za (znl s)):=by
 refine fn_x zuz rfl ?_;refine dcU zoq.eq_1 ?_;have g:=hBig;obtain⟨op,var,b,next,c,d,l,e⟩:=s;unfold znl;simp only;by_cases h:op=1\/op=3
 .rw[if_pos h];rcases h with rfl|rfl
  ·(refine Gw6 @dT @dF @ub @ua @uc @zgu.eq_1 ?_;intros);exact⟨_,zbv (l:=[var]) trivial rfl (by simp only[Wn];omega),rfl⟩
  ·(refine Gw6 @dT @dF @ub @ua @uc @zgu.eq_1 ?_;intros);exact⟨_,zbv (l:=[var]) trivial rfl (by simp only[Wn];omega),rfl⟩
 .rw[if_neg h];refine Gw6 @dT @dF @ub @ua @uc @zgu.eq_1 ?_;intros;exact⟨_,zbv (l:=[]) trivial rfl (by simp only[We];omega),rfl⟩
mutual
theorem zEq:∀e:Ex,(occX e).length<=zbn e
 |
  .mk op _ v _ l=>by
  have h:=zvp l;rw[occX,zbn,Wh];have:(if op=2 then[v]else([]:List Int)).length<=1:=by split<;>simp
  omega
theorem zvp:∀l:List Ex,(zeo l).length<=zZ l
 |[]=>by rw[zeo,zZ];simp
 |
  x::l=>by
  have b:=zvp l;have c:=zEq x;rw[zeo,zZ,Wh];omega
end
theorem zuu:∀l m:List Ex,zeo (l++m)=zeo l++zeo m
 |[],m=>by rw[zeo];rfl
 |x::l,m=>by rw[WM,zeo,zeo,zuu l m,WB]
theorem zHy:∀e:Ex,1<=zbn e
 |.mk _ _ _ _ _=>by rw[zbn];omega
theorem zpU:∀l:List Ex,l.length<=zZ l
 |[]=>by rw[zZ];simp
 |x::l=>by rw[Wf,zZ];have:=zpU l;have:=zHy x;omega
theorem zkc:∀l m:List Ex,zZ (l++m)=zZ l+zZ m
 |[],m=>by rw[zZ];simp
 |x::l,m=>by rw[WM,zZ,zZ,zkc l m];omega
def visH(b:List Int)(g:Nat):AH:=[(0,.row 1 [[.own 1 0 g 0 b.length]] 0),(1,.row 1 (b.map cI) g)]
def zqS(op v:Int):List Int:=if op=2 then[v]else[]
theorem zFP{op v}:(zqS op v).length<=1:=by unfold zqS;split<;>simp
theorem uj:type_of% @visH.eq_1:=@visH.eq_1
theorem zxH(op n v w)(l)(b)(g)(j:b.length<=200000):
  z7 Z9 zkl [.agg (encX (.mk op n v w l)),.ptr 0 0 0 0 0] (visH b g) 2 (λr H d=>∃c,r=.tup []/\H=visH (b++zqS op v) c/\d=2):=by
 refine zS (fn_x zBC rfl ?_);refine dcU zt6.eq_1 ?_;have e:=hBig;rw[zdh];unfold zqS;by_cases h:op=2
 .rw[if_pos h]
  (repeat first|simp(disch:=try exact dis1) only[evD,Xc,Xd,Xe,visH,dT h]|with_reducible first|intro _|refine aJ ?_)
  refine Gw1 @zps.eq_1 ?_;intros;exact⟨.tup [],visH (b++[v]) (g+1),2,(Xl [(0,0,0),(1,1,0)] [] rfl rfl rfl (Gin1_1 @uj) (Gin1_1 @uj)),g+1,rfl,rfl,rfl⟩
 .rw[if_neg h]
  (repeat first|simp(disch:=try exact dis1) only[evD,Xc,Xd,Xe,visH,dF h,zps]|with_reducible first|intro _|refine aJ ?_)
  refine⟨.tup [],visH b g,2,?_,g,rfl,rfl,rfl⟩;exact(Xl [(0,0,0),(1,1,0)] [] rfl rfl rfl (Gin1_1 @uj) (Gin1_1 @uj))
def visF:AV:=.fn (.func zkl) [.ptr 0 0 0 0 0]
theorem Qs{p:Prop}(h:p:=by(try simp only[evWB,Nat.reduceBEq,Nat.reduceAdd,Nat.reduceSub,Nat.reduceLeDiff,Nat.reduceLT,implies_true,List.take_zero,zeo,List.append_nil,visH])<;>exact fin1):p:=h
theorem zyS:∀(k:Nat)(e:Ex)(c:List Int)(g:Nat),zbn e<=k->c.length+zbn e<=100000 ->
  z7 Z9 zpW [.agg (encX e),visF] (visH c g) 2 (λr H J=>∃m,r=.tup []/\H=visH (c++occX e) m/\J=2):=by
 intro k
 induction k with
 |zero=>intro e c g h;obtain⟨_,_,_,_,l⟩:=e;rw[zbn]at h;omega
 |succ k I=>
 intro e c g B F;obtain⟨op,n,v,w,l⟩:=e;rw[zbn]at B F;refine zS (fn_x zDi rfl ?_);refine dcU zv8.eq_1 ?_;have K:=hBig;have t:=zpU l;have s:=zxH op n v w l c g (by omega);have D:=zFP (op:=op) (v:=v);rw[zdh]at s⊢;refine Gw2 @visF.eq_1 @uj ?_;intros;refine⟨by kernel_rfl,?_⟩;refine zx [(0,0,0),(1,1,0)] 2 _ (s) rfl rfl (Gin1_1 @uj) (Gin1_1 @uj) ?_;rintro r u q ⟨m,rfl,rfl,rfl⟩;refine Gw1 @uj ?_;intros;have d:occX (.mk op n v w l)=zqS op v++zeo l:=by rw[occX];rfl
 rw[d]
 refine zc (λa:Nat×Nat=>([(1,.fn (.func zkl) [.ptr 0 0 0 0 0]),(10,encL 5 encX l),(11,.int .i64 l.length),(12,.int .i64 a.1)],visH (c++(zqS op v++zeo (l.take a.1))) a.2)) 2
  (λa=>a.1<=l.length) (λa=>l.length-a.1) (0,m) (Wd _) (Xl [(0,0,0),(1,1,0)] [] rfl rfl rfl Qs Qs) ?_
 rintro⟨i,o⟩ hi wf;simp only at hi;refine dcU zrf.eq_1 ?_;refine Gw1 @uj ?_;intros;(refine zz (λh=>?_) (λh=>?_))<;>(try simp only[dcd]at h)
 .have b:i<l.length:=by omega
  have p:zeo (l.take (i+1))=zeo (l.take i)++occX l[i]:=by rw[Wo,Wi b,zuu];congr 1;show zeo [l[i]]=_;rw[zeo,zeo,WC]
  have M:zZ l=zZ (l.take i)+zZ (l.drop i):=by rw[<-zkc,WD]
  have C:=zry b;have L:=zvp (l.take i);have j:=I l[i] (c++(zqS op v++zeo (l.take i))) o (by omega) (by simp only[Wh];omega);have y:c++(zqS op v++zeo (l.take i))++occX l[i]=c++(zqS op v++zeo (l.take (i+1))):=by rw[p];simp
  rw[y]at j;refine Gw1 (gmp b) ?_;intros;generalize l[i]=x at j⊢;obtain⟨P,O,Q,R,N⟩:=x;simp only[zdh]at j⊢;refine Gw0 ?_;intros;refine zx [(0,0,0),(1,1,0)] 2 _ (j) rfl rfl (Gin1_2 @uj @visF.eq_1) (Gin1_2 @uj @visF.eq_1) ?_;rintro r u q ⟨A,rfl,rfl,rfl⟩;refine Gw1 @uj ?_;intros;exact⟨(i+1,A),by simp only;omega,by simp only;omega,(Xl [(0,0,0),(1,1,0)] [] rfl rfl rfl (Gin1_1 @uj) (Gin1_1 @uj))⟩
 .have b:l.length<=i:=by omega
  refine Gw1 @zvn.eq_1 ?_;intros;refine⟨.tup [],visH (c++(zqS op v++zeo l)) o,2,?_,o,rfl,rfl,rfl⟩;rw[Wu b];exact(Xl [(0,0,0),(1,1,0)] [] rfl rfl rfl (Gin1_1 @uj) (Gin1_1 @uj))
theorem zyC{l}(q:l.Pairwise (·<=·)):∀n,n<=l.length->Asc (zak l n)/\∀x,x∈zak l n↔∃j,∃h:j<l.length,j<n/\l[j]=x
 |
  0,_=>by
  refine⟨List.Pairwise.nil,λx=>⟨λh=>?_,λ⟨j,_,h,_⟩=>absurd h (Nat.not_lt_zero _)⟩⟩;have:zak l 0=[]:=rfl;rw[this]at h;cases h
 |
  n+1,hn=>by
  obtain⟨m,k⟩:=zyC q n (by omega);have p:=List.pairwise_iff_getElem.1 q
  cases g:zgi l n with
  |true=>
   rw[zpY (by omega) g];refine⟨List.pairwise_append.2 ⟨m,List.pairwise_singleton _ _,λa t b o=>?_⟩,λx=>?_⟩
   .obtain⟨j,c,d,rfl⟩:=(k a).1 t;rw[WN]at o;subst o;have v:l[n]≠l[n-1]:=by have:=zgl (l:=l) (j:=n) (by omega) (by omega);rw[g]at this;simpa using this.symm
    have w:=p (n-1) n (by omega) (by omega) (by omega);rcases WE j (n-1)with e|e
    .have:=p j (n-1) c (by omega) e;omega
    .obtain rfl:j=n-1:=by omega
     omega
   .rw[List.mem_append,WN,k];constructor
    .rintro(⟨j,c,d,rfl⟩|rfl)
     .exact⟨j,c,by omega,rfl⟩
     .exact⟨n,by omega,by omega,rfl⟩
    .rintro⟨j,c,d,rfl⟩;rcases WE j n with e|e
     .exact .inl ⟨j,c,e,rfl⟩
     .obtain rfl:j=n:=by omega
      exact .inr rfl
  |false=>
   rw[zpi g];refine⟨m,λx=>?_⟩;rw[k];constructor
   .rintro⟨j,c,d,rfl⟩;exact⟨j,c,by omega,rfl⟩
   .rintro⟨j,c,d,rfl⟩;rcases WE j n with e|e
    .exact⟨j,c,e,rfl⟩
    .obtain rfl:j=n:=by omega
     have s:1<=j:=by
      rcases Nat.eq_zero_or_pos j with rfl|h
      .cases g
      .exact h
     have:=zgl (l:=l) (j:=j) s c;rw[g]at this;have u:l[j]=l[j-1]:=by simpa using this.symm
     exact⟨j-1,by omega,by omega,u.symm⟩
theorem zul(l m)(g:Asc m)(h:∀x,x∈m↔x∈l):zbG (zfF l)=m:=by
 obtain⟨c,d⟩:=zyC (zg1 l) (zfF l).length (Wv _);refine zCm c g λx=>?_
 rw[h,<-(zdy l).mem_iff];show x∈zak _ _↔_;rw[d,WF];exact⟨λ⟨j,b,_,e⟩=>⟨j,b,e⟩,λ⟨j,b,e⟩=>⟨j,b,b,e⟩⟩
theorem zFV(e)(y:zbn e<=100000):zw Z9 zwP [.agg (encX e)] (·=za (zga e)):=by
 refine fn_x zFY rfl ?_;unfold zyk;have u:=hBig;have k:=zyS (zbn e) e [] 0 (Wv _) (by simp only[We];omega);have q:=zEq e;have b:=zul (occX e) (zga e) (zHr e) λx=>zm3 e
 rw[List.nil_append]at k;generalize occX e=d at k q b;generalize zga e=A at b⊢;obtain⟨op,n,v,w,l⟩:=e;simp only[zdh]at k⊢;refine Gw0 ?_;intros;refine zx [(0,1,0)] 2 _ (k) rfl rfl (Gin1_2 @uj @visF.eq_1) (Gin1_2 @uj @visF.eq_1) ?_;rintro r t s ⟨p,rfl,rfl,rfl⟩;refine Gw1 @uj ?_;intros;refine zyu (zAB (zs:=d) rfl (by omega)) ?_;rintro _ _ _ c;simp only[Prod.mk.injEq]at c;obtain⟨rfl,rfl,rfl⟩:=c;have j:(zfF d).length=d.length:=(zdy d).length_eq;have g:=zyx (l:=zfF d) (n:=(zfF d).length);rw[<-j];generalize zfF d=o at b j g⊢;refine Gw0 ?_;intros;refine zx [(0,3,0)] 1 _ (zy7 o p (by omega)) rfl rfl Gin1_0 Gin1_0 ?_;rintro _ _ _ ⟨m,rfl,rfl,rfl⟩;have h:(zbG o).length<=o.length:=g;rw[b]at h⊢;refine Gw1 @zyg.eq_1 ?_;intros;refine⟨_,?_,rfl⟩;exact zzp (m:=m) trivial rfl (by omega)
theorem zG5{c}{ps}(h:SetS c ps){m}(k:Asc m)(g:∀x,x∈m↔x∈ps.map (·.1)):zfF (ps.map (·.1))=m:=by
 refine zCm ?_ k λx=>?_
 .have d:=zg1 (ps.map (·.1));have e:(zfF (ps.map (·.1))).Nodup:=(zdy _).nodup_iff.2 h.keys;refine List.Pairwise.imp₂ (λa b j n=>?_) d e;omega
 .rw[g,(zdy _).mem_iff]
theorem renM{ρ}{l:List MC}{g}:Xk ρ (.row 3 (l.map cm) g)=.row 3 (l.map cm) g:=by simp only[Xk];rw[zgm (zK zi6)]
theorem renF{ρ}{n}{S}:Xk ρ (famS n S)=famS n S:=by
 unfold famS fi;simp only[Xk,Ww];congr 1;refine WO λi _=>?_
 show(List.map _ _,_)=_;rw[zgm (zK zi6)]
theorem renE{ρ}{l}:AV.ren ρ (za l)=za l:=zr7 rfl
def zmS(s:MS)(l:List Ex):MS:=l.foldl (λa x=>addL a (zga x)) s
theorem zFg{s:MS}{l:List Ex}{i:Nat}(h:i<l.length):zmS s (l.take (i+1))=addL (zmS s (l.take i)) (zga l[i]):=by unfold zmS;rw[Wo,Wi h,List.foldl_append];rfl
theorem zAN{y}:∀{l:List Ex}{s:MS},y∈(zmS s l).keys↔y∈s.keys\/y∈zeo l
 |[],s=>by rw[zeo];simp[zmS]
 |
  x::l,s=>by
  show y∈(zmS (addL s (zga x)) l).keys↔_;rw[zAN,zlM,zm3,zeo,List.mem_append,or_assoc]
theorem zEX:∀{l:List Ex}{s:MS},s.ok->s.1+zZ l<=1000000->s.2.length+zZ l<=1000000->(zmS s l).ok/\(zmS s l).1<=s.1+zZ l/\(zmS s l).2.length<=s.2.length+zZ l
 |
  [],s,h,_,_=>by
  rw[zZ];exact⟨h,by show s.1<=_;omega,by show s.2.length<=_;omega⟩
 |
  x::l,s,h,h1,h2=>by
  rw[zZ]at h1 h2⊢;have g:=zeJ (l:=zga x) (s:=s);have j:=zoS x;have b:=znw (l:=zga x) h (by omega) (by omega);obtain⟨c,d,e⟩:=zEX (l:=l) b (by omega) (by omega);exact⟨c,by show(zmS (addL s (zga x)) l).1<=_;omega,by show(zmS (addL s (zga x)) l).2.length<=_;omega⟩
theorem zzD:MS.ok (0,[]):=⟨List.nodup_nil,List.nodup_nil,(λ_ h=>nomatch h),by simp,by simp⟩
theorem zv5{l}{i}:zZ (l.take i)<=zZ l:=by
 have:zZ l=zZ (l.take i)+zZ (l.drop i):=by rw[<-zkc,WD]
 omega
theorem zuI(s)(y:zZ s.e<=100000):zw Z9 zll [.agg s.cells] (·=za (zjd s)):=by
 refine fn_x zuY rfl ?_;refine dcU zop.eq_1 ?_;have C:=hBig;obtain⟨op,var,b,next,k,n,l,v⟩:=s;simp only at y;have h:=zGr ⟨op,var,b,next,k,n,l,v⟩;have j:∀x,x∈zjd ⟨op,var,b,next,k,n,l,v⟩↔x∈(zmS (0,[]) l).2.map (·.1):=λx=>by show x∈zw4 [] l↔x∈(zmS (0,[]) l).keys;rw[zsb,zAN];simp[MS.keys]
 have q:=λi=>zEX (l:=l.take i) (s:=(0,[])) zzD (by have:=zv5 (l:=l) (i:=i);simp only;omega) (by have:=zv5 (l:=l) (i:=i);simp only[We];omega)
 generalize zjd ⟨op,var,b,next,k,n,l,v⟩=R at h j⊢;refine Gw3 @ub @uc @ua ?_;intros
 refine zc (λi:Nat=>([(3,.mp 0 0),(8,encL 5 encX l),(9,.int .i64 l.length),(10,.int .i64 i)],[(0,.row 3 ((setM (zmS (0,[]) (l.take i)).1 (zmS (0,[]) (l.take i)).2).map cm) 0)])) 1
  (λi=>i<=l.length) (λi=>l.length-i) 0 (Wd _) (by rw[Wg,show zmS (0,[]) []=(0,[])from rfl];exact(Xa [(0,1,0)] [] rfl (Gin6_1 @zd) (Gin6_1 @zd))) ?_
 rintro i D wf;refine dcU zkm.eq_1 ?_;by_cases m:i<l.length
 .have A:=zry m;have B:zZ l=zZ (l.take i)+zZ (l.drop i):=by rw[<-zkc,WD]
  obtain⟨g,o,p⟩:=q i;have w:=zoS l[i];have d:=zFg (s:=(0,[])) m;refine Gw6 @ub @dT (gmp m) @zam @zab @zd ?_;intros;refine zg (ze (zFV l[i] (by omega)) (flX rfl)) ?_;generalize zga l[i]=u at w d⊢;generalize zmS (0,[]) (l.take i)=a at g o p d⊢;simp only[We,Nat.zero_add,Int.zero_add]at o p;refine Gw0 ?_;intros;refine zx [(0,0,0)] 1 _ (zFj a u g (by omega) (by omega)) rfl rfl (Gin6_1 @zd) (Gin6_1 @zd) ?_;rintro _ _ _ ⟨rfl,rfl,rfl⟩;refine Gw1 @renM ?_;intros;exact⟨i+1,by omega,by omega,(Xa [(0,0,0)] [] rfl (Gin6_2 @zd d) (Gin6_2 @zd d))⟩
 ·(refine Qa ?_;intros);refine dcU zk9.eq_1 ?_;obtain⟨g,o,p⟩:=q l.length;have t:=zG5 (c:=(zmS (0,[]) l).1) (ps:=(zmS (0,[]) l).2) (by rw[Wp]at g;exact g) h j;rw[Wp]at g o p;rw[Wu (by omega)];generalize zmS (0,[]) l=a at g o p t⊢;refine Gw1 @zd ?_;intros;refine zx [(0,0,0)] 1 _ (zCD a.1 a.2 g) rfl rfl (Gin6_1 @zd) (Gin6_1 @zd) ?_;rintro _ _ _ ⟨rfl,rfl,rfl⟩;rw[t];refine Gw3 @renM @renE @zoa.eq_1 ?_;intros;exact⟨_,zM rfl,rfl⟩
def tgS(l:List St):List Int:=(l.filter λs=>decide (s.op=5)).map (·.tgt)
def tgB(l:List Bl):List Int:=l.flatMap λb=>tgS b.stmts
theorem zHd{l}:(tgS l).length<=l.length:=by unfold tgS;rw[Wx];exact List.length_filter_le _ _
theorem zLN{l:List St}{k:Nat}(b:k<l.length)(h:l[k].op=5):tgS (l.take (k+1))=tgS (l.take k)++[l[k].tgt]:=by unfold tgS;rw[Wo,Wi b,WP];simp[h]
theorem tgS_no{l:List St}{k:Nat}(b:k<l.length)(h:¬l[k].op=5):tgS (l.take (k+1))=tgS (l.take k):=by unfold tgS;rw[Wo,Wi b,WP];simp[h]
theorem zKb{l:List Bl}{i:Nat}(b:i<l.length):tgB (l.take (i+1))=tgB (l.take i)++tgS l[i].stmts:=by unfold tgB;rw[Wo,Wi b,WQ];simp
theorem zDF:∀{l:List Bl}{n:Nat},(∀b∈l,b.stmts.length<=n)->(tgB l).length<=l.length*n
 |[],_,_=>by simp[tgB]
 |
  b::l,n,h=>by
  have d:=zDF (l:=l) (n:=n) λx c=>h x (List.mem_cons_of_mem _ c)
  have e:=zHd (l:=b.stmts);have g:=h b (by simp);unfold tgB at d⊢;rw[WR,Wh,Wf,Nat.succ_mul];omega
theorem zLF{ρ:Nat->Nat}{l:List Int}{g:Nat}:Xk ρ (.row 1 (l.map cW) g)=.row 1 (l.map cW) g:=by simp only[Xk];rw[zgm (zK λ_=>rfl)]
theorem Qt{p:Prop}(h:p:=by(try simp only[evWB,Nat.reduceBEq,Nat.reduceAdd,Nat.reduceSub,Nat.reduceLeDiff,Nat.reduceLT,implies_true,List.take_zero,tgB,List.flatMap_nil])<;>exact fin2):p:=h
theorem Qu{p:Prop}(h:p:=by(try simp only[evWB,Nat.reduceBEq,Nat.reduceAdd,Nat.reduceSub,Nat.reduceLeDiff,Nat.reduceLT,implies_true,List.take_zero,tgS,List.filter_nil,List.map_nil,List.append_nil])<;>exact fin2):p:=h
theorem znc(g:G)(u:(tgB g.blocks).length<=250)(w:g.blocks.length<=1000)(p:∀b∈g.blocks,b.stmts.length<=1000):
  zw Z9 zgv [.agg g.cells] (·=encL 1 cW (zbG (zfF (tgB g.blocks)))):=by
 refine fn_x ztE rfl ?_;refine dcU zmX.eq_1 ?_;have N:=hBig;obtain⟨M,c⟩:=g;simp only at u w p;unfold G.cells;simp only;refine Gw2 @ub @zC ?_;intros;refine zc (λi:Nat=>([(3,.own 0 0 0 0 (tgB (c.take i)).length),(9,encL 2 Xg c),(10,.int .i64 c.length),(11,.int .i64 i)],[(0,.row 1 ((tgB (c.take i)).map cW) 0)])) 1 (λi=>i<=c.length) (λi=>c.length-i) 0 (Wd _) (Xa [(0,1,0)] [] rfl Qt Qt) ?_;rintro i O wf;refine dcU zjg.eq_1 ?_;by_cases j:i<c.length
 .have D:(c.map Xg).getD i []=[.int .u32 c[i].addr,encL 8 Xb c[i].stmts]:=zk j;have J:=p _ (Wa j);have h:=zKb j
  have F:(tgB (c.take i)).length<=250000+1000000:=by
   have:=zDF (l:=c.take i) (n:=1000) λb u=>p b (List.mem_of_mem_take u)
   rw[WA]at this;have:min i c.length*1000<=1000*1000:=Nat.mul_le_mul_right _ (by omega);omega
  refine Gw5 @ub @zC @dT @dF D ?_;intros;refine zc (λk:Nat=>([(3,.own 0 0 0 0 (tgB (c.take i)++tgS (c[i].stmts.take k)).length),(9,encL 2 Xg c),(10,.int .i64 c.length),(11,.int .i64 i),(16,encL 8 Xb c[i].stmts),(17,.int .i64 c[i].stmts.length),(18,.int .i64 k)],[(0,.row 1 ((tgB (c.take i)++tgS (c[i].stmts.take k)).map cW) 0)])) 1 (λk=>k<=c[i].stmts.length) (λk=>c[i].stmts.length-k) 0 (Wd _) (Xa [(0,0,0)] [] rfl Qu Qu) ?_;rintro k P L;refine dcU zjy.eq_1 ?_;by_cases o:k<c[i].stmts.length
  .have q:(c[i].stmts.map Xb).getD k []=[.int .i64 c[i].stmts[k].op,.int .i64 c[i].stmts[k].var,.int .i64 c[i].stmts[k].width,.int .i64 c[i].stmts[k].next,.int .i64 c[i].stmts[k].els,.int .u32 c[i].stmts[k].tgt,encL 5 encX c[i].stmts[k].e,za c[i].stmts[k].cases]:=zk (f:=Xb) (d:=[]) o;have B:(tgS (c[i].stmts.take k)).length<=1000:=by have:=zHd (l:=c[i].stmts.take k);rw[WA]at this;omega
   by_cases y:c[i].stmts[k].op=5
   .have t:=zLN o y;have x:((tgB (c.take i)++tgS (c[i].stmts.take k)).map cW).take ((tgB (c.take i)).length+(tgS (c[i].stmts.take k)).length)=(tgB (c.take i)++tgS (c[i].stmts.take k)).map cW:=Wu (by simp);refine Gw8 @ub @zC @dT @dF q x @m9M @m9A ?_;intros;exact⟨k+1,by omega,by omega,(Xa [(0,0,1)] [] rfl (by(try simp only[evWB,Xc,Xd,Xi,Xe,Xj,implies_true,t,Wh,Wn,List.map_append,Wy,WG,WB,Xm,cW])<;>exact fin2) (by(try simp only[evWB,Xc,Xd,Xi,Xe,Xj,implies_true,t,Wh,Wn,List.map_append,Wy,WG,WB,Xm,cW])<;>exact fin2))⟩
   .have t:=tgS_no o y;refine Gw5 @ub @zC @dT @dF q ?_;intros;exact⟨k+1,by omega,by omega,(Xa [(0,0,0)] [] rfl (Gin2_1 t) (Gin2_1 t))⟩
  .obtain rfl:k=c[i].stmts.length:=by omega
   refine Qa ?_;intros;refine dcU zjR.eq_1 ?_;refine Qa ?_;intros;exact⟨i+1,by omega,by omega,(Xa [(0,0,0)] [] rfl (by(try simp only[evWB,Xc,Xd,Xi,Xe,Xj,implies_true,h,Wp])<;>exact fin2) (by(try simp only[evWB,Xc,Xd,Xi,Xe,Xj,implies_true,h,Wp])<;>exact fin2))⟩
 .obtain rfl:i=c.length:=by omega
  rw[Wp];refine Qa ?_;intros;refine dcU zjA.eq_1 ?_;have I:=zKX (tgB c) 0 u;refine Qa ?_;intros;refine zx [(0,0,0)] 1 _ (I) rfl rfl fin9 fin9 ?_;rintro v H K ⟨rfl,rfl,rfl⟩;have s:(zfF (tgB c)).length=(tgB c).length:=(zdy _).length_eq;have A:=zzL (zfF (tgB c)) 0 (by omega);rw[s]at A;refine Gw1 @zLF ?_;intros;refine zx [(0,0,0)] 1 _ (A) rfl rfl fin9 fin9 ?_;rintro v H K ⟨m,rfl,rfl,rfl⟩;have C:(zbG (zfF (tgB c))).length<=(zfF (tgB c)).length:=zyx;refine Gw2 @zLF @zmA.eq_1 ?_;intros;exact⟨_,zI9 trivial rfl (by omega),rfl⟩
def St.toS(s:St):Stm:=⟨s.op,s.var,s.width,s.next,s.els,s.tgt,encL 5 encX s.e,s.cases⟩
def Bl.toB(b:Bl):Blk:=⟨b.addr,b.stmts.map St.toS⟩
def G.toG(g:G):Gr:=⟨g.addr,g.blocks.map Bl.toB⟩
theorem zEA{α β:Type}{n:Nat}{f:β->List AV}{h:α->β}{l:List α}:encL n f (l.map h)=encL n (λx=>f (h x)) l:=by unfold encL;rw[Wx,Ww];rfl
theorem St.toS_cells(s:St):s.toS.cells=s.cells:=rfl
theorem Bl.toB_cells(b:Bl):b.toB.cells=b.cells:=by unfold Bl.toB Blk.cells Xg;simp only[zEA,St.toS_cells]
theorem G.toG_cells(g:G):g.toG.cells=g.cells:=by unfold G.toG Gr.cells G.cells;simp only[zEA,Bl.toB_cells]
theorem Bl.toB_targets(b:Bl):b.toB.targets=zar b.stmts:=by unfold Blk.targets zar Bl.toB;simp only[List.getLast?_map];cases b.stmts.getLast? <;> rfl
structure fewC(g:G):Prop where
 blocks:g.blocks.length<=8
 stmts:∀b∈g.blocks,b.stmts.length<=10
 cases:∀b∈g.blocks,∀s∈b.stmts,s.cases.length<=8
 size:∀b∈g.blocks,∀s∈b.stmts,zZ s.e<=300
 exprs:∀b∈g.blocks,∀s∈b.stmts,s.e.length<=3
theorem zoX{l}{n}(c:2<=n)(h:∀s∈l,s.cases.length<=n):(zar l).length<=n:=by
 unfold zar
 cases b:l.getLast? with
 |none=>simp
 |some s=>
  have:=h s (List.mem_of_getLast? b);simp only[znC];split
  .simp only[Wn];omega
  .split
   .simp only[Wf,We];omega
   .split
    .exact this
    .simp
theorem zyt{g}(h:fewC g):g.toG.small:=by refine⟨by have:=h.blocks;simp[G.toG];omega,λb e=>?_⟩;obtain⟨c,d,rfl⟩:=List.mem_map.1 e;rw[Bl.toB_targets];exact Wl (zoX (by decide) (h.cases c d)) (by decide:8<=1000)
theorem ztx{g}(h:fewC g):manyB g:=⟨Wl h.blocks (by decide),λb c=>Wl (h.stmts b c) (by decide)⟩
def blkG(g:G)(b:Nat):Bl:=g.blocks.getD b ⟨0,[]⟩
structure OkG(g:G):Prop where
 pos:0<g.blocks.length
 ends:∀b∈g.blocks,b.stmts.length≠0
 tgt:∀b∈g.blocks,∀t∈zar b.stmts,0<=t/\t<g.blocks.length
def edgB(g:G)(b:Nat):List Nat:=(zar (blkG g b).stmts).map Int.toNat
theorem zaR{g}{b}(c:b<g.blocks.length):blkG g b=g.blocks[b]:=by simp[blkG,c]
theorem zrq{g}(e:OkG g){b}(c:b<g.blocks.length):∀t∈edgB g b,t<g.blocks.length:=λt h=>by obtain⟨x,d,rfl⟩:=List.mem_map.1 h;rw[zaR c]at d;have:=e.tgt _ (Wa c) x d;omega
theorem zu4{g}(d:OkG g){b}(c:b<g.blocks.length):zar g.blocks[b].stmts=(edgB g b).map (λ(n:Nat)=>(n:Int)):=by unfold edgB;rw[zaR c,Ww];refine(List.map_id _).symm.trans (WO λx e=>?_);have:=d.tgt _ (Wa c) x e;simp only[Function.comp,id];omega
theorem zKF{g}(d:OkG g){b}(c:b<g.blocks.length):Dm.suc g.toG.E b=edgB g b:=by unfold Dm.suc Gr.E G.toG edgB;rw[zaR c];simp only[Ww,Wx,Wc,List.getElem?_map,Wi c,WH,Option.getD_some,Function.comp,Bl.toB_targets];rw[List.filter_eq_self.2 λx e=>?_];have:=d.tgt _ (Wa c) x e;unfold Dm.edgeOk;simp[this]
structure Sgn where
 args:List Int
 res:List Int
 sav:List Int
def Sgn.cells(s:Sgn):List AV:=[za s.args,za s.res,za s.sav]
def zbF:Sgn:=⟨[],[],[]⟩
def idxA(b:List Int)(a:Int):Option Nat:=b.findIdx? λx=>decide (x=a)
def zaJ(l:List Sgn)(b:List Int)(a:Int):Sgn:=match idxA b a with
 |some k=>l.getD k zbF
 |none=>zbF
end Go.Ab
namespace Go.Ab
open Go.RowKit Go.Proofs Go.Proofs.YtihlaappclhhaaaGreat Go.ChangeShapes Go.WideShapes
section
variable {HH:Type}{enc:TypeId×Value->HH}{w:World}{base:Nat}{spare:Nat->Bool}{held:Bool}{L:Nat->Prop} (hL:∀b,¬L b)
include hL
theorem zJj{fuel}{cs}{y:DataW HH×List MemPlace}(h:Xh enc Z9 w base spare held fuel 55 cs=some y):∃s:Sgn,cs.length=3/\ElOk w L cs s.cells/\∀j,j<3->∀ι,VR w L ι (cs.getD j undef) (s.cells.getD j .undef):=by
 have k:Tryz.prog.cellsOf 3=1:=by kernel_rfl
 obtain⟨g,n,rfl,rfl,e,t,q⟩:=DataW.trod_struct Tryz.underlying55 h;have F:Tryz.prog.cellsOf 55=3:=by kernel_rfl
 have c:Tryz.prog.cellsOf 35=1:=by kernel_rfl
 rw[F]at e;have d:∀i,i<3->g[i]?=some (g.getD i (.nil,[])):=λi H=>by rw[List.getD_eq_getElem?_getD,Wi (by rw[t];exact H)];rfl
 match cs,e with
 |[c0,c1,c2],_=>
  have m:Xh enc Z9 w base spare held n 35 (([c0,c1,c2].drop 0).take (Tryz.prog.cellsOf 35))=some (g.getD 0 (.nil,[])):=(q 0 _ rfl).trans (d 0 (by decide));rw[c]at m;replace m:Xh enc Z9 w base spare held n 35 [c0]=some (g.getD 0 (.nil,[])):=m;have o:Xh enc Z9 w base spare held n 35 (([c0,c1,c2].drop 1).take (Tryz.prog.cellsOf 35))=some (g.getD 1 (.nil,[])):=(q 1 _ rfl).trans (d 1 (by decide));rw[c]at o;replace o:Xh enc Z9 w base spare held n 35 [c1]=some (g.getD 1 (.nil,[])):=o;have p:Xh enc Z9 w base spare held n 35 (([c0,c1,c2].drop 2).take (Tryz.prog.cellsOf 35))=some (g.getD 2 (.nil,[])):=(q 2 _ rfl).trans (d 2 (by decide));rw[c]at p;replace p:Xh enc Z9 w base spare held n 35 [c2]=some (g.getD 2 (.nil,[])):=p;obtain⟨I,v0,B,M,v⟩:=zwQ Tryz.underlying35 Tryz.underlying3 k hL m;obtain⟨J,v1,C,N,x⟩:=zwQ Tryz.underlying35 Tryz.underlying3 k hL o;obtain⟨K,P,D,O,A⟩:=zwQ Tryz.underlying35 Tryz.underlying3 k hL p;cases B;cases C;cases D;refine⟨⟨I,J,K⟩,rfl,λj u=>?_,λj u ι=>?_⟩
  .match j with
   |0=>exact⟨v _,M⟩
   |1=>exact⟨x _,N⟩
   |2=>exact⟨A _,O⟩
   |j+3=>exact absurd u (by simp)
  .match j with
   |0=>exact v _
   |1=>exact x _
   |2=>exact A _
   |j+3=>omega
omit hL
theorem zG0{ι}{v}{l}(h:VR w L ι v (za l)):l.length<=9223372036854775807:=by
 unfold za encL at h;generalize d:(λi j=>((l.map λn=>[AV.int .i64 n]).getD i []).getD j AV.undef)=f at h;generalize e:l.length=n at h
 cases h with
 |sl _ a _ _ cap _ V h1 h2 h3 h4 h5=>have c:=hBig;omega
 |sl0=>omega
theorem zNa{ι}{v}{l}(h:VR w L ι v (encL 3 Sgn.cells l)):∀s∈l,s.args.length<=9223372036854775807/\s.res.length<=9223372036854775807:=by
 intro s k;obtain⟨i,g,rfl⟩:=WF.1 k;unfold encL at h;generalize e:(λi j=>((l.map Sgn.cells).getD i []).getD j AV.undef)=f at h;generalize m:l.length=n at h
 cases h with
 |sl _ a _ _ cap _ V h1 h2 h3 h4 h5=>have c:=h5 i 0 (by omega) (by decide);have d:=h5 i 1 (by omega) (by decide);rw[<-e]at c d;simp only at c d;rw[zk (f:=Sgn.cells) g]at c d;exact⟨zG0 c,zG0 d⟩
 |sl0=>omega
include hL
theorem open_sigs{v}{d:DataW HH}{o:List MemPlace}{b2}(n:Value.okWide Z9 w .any base 49 v)(h:Xn enc Z9 w b2 spare held 49 v d o):∃l:List Sgn,(∀s∈l,s.args.length<=9223372036854775807/\s.res.length<=9223372036854775807)/\∀ι,VR w L ι v (encL 3 Sgn.cells l):=by
 obtain⟨a0,len,cap,rfl⟩:=okWide_slice Tryz.underlying49 n;obtain⟨e,m⟩:=h;have c:Tryz.prog.cellsOf 55=3:=by kernel_rfl
 obtain⟨l,p,g,_,j⟩:=zu5 (α:=Sgn) (cells:=Sgn.cells) (L:=L) Tryz.underlying49 c hL (λ_ _ _ h _=>by obtain⟨s,_,k,_⟩:=zJj hL h;exact⟨s,k⟩) m;have:p=.slice a0 len cap:=by simp[Value.cells]at g;exact g.symm
 subst this;exact⟨l,zNa (j noI),j⟩
theorem open_words{v:Value}{d:DataW HH}{m:List MemPlace}{b2:Nat}(k:Value.okWide Z9 w .any base 25 v)(h:Xn enc Z9 w b2 spare held 25 v d m):∃l:List Int,True/\∀ι,VR w L ι v (encL 1 cW l):=by
 obtain⟨a0,len,cap,rfl⟩:=okWide_slice Tryz.underlying25 k;obtain⟨c,j⟩:=h;obtain⟨l,n,e,_,g⟩:=zwQ Tryz.underlying25 Tryz.underlying24 (by kernel_rfl) hL j;have:n=.slice a0 len cap:=by simp[Value.cells]at e;exact e.symm
 subst this;exact⟨l,trivial,g⟩
end
end Go.Ab
namespace Go.Ab
open Go.RowKit Go.Proofs
def idxV(o:Option Nat):Int:=match o with
 |some k=>k
 |none=> -1
theorem zxe(at')(a)(v:at'.length<=1000000):zw Z9 zpZ [encL 1 cW at',.int .u32 a] (·=.int .i64 (idxV (idxA at' a))):=by
 refine fn_x zCS rfl ?_;refine dcU zws.eq_1 ?_;have t:=hBig;refine Gw0 ?_;intros;refine zc (λk:Nat=>([(0,encL 1 cW at'),(1,.int .u32 a),(5,.int .i64 k)],[])) 0 (λk=>k<=at'.length/\∀i (h:i<at'.length),i<k->at'[i]≠a) (λk=>at'.length-k) 0 ⟨Wd _,λi h n=>by omega⟩ (Xf rfl fin5) ?_;rintro k ⟨u,c⟩ wf;clear wf;refine dcU zqE.eq_1 ?_;by_cases b:k<at'.length
 .have m:(at'.map cW).getD k []=[.int .u32 at'[k]]:=zk (f:=cW) (d:=[]) b;by_cases e:at'[k]=a
  .have g:idxA at' a=some k:=WS.2 ⟨b,decide_eq_true e,λj q=>by simpa using c j (by omega) q⟩;rw[g];refine Gw4 @dT m e @zrk.eq_1 ?_;intros;exact izO
  ·(repeat first|simp(disch:=try exact dis1) only[evD,Xc,Xd,Xe,dT,m,decide_eq_false e]|with_reducible first|intro _|refine aJ ?_)
   refine⟨k+1,⟨b,λi h n=>?_⟩,by omega,Xf rfl fin5⟩;rcases Nat.lt_succ_iff_lt_or_eq.1 n with o|rfl
   .exact c i h o
   .exact e
 .have g:idxA at' a=none:=List.findIdx?_eq_none_iff.2 λx s=>by obtain⟨i,p,rfl⟩:=WF.1 s;simpa using c i p (by omega)
  rw[g];refine Qa ?_;intros;unfold zqP;refine Gw1 @zrk.eq_1 ?_;intros;exact izO
theorem zzV(l:List Sgn)(c:List Int)(s:St)(y:c.length<=1000000)(x:l.length=c.length):zw Z9 zpp [encL 3 Sgn.cells l,encL 1 cW c,.agg s.cells] (·=.agg (zaJ l c s.tgt).cells):=by
 refine fn_x zzC rfl ?_;unfold zsw zaJ;conv in Z8 _ _=>reduce
 have B:=hBig;obtain⟨op,var,o,next,u,g,e,A⟩:=s;simp only;have j:=zxe c g y
 cases n:idxA c g with
 |none=>
  rw[n]at j;refine Gw4 @ub @zC @uc @ua ?_;intros;refine zg (ze j rfl) ?_;have t:decide ((-1:Int)<0)=true:=by decide
  (repeat first|simp(disch:=try exact dis1) only[evD,Xc,Xd,Xe,idxV,t,znB]|with_reducible first|intro _|refine aJ ?_)
  exact⟨.agg zbF.cells,.agg _ _ _ rfl (λi a b h m=>match i with
   |0=>by cases h;cases m;exact .nil0 _ _ _
   |1=>by cases h;cases m;exact .nil0 _ _ _
   |2=>by cases h;cases m;exact .nil0 _ _ _
   |i+3=>by cases h),rfl⟩
 |some k=>
  have p:k<l.length:=by rw[x];exact(WS.1 n).1
  have w:(l.map Sgn.cells).getD k []=[za l[k].args,za l[k].res,za l[k].sav]:=zk (f:=Sgn.cells) (d:=[]) p;have v:l.getD k zbF=l[k]:=by simp[Wc,p]
  rw[n]at j;refine Gw4 @ub @zC @uc @ua ?_;intros;refine zg (ze j rfl) ?_;have q:decide (((k:Nat):Int)<0)=false:=by rw[decide_eq_false_iff_not];omega
  (repeat first|simp(disch:=try exact dis1) only[evD,Xc,Xd,Xe,idxV,q,w,znB]|with_reducible first|intro _|refine aJ ?_)
  exact⟨_,zM rfl,by rw[v];rfl⟩
theorem zxC(s:St):zw Z9 zn9 [.agg s.cells] (·=.bool (decide (s.op=1\/s.op=3))):=by
 refine fn_x zxJ rfl ?_;refine dcU zqI.eq_1 ?_;have j:=hBig;obtain⟨op,var,b,next,c,g,e,h⟩:=s;simp only;by_cases d:op=1
 ·(refine Gw5 @dT @ub @ua @uc @zmd.eq_1 ?_;intros);exact bxO (by simp[d])
 ·(refine Gw5 @dF @ub @ua @uc @zmd.eq_1 ?_;intros);exact bxO (decide_eq_decide.2 (by omega))
def zFh(l:List Sgn)(b:List Int)(c:Bool)(s:St)(v:Int):Bool :=
 (s.e.any λe=>decide (v∈zga e))||(if s.op=5 then decide (v<12)&&decide (v∈(zaJ l b s.tgt).args)else decide (s.op=9)&&c&&decide (v<12))
def zrx(l:List Sgn)(c:List Int)(d:Bool)(v:Int)(s:St)(b:Bool):Bool:=(if (s.op=1\/s.op=3)/\s.var=v then false else b)||zFh l c d s v
def befV(l:List Sgn)(c:List Int)(d:Bool)(v:Int)(e:List St)(b:Bool):Bool:=e.foldr (zrx l c d v) b
def outV(g:G)(o:List Bool)(b:Nat):Bool:=(edgB g b).any λt=>o.getD t false
def zhU(g:G)(l:List Sgn)(c:List Int)(d:Bool)(v:Int)(o:List Bool)(b:Nat):Bool:=befV l c d v (blkG g b).stmts (outV g o b)
theorem zxX:∀{l:List Ex}{e:Ex},e∈l->zbn e<=zZ l
 |[],e,h=>by cases h
 |
  x::l,e,h=>by
  rw[zZ];rcases WI.1 h with rfl|h
  .omega
  .have:=zxX h;omega
theorem zDx(s)(v)(l)(at')(n)(u:zZ s.e<=100000)(B:at'.length<=1000000)(A:l.length=at'.length):
  zw Z9 ztO [.agg s.cells,.int .i64 v,encL 3 Sgn.cells l,encL 1 cW at',.bool n] (·=.bool (zFh l at' n s v)):=by
 refine fn_x zDM rfl ?_;refine dcU zvh.eq_1 ?_;have C:=hBig;have d:=zzV l at' s B A;generalize b:zFh l at' n s v=R;unfold zFh at b;obtain⟨op,var,m,next,p,o,e,y⟩:=s;simp only at u b d;simp only[Xb]at d⊢;refine Gw2 @ub @ua ?_;intros;refine zc (λk:Nat=>([(1,.int .i64 v),(2,encL 3 Sgn.cells l),(3,encL 1 cW at'),(4,.bool n),(5,encP 8 [.int .i64 op,.int .i64 var,.int .i64 m,.int .i64 next,.int .i64 p,.int .u32 o,encL 5 encX e,za y]),(11,.int .i64 k)],[])) 0 (λk=>k<=e.length/\((e.drop k).any λx=>decide (v∈zga x))=(e.any λx=>decide (v∈zga x))) (λk=>e.length-k) 0 ⟨Wd _,rfl⟩ (Xf rfl fin5) ?_;rintro k ⟨D,g⟩ wf;clear wf;rw[<-g]at b;refine dcU zra.eq_1 ?_;by_cases h:k<e.length
 .rw[Wk h,List.any_cons]at g b;have w:=zC8 100000 e[k] (Wl (zxX (Wa h)) u) (Wv _);have j:=Dm.R24_Has_ok (zga e[k]) v
  cases hd:decide (v∈zga e[k])with
  |true=>rw[hd]at j b;rw[Wq,Wq]at b;subst b;refine Gw5 @dT @ub (gmp h) @zam @zab ?_;intros;refine zg (ze w (flX rfl)) ?_;refine Gw0 ?_;intros;refine zg (ze j rfl) ?_;refine Gw1 @zfq.eq_1 ?_;intros;exact bzO
  |false=>rw[hd]at j g b;rw[Wm]at g b;refine Gw5 @dT @ub (gmp h) @zam @zab ?_;intros;refine zg (ze w (flX rfl)) ?_;refine Gw0 ?_;intros;refine zg (ze j rfl) ?_;refine Gw0 ?_;intros;exact⟨k+1,⟨h,g⟩,by omega,Xf rfl fin5⟩
 .rw[Wt (by omega),List.any_nil,Wm]at b;refine Qi ?_;intros;refine dcU zqD.eq_1 ?_;by_cases q:op=5
  .rw[if_pos q]at b;have j:=Dm.R24_Has_ok (zaJ l at' o).args v;by_cases c:v<12
   .rw[decide_eq_true c,Wr]at b;rw[b]at j;refine Gw4 @dT @ub @zC @ua ?_;intros;refine zg (ze d rfl) ?_;refine Gw2 @Sgn.cells.eq_1 @ub ?_;intros;refine zg (ze j rfl) ?_;refine Gw1 @zfq.eq_1 ?_;intros;exact bzO
   .rw[decide_eq_false c,Wz]at b;subst b;refine Gw4 @dT @dF @ub @zfq.eq_1 ?_;intros;exact bzO
  .rw[if_neg q]at b;by_cases t:op=9
   .rw[decide_eq_true t,Wr]at b
    cases n with
    |true=>
     rw[Wr]at b;by_cases c:v<12
     .rw[decide_eq_true c]at b;subst b;refine Gw4 @dT @dF @ub @zfq.eq_1 ?_;intros;exact bzO
     .rw[decide_eq_false c]at b;subst b;refine Gw4 @dT @dF @ub @zfq.eq_1 ?_;intros;exact bzO
    |false=>rw[Wz]at b;subst b;refine Gw4 @dT @dF @ub @zfq.eq_1 ?_;intros;exact bzO
   .rw[decide_eq_false t,Wz,Wz]at b;subst b;refine Gw3 @dF @ub @zfq.eq_1 ?_;intros;exact bzO
theorem zFt{α β:Type}{f:α->β->β}{l:List α}{m:Nat}(h:m<l.length)(b):(l.take (m+1)).foldr f b=(l.take m).foldr f (f l[m] b):=by rw[List.take_succ_eq_append_getElem h,List.foldr_append];rfl
theorem zsc(n)(v)(b)(l)(j)(o)(X:∀s∈n,zZ s.e<=100000)(Z:n.length<=1000000)(W:j.length<=1000000)(T:l.length=j.length):
  zw Z9 zlW [encL 8 Xb n,.int .i64 v,.bool b,encL 3 Sgn.cells l,encL 1 cW j,.bool o] (·=.bool (befV l j o v n b)):=by
 refine fn_x zzq rfl ?_;unfold zst befV;conv in Z8 _ _=>reduce
 have Y:=hBig;generalize S:n.foldr (zrx l j o v) b=R;refine Gw0 ?_;intros;refine zc (λs:Nat×Bool=>([(0,encL 8 Xb n),(1,.int .i64 v),(2,.bool s.2),(3,encL 3 Sgn.cells l),(4,encL 1 cW j),(5,.bool o),(13,.int .i64 ((s.1:Int)-1))],[])) 0 (λs=>s.1<=n.length/\(n.take s.1).foldr (zrx l j o v) s.2=R) (λs=>s.1) (n.length,b) ⟨Wv _,by simpa using S⟩ (Xf rfl fin5) ?_;rintro⟨k,c⟩ ⟨V,g⟩ wf;simp only at V g;clear wf;refine dcU zob.eq_1 ?_
 cases k with
 |zero=>rw[Wg,List.foldr_nil]at g;subst g;refine Qa ?_;intros;refine dcU zoB.eq_1 ?_;refine Gw1 @zsT.eq_1 ?_;intros;exact bzO
 |succ m=>
  have t:m<n.length:=by omega
  rw[zFt t]at g;have O:((((m+1:Nat):Int))-1)=(m:Int):=by omega
  have q:(n.map Xb).getD m []=n[m].cells:=zk (f:=Xb) (d:=[]) t;have A:=zDx n[m] v l j o (X _ (Wa t)) W T;have has:=zxC n[m];unfold zrx at g;generalize n[m]=s at q A has g;obtain⟨op,var,w,next,J,M,e,N⟩:=s;simp only[Xb]at q A has g;simp only[O];generalize zFh l j o ⟨op,var,w,next,J,M,e,N⟩ v=U at A g;have y:((m:Nat):Int).toNat=m:=WU m;have B:IntKind.i64.wrap ((m:Int)-1)=(m:Int)-1:=zBm (by omega) (by omega)
  have p:∀(K:Kn)(H:AH)(L:Nat)(u:Bool),(n.take m).foldr (zrx l j o v) u=R->Ent 0 K H L [(0,encL 8 Xb n),(1,.int .i64 v),(2,.bool u),(3,encL 3 Sgn.cells l),(4,encL 1 cW j),(5,.bool o),(13,.int .i64 ((m:Int)-1))] [] 0 ->
    ∃x:Nat×Bool,(x.1<=n.length/\(n.take x.1).foldr (zrx l j o v) x.2=R)/\x.1<m+1/\Ent 0 K H L [(0,encL 8 Xb n),(1,.int .i64 v),(2,.bool x.2),(3,encL 3 Sgn.cells l),(4,encL 1 cW j),(5,.bool o),(13,.int .i64 ((x.1:Int)-1))] [] 0:=λK H L u P Q=>⟨(m,u),⟨by simp only;omega,P⟩,by simp only;omega,Q⟩
  have I:decide ((0:Int)<=(m:Int))=true:=by rw[decide_eq_true_eq];omega
  refine Gw5 I @ub @zC q y ?_;intros;refine zg (ze has rfl) ?_;by_cases D:op=1\/op=3
  case' pos=>
   rw[decide_eq_true D];by_cases F:var=v
   case' pos=>rw[if_pos ⟨D,F⟩,Wm]at g;have C:decide (var=v)=true:=decide_eq_true F;refine Gw5 C @ub @zC q y ?_;intros;refine zg (ze A rfl) ?_;refine Gw1 B ?_;intros;exact p _ _ _ U g (Xf rfl fin5)
   case' neg=>
    rw[if_neg (λh=>F h.2)]at g;have C:decide (var=v)=false:=decide_eq_false F;cases c
    case' true=>refine Gw6 C @ub @zC q y B ?_;intros;exact p _ _ _ true (by rw[Wq]at g;exact g) (Xf rfl fin5)
    case' false=>rw[Wm]at g;refine Gw5 C @ub @zC q y ?_;intros;refine zg (ze A rfl) ?_;refine Gw1 B ?_;intros;exact p _ _ _ U g (Xf rfl fin5)
  case' neg=>
   rw[decide_eq_false D];rw[if_neg (λh=>D h.1)]at g;cases c
   case' true=>refine Gw5 @ub @zC q y B ?_;intros;exact p _ _ _ true (by rw[Wq]at g;exact g) (Xf rfl fin5)
   case' false=>rw[Wm]at g;refine Gw4 @ub @zC q y ?_;intros;refine zg (ze A rfl) ?_;refine Gw1 B ?_;intros;exact p _ _ _ U g (Xf rfl fin5)
theorem zyY(g)(d:fewC g)(e:OkG g)(b)(c:b<g.blocks.length):zw Z9 znn [.agg g.cells,.int .i64 b] (·=zo (edgB g b)):=by have h:=Dm.R24_Edges_ok g.toG (zyt d) b (by simp[G.toG];exact c);rw[G.toG_cells,zKF e c]at h;exact h
theorem zu6{g}(d:fewC g){b}(c:b<g.blocks.length):(edgB g b).length<=8:=by unfold edgB;rw[Wx,zaR c];exact zoX (by decide) (d.cases _ (Wa c))
theorem ud:type_of% @Int.toNat_natCast:=@Int.toNat_natCast
theorem zqY(g)(u:fewC g)(v:OkG g)(b)(p:b<g.blocks.length)(o)(x:o.length=g.blocks.length):zw Z9 zj5 [.agg g.cells,.int .i64 b,ziI o] (·=.bool (outV g o b)):=by
 refine fn_x zxK rfl ?_;unfold zqF outV;conv in Z8 _ _=>reduce
 have B:=hBig;have e:=zyY g u v b p;have h:=zrq v p;have s:=zu6 u p;have q:=u.blocks;generalize edgB g b=E at e h s;generalize w:E.any (λt=>o.getD t false)=R;obtain⟨y,A⟩:=g;simp only[G.cells]at e x h q⊢;refine Gw2 @ub @zC ?_;intros;refine zg (ze e rfl) ?_;refine Gw0 ?_;intros;refine zc (λk:Nat=>([(2,ziI o),(7,zo E),(8,.int .i64 k)],[])) 0 (λk=>k<=E.length/\((E.drop k).any λt=>o.getD t false)=R) (λk=>E.length-k) 0 ⟨Wd _,w⟩ (Xf rfl fin5) ?_;rintro k ⟨D,c⟩ wf;clear wf;refine dcU znf.eq_1 ?_;by_cases d:k<E.length
 .rw[Wk d,List.any_cons]at c;have ge:(E.map λ(n:Nat)=>[AV.int .i64 (n:Int)]).getD k []=[.int .i64 (E[k]:Int)]:=zk (f:=λ(n:Nat)=>[AV.int .i64 (n:Int)]) d;have C:=h _ (Wa d);have j:E[k]<o.length:=by omega
  have go:(o.map λb=>[AV.bool b]).getD E[k] []=[.bool (o.getD E[k] false)]:=by rw[zk (f:=λb=>[AV.bool b]) j];simp[Wc,j]
  cases m:o.getD E[k] false with
  |true=>rw[m,Wq]at c;subst c;refine Gw8 @dT @ziI.eq_1 @ug ge go m @ud @zmg.eq_1 ?_;intros;exact bzO
  |false=>rw[m,Wm]at c;refine Gw7 @dT @ziI.eq_1 @ug ge go m @ud ?_;intros;exact⟨k+1,⟨d,c⟩,by omega,(Xa [] [] rfl (Gin2_2 @ziI.eq_1 @ug) (Gin2_2 @ziI.eq_1 @ug))⟩
 .rw[Wt (by omega),List.any_nil]at c;subst c;refine Gw2 @dF @ug ?_;intros;unfold zm9;refine Gw1 @zmg.eq_1 ?_;intros;exact bzO
def cBl(b:Bool):List AV:=[.bool b]
theorem zzh(g)(I:fewC g)(S:OkG g)(v)(l)(d)(t)(T:d.length<=1000000)(Q:l.length=d.length):
  zw Z9 zpr [.agg g.cells,.int .i64 v,encL 3 Sgn.cells l,encL 1 cW d,.bool t] (·=ziI (zhi g.blocks.length (zhU g l d t v))):=by
 refine fn_x zzf rfl ?_;unfold zsx zhi;conv in Z8 _ _=>reduce
 have hB:=hBig;have n:=λb q o A=>zqY g I S b q o A
 have w:=λb (q:b<g.blocks.length) u=>zsc g.blocks[b].stmts v u l d t (λs X=>Wl (I.size _ (Wa q) s X) (by decide)) (Wl (I.stmts _ (Wa q)) (by decide)) T Q
 have H:∀o b (q:b<g.blocks.length),zhU g l d t v o b=befV l d t v g.blocks[b].stmts (outV g o b):=λo b q=>by unfold zhU;rw[zaR q]
 have U:=I.blocks;generalize zhU g l d t v=F at H⊢;generalize L:zqm F (Ws g.blocks.length) (g.blocks.length+1) (Wj g.blocks.length false)=R;generalize hO:outV g=O at n H;obtain⟨J,c⟩:=g;simp only[G.cells]at n w H U L⊢;have B:Wj c.length [AV.bool false]=(Wj c.length false).map cBl:=by rw[List.map_replicate];rfl
 have P:((c.length:Nat):Int).toNat=c.length:=WU _;refine Gw3 @ub P B ?_;intros
 refine zc (λs:Nat×List Bool=>([(1,.int .i64 v),(2,encL 3 Sgn.cells l),(3,encL 1 cW d),(4,.bool t),(5,encP 2 [.int .u32 J,encL 2 Xg c]),(11,.own 0 0 0 0 c.length),(12,.int .i64 s.1)],[(0,.row 1 (s.2.map cBl) 0)])) 1
  (λs=>s.1<=c.length+1/\s.2.length=c.length/\zqm F (Ws c.length) (c.length+1-s.1) s.2=R) (λs=>c.length+1-s.1) (0,Wj c.length false) ⟨Wd _,by simp,L⟩ (Xa [(0,1,0)] [] rfl Qn Qn) ?_
 rintro⟨r,o⟩ ⟨V,A,k⟩ wf;simp only at V A k;clear wf;refine dcU zos.eq_1 ?_;by_cases W:r<=c.length;case neg=>rw[show c.length+1-r=0 by omega,zqm]at k;subst k;refine Qi ?_;intros;refine dcU zoo.eq_1 ?_;refine Gw1 @zsf.eq_1 ?_;intros;rw[<-A];exact⟨_,zqb trivial rfl (by omega),rfl⟩
 rw[show c.length+1-r=(c.length-r)+1 by omega,zqm]at k;refine Gw2 @dT @ub ?_;intros
 refine zc (λs:Nat×List Bool=>([(1,.int .i64 v),(2,encL 3 Sgn.cells l),(3,encL 1 cW d),(4,.bool t),(5,encP 2 [.int .u32 J,encL 2 Xg c]),(11,.own 0 0 0 0 c.length),(12,.int .i64 r),(13,.int .i64 s.1)],[(0,.row 1 (s.2.map cBl) 0)])) 1
  (λs=>s.1<=c.length/\s.2.length=c.length/\zqm F (Ws c.length) (c.length-r) (((Ws c.length).drop s.1).foldl (zlr F) s.2)=R) (λs=>c.length-s.1) (0,o) ⟨Wd _,A,k⟩ (Xa [(0,0,0)] [] rfl Qn Qn) ?_
 rintro⟨b,p⟩ ⟨q,m,e⟩ wf;simp only at q m e;clear wf;refine dcU zom.eq_1 ?_;by_cases h:b<c.length;case neg=>rw[Wt (by simp;omega),List.foldl_nil]at e;refine Qi ?_;intros;refine dcU zoD.eq_1 ?_;refine Gw0 ?_;intros;exact⟨(r+1,p),⟨by simp only;omega,m,by simp only;rw[show c.length+1-(r+1)=c.length-r by omega];exact e⟩,by simp only;omega,(Xa [(0,0,0)] [] rfl Qn Qn)⟩
 rw[Wk (by simpa using h),List.foldl_cons,List.getElem_range]at e;have j:(c.map Xg).getD b []=Xg c[b]:=zk h;have K:=n b h p m;have y:=w b h (O p b);rw[<-H p b h]at y;have x:(p.map cBl).set b [.bool (F p b)]=(zlr F p b).map cBl:=by unfold zlr;rw[List.map_set];rfl
 have C:(zlr F p b).length=c.length:=by rw[zvF,m]
 generalize zlr F p b=Y at x e C;generalize F p b=Z at y x;generalize O p b=ob at K y;generalize c[b]=M at j y;obtain⟨bad,N⟩:=M;simp only[Xg]at j y;refine Gw5 @dT @ub @zC j @ud ?_;intros;refine zF (zaH (D:=λr _=>r=0) K (.cons (zM rfl) (.cons (.int _ _ _) (.cons (m▸zqb rfl rfl (by omega)) .nil))) (.inl rfl)) ?_;refine Gw4 @ub @zC j @ud ?_;intros;refine zF (ze y rfl) ?_;refine Gw5 @ub @zC j @ud x ?_;intros;exact⟨(b+1,Y),⟨h,C,e⟩,by simp only;omega,(Xa [(0,0,0)] [] rfl Qn Qn)⟩
structure Kw where
 st:Int
 base:Int
 n:Int
deriving DecidableEq
def Kw.cells(k:Kw):List AV:=[.int .i64 k.st,.int .i64 k.base,.int .u32 k.n]
def Kw.z:Kw:=⟨0,0,0⟩
def Kw.no:Kw:=⟨2,0,0⟩
def encR(b:List Kw):List AV:=b.flatMap Kw.cells
theorem zcI:∀b:List Kw,(encR b).length=3*b.length
 |[]=>rfl
 |
  r::b=>by
  have:=zcI b;unfold encR at this⊢;rw[WR,Wh,Wf,this];simp only[Kw.cells,Wf,We];omega
theorem zh9(r)(rs):encR (r::rs)=.int .i64 r.st::.int .i64 r.base::.int .u32 r.n::encR rs:=rfl
theorem zvN:∀{b:List Kw}{k:Nat},(encR b).drop (k*3)=encR (b.drop k)
 |[],k=>by simp[encR]
 |r::b,0=>rfl
 |
  r::b,k+1=>by
  rw[zh9,show(k+1)*3=k*3+1+1+1 by omega];simp only[List.drop_succ_cons];exact zvN
theorem zA4:∀{b:List Kw}{k:Nat},(encR b).take (k*3)=encR (b.take k)
 |[],k=>by simp[encR]
 |r::b,0=>rfl
 |
  r::b,k+1=>by
  rw[zh9,show(k+1)*3=k*3+1+1+1 by omega];simp only[List.take_succ_cons,zh9];rw[zA4]
theorem zCy(a b):encR (a++b)=encR a++encR b:=WQ
theorem zCx{rs}{k}(h:k<rs.length):(encR rs).drop (k*3)=.int .i64 (rs.getD k Kw.z).st::.int .i64 (rs.getD k Kw.z).base::.int .u32 (rs.getD k Kw.z).n::encR (rs.drop (k+1)):=by rw[zvN,Wk h,zh9];simp[Wc,h]
theorem zpV{rs}{k}(h:k<rs.length):sub (encR rs) (k*3) 3=(rs.getD k Kw.z).cells:=by unfold sub;rw[zCx h];rfl
theorem zsY{rs}{k j}(h:k<rs.length)(b:j<3):(encR rs).getD (k*3+j) .undef=(rs.getD k Kw.z).cells.getD j .undef:=by
 have e:(encR rs).getD (k*3+j) .undef=((encR rs).drop (k*3)).getD j .undef:=by simp only[Wc,List.getElem?_drop]
 rw[e,zCx h]
 match j,b with
 |0,_=>rfl
 |1,_=>rfl
 |2,_=>rfl
theorem zit{rs}{k}(h:k<rs.length)(c):splice (encR rs) (k*3) c.cells=encR (rs.set k c):=by unfold splice;rw[show k*3+c.cells.length=(k+1)*3 by simp only[Kw.cells,Wf,We];omega,zA4,zvN,List.set_eq_take_append_cons_drop,if_pos h,zCy,zh9];simp[Kw.cells]
theorem zAF{rs}{k}(h:k<rs.length)(n):splice (encR rs) (k*3+2) [.int .u32 n]=encR (rs.set k { rs.getD k Kw.z with n:=n }):=by
 have c:=zit h { rs.getD k Kw.z with n:=n };rw[<-c];unfold splice;simp only[Wf,We,Kw.cells];have b:(encR rs).take (k*3+2)=(encR rs).take (k*3)++[.int .i64 (rs.getD k Kw.z).st,.int .i64 (rs.getD k Kw.z).base]:=by rw[List.take_add,zCx h];rfl
 rw[b];simp
theorem zh:∀b:List Kw,zR (encR b)=true
 |[]=>rfl
 |r::b=>by rw[zh9];simp only[zR,AV.flat0,Wr];exact zh b
theorem zsV:∀b:List Kw,(encR b).all AV.flat0=true
 |[]=>rfl
 |r::b=>by rw[zh9];simp only[List.all_cons,AV.flat0,Wr];exact zsV b
theorem ziO{len c r q g j f}{kk}{k}{H}{b}:xopR (.aaddr len c) [.ptr r q g j f,.int kk k] H b=⟨0<=k/\k<len,True,.ptr r q g j (f+k.toNat*c),H,b⟩:=rfl
theorem vw_R{H H2}{σ}{D}{t}{rs}:Vw H H2 σ D t (.agg (encR rs)) (.agg (encR rs)):=zM (by simp only[AV.flat,zsV])
def zmk(f:Nat->Kw->Kw)(l:List Nat)(b:List Kw):List Kw:=l.foldl (λb k=>b.set k (f k (b.getD k Kw.z))) b
theorem zpH{f}:∀{l:List Nat}{b:List Kw},(zmk f l b).length=b.length
 |[],b=>rfl
 |
  k::l,b=>by
  show(zmk f l (b.set k _)).length=_;rw[zpH,WJ]
abbrev R8:List Nat:=[0,1,2,3,4,5,6,7]
theorem zs0{f}{k}(h:k<8){rs}:zmk f (R8.drop k) rs=zmk f (R8.drop (k+1)) (rs.set k (f k (rs.getD k Kw.z))):=by
 match k,h with
 |0,_=>rfl
 |1,_=>rfl
 |2,_=>rfl
 |3,_=>rfl
 |4,_=>rfl
 |5,_=>rfl
 |6,_=>rfl
 |7,_=>rfl
def z8:List Kw:=Wj 8 Kw.z
def ownR:List Kw:=[⟨1,0,0⟩,⟨1,1,0⟩,⟨1,2,0⟩,⟨1,3,0⟩,⟨1,4,0⟩,⟨1,5,0⟩,⟨1,6,0⟩,⟨1,7,0⟩]
theorem zMD:zmk (λk _=>⟨1,(k:Int),0⟩) R8 z8=ownR:=rfl
def zxR(a b:Kw):Kw:=if a.st=0 then b else if b.st≠0/\a≠b then Kw.no else a
def zxl(r o:List Kw):List Kw:=zmk (λk a=>zxR a (o.getD k Kw.z)) R8 r
def ret1(s:Sgn)(k:Nat)(a:Kw):Kw:=if (k:Int)∈s.sav then(if k=7/\a.st=1 then { a with n:=IntKind.u32.wrap (a.n+4) }else a)else if (k:Int)∈s.res then Kw.no else a
def retR(s:Sgn)(r:List Kw):List Kw:=zmk (ret1 s) R8 r
theorem eqsK{a b:Kw}:z6 [0,0,0] a.cells b.cells=some (decide (a=b)):=by obtain⟨c,d,a3⟩:=a;obtain⟨b1,b2,e⟩:=b;simp only[Kw.cells,z6,if_true,WH,Bool.and_true];congr 1;rw[Bool.eq_iff_iff];simp
theorem zzy{b:List Kw}{k:Nat}(h:k<b.length):b.set k (b.getD k Kw.z)=b:=by
 have:b.getD k Kw.z=b[k]:=by simp[Wc,h]
 rw[this];exact WV h
def opAt1:List Ex->Int
 |[_,.mk o _ _ _ _]=>o
 |_=>0
def nAt1:List Ex->Int
 |[_,.mk _ n _ _ _]=>n
 |_=>0
def addK(op m:Int)(x:Kw):Kw:=if x.st=1 then { x with n:=IntKind.u32.wrap (if op=3 then x.n+m else x.n-m) }else x
mutual
def zsn(b:List Kw):Ex->Kw
 |.mk op _ v _ l=>if op=2/\0<=v/\v<8 then b.getD v.toNat Kw.z else if (op=3\/op=4)/\opAt1 l=1 then addK op (nAt1 l) (zpG b l)else Kw.no
def zpG(b:List Kw):List Ex->Kw
 |[]=>Kw.no
 |e::_=>zsn b e
end
structure OkS(s:St):Prop where
 asg:s.op=1->s.e.length≠0
 var:s.op=1\/s.op=3->0<=s.var
 form:∀e∈s.e,zg7 e=true
 size:zZ s.e<=100000
def thr1(l:List Sgn)(c:List Int)(b:List Kw)(s:St):List Kw :=
 if s.op=1 then(if s.var<8 then b.set s.var.toNat (zpG b s.e)else b)else if s.op=3 then(if s.var<8 then b.set s.var.toNat Kw.no else b)else if s.op=5 then retR (zaJ l c s.tgt) b else b
def thrR(l:List Sgn)(b:List Int)(d:List St)(c:List Kw):List Kw:=d.foldl (thr1 l b) c
theorem zKB{s}{rs}:(retR s rs).length=rs.length:=zpH
theorem zDY:∀{a b:List Kw},a.length=b.length->z6 (Wj (3*a.length) 0) (encR a) (encR b)=some (decide (a=b))
 |[],[],_=>rfl
 |[],_::_,h=>by cases h
 |_::_,[],h=>by cases h
 |
  x::a,y::b,h=>by
  have c:=zDY (a:=a) (b:=b) (by simpa using h);rw[Wf,show 3*(a.length+1)=3*a.length+1+1+1 by omega,WK,WK,WK,zh9,zh9];simp only[z6,if_true,c,WH];congr 1;obtain⟨d,e,g⟩:=x;obtain⟨j,k,m⟩:=y;rw[Bool.eq_iff_iff];simp only[WL,decide_eq_true_eq,List.cons.injEq,Kw.mk.injEq,and_assoc]
theorem eqs24{a b}(c:a.length=8)(d:b.length=8):z6 [0,0,0,0,0,0,0,0,0,0,0,0,0,0,0,0,0,0,0,0,0,0,0,0] (encR a) (encR b)=some (decide (a=b)):=by have h:=zDY (a:=a) (b:=b) (by omega);rw[c]at h;exact h
def zuR(x:List Kw)(p:List (List Kw)×Bool)(e:Nat):List (List Kw)×Bool:=(p.1.set e (zxl (p.1.getD e z8) x),p.2||decide (zxl (p.1.getD e z8) x≠p.1.getD e z8))
def zIc(g:G)(l:List Sgn)(c:List Int)(o:List (List Kw))(b:Nat):List Kw:=thrR l c (blkG g b).stmts (o.getD b z8)
def zzE(g:G)(l:List Sgn)(c:List Int)(p:List (List Kw)×Bool)(b:Nat):List (List Kw)×Bool:=(edgB g b).foldl (zuR (zIc g l c p.1 b)) p
def zqn(g:G)(l:List Sgn)(b:List Int)(c:List Nat)(o:List (List Kw)):List (List Kw)×Bool:=c.foldl (zzE g l b) (o,false)
def zxz(g:G)(l:List Sgn)(b:List Int)(c:List Nat):Nat->List (List Kw)->List (List Kw)
 |0,o=>o
 |n+1,o=>if (zqn g l b c o).2 then zxz g l b c n (zqn g l b c o).1 else(zqn g l b c o).1
def CanK(k:Kw):Prop:=k=Kw.z\/k.st=1\/k=Kw.no
def CanR(r:List Kw):Prop:=r.length=8/\∀k∈r,CanK k
def muK(k:Kw):Nat:=2-k.st.toNat
def muR8(r:List Kw):Nat:=(r.map muK).sum
def muO(o:List (List Kw)):Nat:=(o.map muR8).sum
theorem zDD{α:Type}{f:α->Nat}:∀{l:List α}{i:Nat}{a d:α},i<l.length->((l.set i a).map f).sum+f (l.getD i d)=(l.map f).sum+f a
 |[],i,a,d,h=>by cases h
 |x::l,0,a,d,_=>by simp only[List.set_cons_zero,Wy,List.sum_cons,List.getD_cons_zero];omega
 |
  x::l,i+1,a,d,h=>by
  have b:=zDD (f:=f) (l:=l) (i:=i) (a:=a) (d:=d) (by simpa using h);simp only[List.set_cons_succ,Wy,List.sum_cons,List.getD_cons_succ];omega
theorem zLm:CanR z8:=⟨rfl,λk b=>.inl (WW b)⟩
theorem zMn:CanR ownR:=⟨rfl,λk b=>.inr (.inl (by
 simp only[ownR,WI,WX,or_false]at b
 rcases b with rfl|rfl|rfl|rfl|rfl|rfl|rfl|rfl<;>rfl))⟩
theorem zn3{r}(h:CanR r)(k):CanK (r.getD k Kw.z):=by
 by_cases b:k<r.length
 .have:r.getD k Kw.z=r[k]:=by simp[Wc,b]
  rw[this];exact h.2 _ (Wa b)
 .have:r.getD k Kw.z=Kw.z:=by simp[Wc,b]
  rw[this];exact .inl rfl
theorem zzd{r}(h:CanR r){k}{c}(d:CanK c):CanR (r.set k c):=⟨by rw[WJ];exact h.1,λx b=>by
 rcases WY b with b|rfl
 .exact h.2 x b
 .exact d⟩
theorem zvH{f}(b:∀k a,CanK a->CanK (f k a)):∀{l:List Nat}{r:List Kw},CanR r->CanR (zmk f l r)
 |[],r,h=>h
 |k::l,r,h=>zvH b (l:=l) (zzd h (b k _ (zn3 h k)))
theorem zAZ{a b}(c:CanK a)(d:CanK b):CanK (zxR a b):=by
 unfold zxR;split
 .exact d
 .split
  .exact .inr (.inr rfl)
  .exact c
theorem zAO{r o}(h:CanR r)(c:CanR o):CanR (zxl r o):=zvH (λk a b=>zAZ b (zn3 c k)) h
theorem zI8{s}{k}{a}(h:CanK a):CanK (ret1 s k a):=by
 unfold ret1;split
 .split
  .rename_i b;exact .inr (.inl b.2)
  .exact h
 .split
  .exact .inr (.inr rfl)
  .exact h
theorem zKg{s}{r}(h:CanR r):CanR (retR s r):=zvH (λk a b=>zI8 b) h
mutual
theorem zyw{b:List Kw}(h:CanR b):∀e:Ex,CanK (zsn b e)
 |
  .mk op n v w l=>by
  rw[zsn];split
  .exact zn3 h _
  .split
   .unfold addK;split
    .rename_i c;exact .inr (.inl c)
    .exact zvs h l
   .exact .inr (.inr rfl)
theorem zvs{b:List Kw}(h:CanR b):∀l:List Ex,CanK (zpG b l)
 |[]=>by rw[zpG];exact .inr (.inr rfl)
 |e::_=>by rw[zpG];exact zyw h e
end
theorem zzb{l}{at'}{rs}(h:CanR rs)(s):CanR (thr1 l at' rs s):=by
 unfold thr1;split
 .split
  .exact zzd h (zvs h _)
  .exact h
 .split
  .split
   .exact zzd h (.inr (.inr rfl))
   .exact h
  .split
   .exact zKg h
   .exact h
theorem zzB{l}{at'}:∀{ss:List St}{b:List Kw},CanR b->CanR (thrR l at' ss b)
 |[],b,h=>h
 |s::ss,b,h=>zzB (ss:=ss) (zzb h s)
theorem zJP{a b}(e:CanK a)(h:CanK b):zxR a b=a\/muK (zxR a b)<muK a:=by
 unfold zxR;by_cases c:a.st=0
 .rw[if_pos c];rcases e with rfl|d|rfl
  .rcases h with rfl|d|rfl
   .exact .inl rfl
   .right;unfold muK;rw[d];decide
   .right;decide
  .omega
  .exact absurd c (by decide)
 .rw[if_neg c];split
  .rename_i d;rcases e with rfl|g|rfl
   .exact absurd rfl c
   .right;unfold muK;rw[g];decide
   .exact .inl rfl
  .exact .inl rfl
theorem zE2{f}(g:∀k a,CanK a->CanK (f k a))(m:∀k a,CanK a->f k a=a\/muK (f k a)<muK a):∀{l:List Nat}{r:List Kw},(∀k∈l,k<8)->CanR r->zmk f l r=r\/muR8 (zmk f l r)<muR8 r
 |[],r,_,h=>.inl rfl
 |
  k::l,r,hl,h=>by
  have j:k<r.length:=by rw[h.1];exact hl k (by simp)
  have b:=zE2 g m (l:=l) (r:=r.set k (f k (r.getD k Kw.z))) (λx o=>hl x (by simp[o])) (zzd h (g k _ (zn3 h k)));show zmk f l (r.set k (f k (r.getD k Kw.z)))=r\/muR8 (zmk f l (r.set k (f k (r.getD k Kw.z))))<muR8 r;rcases m k _ (zn3 h k)with c|c
  .rw[c,zzy j]at b⊢;exact b
  .have n:muR8 (r.set k (f k (r.getD k Kw.z)))<muR8 r:=by have:=zDD (f:=muK) (l:=r) (i:=k) (a:=f k (r.getD k Kw.z)) (d:=Kw.z) j;unfold muR8;omega
   rcases b with e|e
   .right;rw[e];exact n
   .right;omega
theorem zKq{r o}(h:CanR r)(c:CanR o):zxl r o=r\/muR8 (zxl r o)<muR8 r :=
 zE2 (λk a b=>zAZ b (zn3 c k)) (λk a b=>zJP b (zn3 c k)) (λk d=>by simp only[R8,WI,WX,or_false]at d;omega) h
def CanO(n:Nat)(o:List (List Kw)):Prop:=o.length=n/\∀r∈o,CanR r
theorem zrY{n}{o}(h:CanO n o)(b):CanR (o.getD b z8):=by
 by_cases c:b<o.length
 .have:o.getD b z8=o[b]:=by simp[Wc,c]
  rw[this];exact h.2 _ (Wa c)
 .have:o.getD b z8=z8:=by simp[Wc,c]
  rw[this];exact zLm
theorem zEW{n}{o}(h:CanO n o){b}{r}(d:CanR r):CanO n (o.set b r):=⟨by rw[WJ];exact h.1,λx c=>by
 rcases WY c with c|rfl
 .exact h.2 x c
 .exact d⟩
theorem zHb{o:List (List Kw)}{b:Nat}(h:b<o.length):o.set b (o.getD b z8)=o:=by
 have:o.getD b z8=o[b]:=by simp[Wc,h]
 rw[this];exact WV h
theorem zEk{n}{x}{p}{e}(k:CanR x)(b:CanO n p.1)(m:e<n):CanO n (zuR x p e).1/\((zuR x p e).1=p.1/\(zuR x p e).2=p.2\/muO (zuR x p e).1<muO p.1/\(zuR x p e).2=true):=by
 have g:=zrY b e;have j:e<p.1.length:=by rw[b.1];exact m
 refine⟨zEW b (zAO g k),?_⟩;unfold zuR;simp only;by_cases h:zxl (p.1.getD e z8) x=p.1.getD e z8
 .left;rw[h,zHb j];simp
 .right;rcases zKq g k with c|c
  .exact absurd c h
  .refine⟨?_,by rw[decide_eq_true h,Bool.or_true]⟩;have:=zDD (f:=muR8) (l:=p.1) (i:=e) (a:=zxl (p.1.getD e z8) x) (d:=z8) j;unfold muO;omega
theorem zzA{α:Type}{n:Nat}{f:List (List Kw)×Bool->α->List (List Kw)×Bool}{P:α->Prop}(j:∀p a,P a->CanO n p.1->CanO n (f p a).1/\((f p a).1=p.1/\(f p a).2=p.2\/muO (f p a).1<muO p.1/\(f p a).2=true)):
  ∀ {l:List α}{p:List (List Kw)×Bool},(∀a∈l,P a)->CanO n p.1->CanO n (l.foldl f p).1/\((l.foldl f p).1=p.1/\(l.foldl f p).2=p.2\/muO (l.foldl f p).1<muO p.1/\(l.foldl f p).2=true)
 |[],p,_,h=>⟨h,.inl ⟨rfl,rfl⟩⟩
 |
  a::l,p,hl,h=>by
  obtain⟨k,m⟩:=j p a (hl a (by simp)) h;obtain⟨o,b⟩:=zzA j (l:=l) (p:=f p a) (λx q=>hl x (by simp[q])) k;rw[List.foldl_cons];refine⟨o,?_⟩;rcases m with ⟨c,d⟩|⟨c,d⟩
  .rw[c,d]at b;exact b
  .right;rcases b with ⟨g,e⟩|⟨g,e⟩
   .rw[g,e];exact⟨c,d⟩
   .exact⟨by omega,e⟩
theorem zEn{g}(j:OkG g){l}{at'}{p}{b}(d:b<g.blocks.length)(c:CanO g.blocks.length p.1):
  CanO g.blocks.length (zzE g l at' p b).1/\((zzE g l at' p b).1=p.1/\(zzE g l at' p b).2=p.2\/muO (zzE g l at' p b).1<muO p.1/\(zzE g l at' p b).2=true) :=
 zzA (P:=λe=>e<g.blocks.length) (λp e h c=>zEk (zzB (zrY (by assumption) b)) c h) (zrq j d) c
theorem zE1{g}(h:OkG g){l}{at'}{c}(j:∀b∈c,b<g.blocks.length){o}(d:CanO g.blocks.length o):
  CanO g.blocks.length (zqn g l at' c o).1/\((zqn g l at' c o).1=o/\(zqn g l at' c o).2=false\/muO (zqn g l at' c o).1<muO o/\(zqn g l at' c o).2=true) :=
 zzA (P:=λb=>b<g.blocks.length) (λp b e d=>zEn h e d) j (p:=(o,false)) d
theorem zFq{g}{l}{at'}{ord}{n}{o}:zxz g l at' ord (n+1) o=if (zqn g l at' ord o).2 then zxz g l at' ord n (zqn g l at' ord o).1 else(zqn g l at' ord o).1:=rfl
def zBU(n:Nat):List (List Kw):=(Wj n z8).set 0 ownR
theorem zEO(n):CanO n (zBU n):=zEW ⟨by simp,λr b=>by rw[WW b];exact zLm⟩ zMn
def ordG(g:G):List Nat:=Dm.orderL g.toG.E
def zrI(g:G)(l:List Sgn)(b:List Int):List (List Kw):=zxz g l b (ordG g) (muO (zBU g.blocks.length)+1) (zBU g.blocks.length)
theorem getR{q:List (List Kw)}{e:Nat}(h:e<q.length):(q.map encR).getD e []=encR (q.getD e z8):=by rw[zk (f:=encR) h];simp[Wc,h]
theorem zwv(g):∀b∈ordG g,b<g.blocks.length:=λb c=>by have h:=(Dm.orderL_nd (Gr.E_ok g.toG)).lt b c;simpa [Gr.E,G.toG]using h
theorem zzj(g):(ordG g).length<=g.blocks.length:=by have h:=List.Nodup.length_le_of_subset (Dm.orderL_nd (Gr.E_ok g.toG)).nd (λb c=>List.mem_range.2 (zwv g b c));rw[List.length_range]at h;exact h
theorem zfB:∀{l:List AV}{j:Nat},zR l=true->(l.getD j .undef).flat0=true
 |[],j,_=>by simp[AV.flat0]
 |a::l,0,h=>by simp only[zR,WL]at h;exact h.1
 |
  a::l,j+1,h=>by
  simp only[zR,WL]at h;exact zfB (l:=l) (j:=j) h.2
def zIH(r:Nat):Kw:=if r=7 then⟨1,7,4⟩else⟨1,r,0⟩
def retB(g:G)(b:Nat):Bool:=match (blkG g b).stmts.getLast? with
 |some s=>decide (s.op=9)
 |none=>false
def zA7(g:G)(l:List Sgn)(c:List Int)(r b:Nat):Bool := !(retB g b&&decide ((thrR l c (blkG g b).stmts ((zrI g l c).getD b z8)).getD r Kw.z≠zIH r))
def keepsR(g:G)(l:List Sgn)(b:List Int)(r:Nat):Bool:=(ordG g).all (zA7 g l b r)
def savG(g:G)(l:List Sgn)(b:List Int):List Int:=((Ws 8).filter (keepsR g l b)).map λ(r:Nat)=>(r:Int)
theorem zFf(g)(c:OkG g)(l)(at'):CanO g.blocks.length (zrI g l at'):=by
 unfold zrI
 have key:∀(n:Nat) (o:List (List Kw)),CanO g.blocks.length o->CanO g.blocks.length (zxz g l at' (ordG g) n o):=by
  intro n
  induction n with
  |zero=>intro o h;exact h
  |succ n ih=>
   intro o h;obtain⟨b,-⟩:=zE1 c (zwv g) (l:=l) (at':=at') h;rw[zxz];split
   .exact ih _ b
   .exact b
 exact key _ _ (zEO _)
theorem get24{l:List AV}(h:l.length=24):[l.getD 0 .undef,l.getD 1 .undef,l.getD 2 .undef,l.getD 3 .undef,l.getD 4 .undef,l.getD 5 .undef,l.getD 6 .undef,l.getD 7 .undef,l.getD 8 .undef,l.getD 9 .undef,l.getD 10 .undef,l.getD 11 .undef,l.getD 12 .undef,l.getD 13 .undef,l.getD 14 .undef,l.getD 15 .undef,l.getD 16 .undef,l.getD 17 .undef,l.getD 18 .undef,l.getD 19 .undef,l.getD 20 .undef,l.getD 21 .undef,l.getD 22 .undef,l.getD 23 .undef]=l:=by
 match l,h with
 |[a0,s,t,a3,a4,a5,u,v,w,a9,b,c,d,e,g,j,k,m,n,o,p,q,a22,a23],_=>rfl
end Go.Ab
