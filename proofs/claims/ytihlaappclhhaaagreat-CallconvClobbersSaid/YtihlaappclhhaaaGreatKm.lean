/-
  Part 13 of the proof: how the calls of this program run, over values instead of memory, and what each function computes.
-/
import Derived.Test.YtihlaappclhhaaaGreatKl
set_option maxRecDepth 100000
set_option linter.unusedVariables false
set_option linter.unusedSimpArgs false
set_option linter.unnecessarySimpa false
set_option linter.unusedSectionVars false
open Go.Ab.Ent renaming tab->Xa,keep->Xg,tabB->Xo
open Go.Ab.AV renaming int->Xb,agg->Xi,flat->Xk,flat0->Xt,bool->Xv,undef->XA
open Nat renaming reduceBEq->Xc,reduceAdd->Xd,reduceLeDiff->Xh,reduceSub->Xl,reduceLT->Xm,add_assoc->Xz
open Go.Ab.St renaming cells->Xe
open Go.Ab.Bl renaming cells->Xf
open Go.DataW renaming trod->Xj,Trod->Xr
open Go.Ab.AObj renaming ren->Xn
open Go.Value renaming okWide->Xp,cells->Xu
open List renaming foldl_cons->Xq,foldl_nil->Xs,mem_append->Xw,nodup_nil->Xx,map_append->Xy,any_cons->XB,any_nil->XC,sum_cons->XD
open Go.Proofs.Tryz renaming prog->Z9
open List renaming getElem_mem→Wa,length_nil→We,length_cons→Wf,getD→Wg,getD_cons_zero→Wk,drop_eq_getElem_cons→Wl,replicate→Wm,getD_cons_succ→Wn,getElem?_eq_getElem→Wo,range→Wp,drop_of_length_le→Wq,length_append→Wr,all_cons→Wt,take_zero→Wv,length_map→Wx,all_nil→WA,length_singleton→WB,take_length→WD,length_set→WF,take_add_one→WG,map_map→WI,take_of_length_le→WK,append_nil→WL,map_cons→WM,getD_eq_getElem?_getD→WN,length_take→WP,append_assoc→WQ,take_append_drop→WR,mem_iff_getElem→WS,map_nil→WU,mem_cons→WW,map_set→WX,replicate_succ→WY,cons_append→W0,mem_singleton→W3,map_congr_left→W5,filter_append→W6,flatMap_append→W7,flatMap_cons→W8,findIdx?_eq_some_iff_getElem→Wac,take_succ_eq_append_getElem→Wad,map_replicate→Wae,getElem_range→Waf,set_getElem_self→Wag,eq_of_mem_replicate→Wah,not_mem_nil→Wai,mem_or_eq_of_mem_set→Waj
open Nat renaming zero_le→Wc,le_trans→Ws,zero_add→Ww,le_refl→WC,lt_or_ge→WH,add_zero→WO
open Bool renaming and_true→Wd,true_and→Wh,false_and→Wi,and_false→Wu,false_or→Wy,true_or→WE,and_eq_true→WZ
open Int renaming toNat_natCast→Wj,toNat→WJ
open And renaming intro→Wz
open Option renaming map_some→WV,getD_some→W9
open Array renaming getElem?_eq_none→Waa,getElem?_toList→Wab
namespace Go.Ab
open Go.RowKit Go.Proofs
mutual
theorem zo6:∀e:Ex,(zfY e).length<=zbF e
 |
  .mk op _ v _ l=>by
  have h:=zx6 (if op=2 then[v]else[]) l;rw[zfY,zbF];have:(if op=2 then[v]else([]:List Int)).length<=1:=by split<;>simp
  omega
theorem zx6:∀(a:List Int)(l:List Ex),(zkP a l).length<=a.length+zW l
 |a,[]=>by rw[zkP,zW];simp
 |
  a,x::l=>by
  have c:=zx6 (zeU a (zfY x)) l;have d:=zqh (a:=a) (b:=zfY x);have e:=zo6 x;rw[zkP,zW];omega
end
theorem zrG{l:List Ex}{i:Nat}(h:i<l.length):zW (l.drop i)=zbF l[i]+zW (l.drop (i+1)):=by rw[Wl h,zW]
theorem zCX:∀(k:Nat)(e:Ex),zbF e<=k->k<=100000->zq Z9 zqe [.agg (encX e)] (·=za (zfY e)):=by
 intro k
 induction k with
 |zero=>intro e h;obtain⟨_,_,_,_,l⟩:=e;rw[zbF]at h;omega
 |succ k U=>
 intro e Q S;obtain⟨op,L,v,w,l⟩:=e;refine fn_x zCP rfl ?_;refine dcU zwp.eq_1 ?_;have X:=hBig;rw[zbF]at Q;rw[zdw,zfY];generalize D:zkP (if op=2 then[v]else[]) l=R
 have c:∀(K:Kn)(H:AH)(M:Nat),Ent 0 K H M [(1,encP 5 [.int .i64 op,.int .u32 L,.int .i64 v,.int .i64 w,encL 5 encX l]),(3,za (if op=2 then[v]else[])),(4,.int .i64 0)] [] 0 ->
   zoT Z9 0 zmc (zdH 0 (seqQ Z9 0 zlY (retK zrx λV O x=>∃a,Frz O V a/\a=za R))) K H M:=by
  intro K H M t
  refine zd (λs:Nat×List Int=>([(1,encP 5 [.int .i64 op,.int .u32 L,.int .i64 v,.int .i64 w,encL 5 encX l]),(3,za s.2),(4,.int .i64 s.1)],[])) 0
   (λs=>s.1<=l.length/\zkP s.2 (l.drop s.1)=R/\s.2.length+zW (l.drop s.1)<=100001) (λs=>l.length-s.1) (0,if op=2 then[v]else[]) ⟨Wc _,D,?_⟩ t ?_
  .have:(if op=2 then[v]else([]:List Int)).length<=1:=by split<;>simp
   simp only[List.drop_zero];omega
  rintro⟨i,x⟩ ⟨P,g,I⟩ wf;simp only at P g I;refine dcU zmc.eq_1 ?_;by_cases o:i<l.length;case neg=>rw[Wq (by omega),zkP]at g;subst g;refine Qj ?_;intros;unfold zlY;refine Gw1 @zrx.eq_1 ?_;intros;exact⟨_,zZ rfl,rfl⟩
  have Z:=zkF (Wa o);have T:=zrG o;rw[Wl o,zkP]at g;have J:=zo6 l[i];refine Gw5 @ub @dT (gmp o) @zaG @zan ?_;intros;refine zc (zb (U l[i] (by omega) (by omega)) (flX rfl)) ?_;generalize zfY l[i]=u at g J⊢;refine Gw0 ?_;intros;have B:zeU x []=x:=rfl;refine zd (λj:Nat=>([(1,encP 5 [.int .i64 op,.int .u32 L,.int .i64 v,.int .i64 w,encL 5 encX l]),(3,za (zeU x (u.take j))),(4,.int .i64 i),(5,za u),(6,.int .i64 j)],[])) 0 (λj=>j<=u.length) (λj=>u.length-j) 0 (Wc _) (Xa [] [] rfl (by(try simp only[evWB,Xc,Xd,Xl,Xh,Xm,implies_true,za,Wv,B])<;>exact fin2) (by(try simp only[evWB,Xc,Xd,Xl,Xh,Xm,implies_true,za,Wv,B])<;>exact fin2)) ?_;rintro j Y W;refine dcU zqU.eq_1 ?_;by_cases A:j<u.length
  .have F:=zj (f:=cI) (d:=[]) A;have m:=zqh (a:=x) (b:=u.take j);rw[WP]at m;have p:=zCJ (a:=x) A;generalize zeU x (u.take j)=y at m p⊢;refine Gw3 @dT @ua F ?_;intros;refine zc (zb (zzz y u[j] (by omega)) rfl) ?_;refine Gw0 ?_;intros;exact⟨j+1,by omega,by omega,(Xa [] [] rfl (Gin2_2 @ua p) (Gin2_2 @ua p))⟩
  .rw[WK (by omega)];have m:=zqh (a:=x) (b:=u);refine Gw2 @dF @ua ?_;intros;refine dcU zrj.eq_1 ?_;refine Gw0 ?_;intros;exact⟨(i+1,zeU x u),⟨by simp only;omega,g,by simp only;omega⟩,by simp only;omega,(Xa [] [] rfl (Gin2_1 @ua) (Gin2_1 @ua))⟩
 by_cases N:op=2
 .rw[if_pos N]at c D;refine Gw2 @ub @dT ?_;intros;have q:∀ {H C:AH}{σ:Nat->Nat->Option (Nat×Nat×Nat)},H.get 1 0=some (.row 1 [[.int .i64 v]] 1)->Vw H C σ (inD [1]) true (.own 1 0 1 0 1) (encL 1 (λn=>[.int .i64 n]) [v]):=λh=>zaP (l:=[v]) rfl h (by simp[big])
  refine c _ _ _ (Xa [] [1] rfl trivial ⟨zZ rfl,q rfl,.int _ _ _,trivial⟩)
 .rw[if_neg N]at c D;refine Qj ?_;intros;have q:∀ {H C:AH}{σ:Nat->Nat->Option (Nat×Nat×Nat)},H.get 1 0=some (.row 1 [] 0)->Vw H C σ (inD [1]) true (.own 1 0 0 0 0) (encL 1 (λn=>[.int .i64 n]) []):=λh=>zaP (l:=[]) rfl h (by simp[big])
  refine c _ _ _ (Xa [] [1] rfl trivial ⟨zZ rfl,q rfl,.int _ _ _,trivial⟩)
theorem zoB(s):zq Z9 zhi [.agg s.cells] (·=za (znd s)):=by
 refine fn_x zuK rfl ?_;refine dcU zoq.eq_1 ?_;have g:=hBig;obtain⟨op,var,b,next,c,d,l,e⟩:=s;unfold znd;simp only;by_cases h:op=1\/op=3
 .rw[if_pos h];rcases h with rfl|rfl
  ·(refine Gw6 @dT @dF @ub @ua @ud @zgj.eq_1 ?_;intros);exact⟨_,zaP (l:=[var]) trivial rfl (by simp only[WB];omega),rfl⟩
  ·(refine Gw6 @dT @dF @ub @ua @ud @zgj.eq_1 ?_;intros);exact⟨_,zaP (l:=[var]) trivial rfl (by simp only[WB];omega),rfl⟩
 .rw[if_neg h];refine Gw6 @dT @dF @ub @ua @ud @zgj.eq_1 ?_;intros;exact⟨_,zaP (l:=[]) trivial rfl (by simp only[We];omega),rfl⟩
mutual
theorem zEb:∀e:Ex,(occX e).length<=zbF e
 |
  .mk op _ v _ l=>by
  have h:=zvv l;rw[occX,zbF,Wr];have:(if op=2 then[v]else([]:List Int)).length<=1:=by split<;>simp
  omega
theorem zvv:∀l:List Ex,(zd6 l).length<=zW l
 |[]=>by rw[zd6,zW];simp
 |
  x::l=>by
  have b:=zvv l;have c:=zEb x;rw[zd6,zW,Wr];omega
end
theorem zuG:∀l m:List Ex,zd6 (l++m)=zd6 l++zd6 m
 |[],m=>by rw[zd6];rfl
 |x::l,m=>by rw[W0,zd6,zd6,zuG l m,WQ]
theorem zHi:∀e:Ex,1<=zbF e
 |.mk _ _ _ _ _=>by rw[zbF];omega
theorem zxY:∀l:List Ex,l.length<=zW l
 |[]=>by rw[zW];simp
 |x::l=>by rw[Wf,zW];have:=zxY l;have:=zHi x;omega
theorem zjC:∀l m:List Ex,zW (l++m)=zW l+zW m
 |[],m=>by rw[zW];simp
 |x::l,m=>by rw[W0,zW,zW,zjC l m];omega
def visH(b:List Int)(g:Nat):AH:=[(0,.row 1 [[.own 1 0 g 0 b.length]] 0),(1,.row 1 (b.map cI) g)]
def zqX(op v:Int):List Int:=if op=2 then[v]else[]
theorem zFr{op v}:(zqX op v).length<=1:=by unfold zqX;split<;>simp
theorem uj:type_of% @visH.eq_1:=@visH.eq_1
theorem zxC(op n v w)(l)(b)(g)(j:b.length<=200000):
  zad Z9 zjQ [.agg (encX (.mk op n v w l)),.ptr 0 0 0 0 0] (visH b g) 2 (λr H d=>∃c,r=.tup []/\H=visH (b++zqX op v) c/\d=2):=by
 refine zab (fn_x zBx rfl ?_);refine dcU zuk.eq_1 ?_;have e:=hBig;rw[zdw];unfold zqX;by_cases h:op=2
 .rw[if_pos h]
  (repeat first|simp(disch:=try exact dis1) only[evD,Xc,Xd,Xh,visH,dT h]|with_reducible first|intro _|refine aJ ?_)
  refine Gw1 @zpI.eq_1 ?_;intros;exact⟨.tup [],visH (b++[v]) (g+1),2,(Xo [(0,0,0),(1,1,0)] [] rfl rfl rfl (Gin1_1 @uj) (Gin1_1 @uj)),g+1,rfl,rfl,rfl⟩
 .rw[if_neg h]
  (repeat first|simp(disch:=try exact dis1) only[evD,Xc,Xd,Xh,visH,dF h,zpI]|with_reducible first|intro _|refine aJ ?_)
  refine⟨.tup [],visH b g,2,?_,g,rfl,rfl,rfl⟩;exact(Xo [(0,0,0),(1,1,0)] [] rfl rfl rfl (Gin1_1 @uj) (Gin1_1 @uj))
def visF:AV:=.fn (.func zjQ) [.ptr 0 0 0 0 0]
theorem Qs{p:Prop}(h:p:=by(try simp only[evWB,Nat.reduceBEq,Nat.reduceAdd,Nat.reduceSub,Nat.reduceLeDiff,Nat.reduceLT,implies_true,List.take_zero,zd6,List.append_nil,visH])<;>exact fin1):p:=h
theorem zyO:∀(k:Nat)(e:Ex)(c:List Int)(g:Nat),zbF e<=k->c.length+zbF e<=100000 ->
  zad Z9 zp9 [.agg (encX e),visF] (visH c g) 2 (λr H J=>∃m,r=.tup []/\H=visH (c++occX e) m/\J=2):=by
 intro k
 induction k with
 |zero=>intro e c g h;obtain⟨_,_,_,_,l⟩:=e;rw[zbF]at h;omega
 |succ k I=>
 intro e c g B F;obtain⟨op,n,v,w,l⟩:=e;rw[zbF]at B F;refine zab (fn_x zC7 rfl ?_);refine dcU zwb.eq_1 ?_;have K:=hBig;have t:=zxY l;have s:=zxC op n v w l c g (by omega);have D:=zFr (op:=op) (v:=v);rw[zdw]at s⊢;refine Gw2 @visF.eq_1 @uj ?_;intros;refine⟨by kernel_rfl,?_⟩;refine zH [(0,0,0),(1,1,0)] 2 _ (s) rfl rfl (Gin1_1 @uj) (Gin1_1 @uj) ?_;rintro r u q ⟨m,rfl,rfl,rfl⟩;refine Gw1 @uj ?_;intros;have d:occX (.mk op n v w l)=zqX op v++zd6 l:=by rw[occX];rfl
 rw[d]
 refine zd (λa:Nat×Nat=>([(1,.fn (.func zjQ) [.ptr 0 0 0 0 0]),(10,encL 5 encX l),(11,.int .i64 l.length),(12,.int .i64 a.1)],visH (c++(zqX op v++zd6 (l.take a.1))) a.2)) 2
  (λa=>a.1<=l.length) (λa=>l.length-a.1) (0,m) (Wc _) (Xo [(0,0,0),(1,1,0)] [] rfl rfl rfl Qs Qs) ?_
 rintro⟨i,o⟩ hi wf;simp only at hi;refine dcU zro.eq_1 ?_;refine Gw1 @uj ?_;intros;(refine zA (λh=>?_) (λh=>?_))<;>(try simp only[dcd]at h)
 .have b:i<l.length:=by omega
  have p:zd6 (l.take (i+1))=zd6 (l.take i)++occX l[i]:=by rw[WG,Wo b,zuG];congr 1;show zd6 [l[i]]=_;rw[zd6,zd6,WL]
  have M:zW l=zW (l.take i)+zW (l.drop i):=by rw[<-zjC,WR]
  have C:=zrG b;have L:=zvv (l.take i);have j:=I l[i] (c++(zqX op v++zd6 (l.take i))) o (by omega) (by simp only[Wr];omega);have y:c++(zqX op v++zd6 (l.take i))++occX l[i]=c++(zqX op v++zd6 (l.take (i+1))):=by rw[p];simp
  rw[y]at j;refine Gw1 (gmp b) ?_;intros;generalize l[i]=x at j⊢;obtain⟨P,O,Q,R,N⟩:=x;simp only[zdw]at j⊢;refine Gw0 ?_;intros;refine zH [(0,0,0),(1,1,0)] 2 _ (j) rfl rfl (Gin1_2 @uj @visF.eq_1) (Gin1_2 @uj @visF.eq_1) ?_;rintro r u q ⟨A,rfl,rfl,rfl⟩;refine Gw1 @uj ?_;intros;exact⟨(i+1,A),by simp only;omega,by simp only;omega,(Xo [(0,0,0),(1,1,0)] [] rfl rfl rfl (Gin1_1 @uj) (Gin1_1 @uj))⟩
 .have b:l.length<=i:=by omega
  refine Gw1 @zvt.eq_1 ?_;intros;refine⟨.tup [],visH (c++(zqX op v++zd6 l)) o,2,?_,o,rfl,rfl,rfl⟩;rw[WK b];exact(Xo [(0,0,0),(1,1,0)] [] rfl rfl rfl (Gin1_1 @uj) (Gin1_1 @uj))
theorem zyy{l}(q:l.Pairwise (·<=·)):∀n,n<=l.length->Asc (zak l n)/\∀x,x∈zak l n↔∃j,∃h:j<l.length,j<n/\l[j]=x
 |
  0,_=>by
  refine⟨List.Pairwise.nil,λx=>⟨λh=>?_,λ⟨j,_,h,_⟩=>absurd h (Nat.not_lt_zero _)⟩⟩;have:zak l 0=[]:=rfl;rw[this]at h;cases h
 |
  n+1,hn=>by
  obtain⟨m,k⟩:=zyy q n (by omega);have p:=List.pairwise_iff_getElem.1 q
  cases g:zf5 l n with
  |true=>
   rw[zqc (by omega) g];refine⟨List.pairwise_append.2 ⟨m,List.pairwise_singleton _ _,λa t b o=>?_⟩,λx=>?_⟩
   .obtain⟨j,c,d,rfl⟩:=(k a).1 t;rw[W3]at o;subst o;have v:l[n]≠l[n-1]:=by have:=zgc (l:=l) (j:=n) (by omega) (by omega);rw[g]at this;simpa using this.symm
    have w:=p (n-1) n (by omega) (by omega) (by omega);rcases WH j (n-1)with e|e
    .have:=p j (n-1) c (by omega) e;omega
    .obtain rfl:j=n-1:=by omega
     omega
   .rw[Xw,W3,k];constructor
    .rintro(⟨j,c,d,rfl⟩|rfl)
     .exact⟨j,c,by omega,rfl⟩
     .exact⟨n,by omega,by omega,rfl⟩
    .rintro⟨j,c,d,rfl⟩;rcases WH j n with e|e
     .exact .inl ⟨j,c,e,rfl⟩
     .obtain rfl:j=n:=by omega
      exact .inr rfl
  |false=>
   rw[zpB g];refine⟨m,λx=>?_⟩;rw[k];constructor
   .rintro⟨j,c,d,rfl⟩;exact⟨j,c,by omega,rfl⟩
   .rintro⟨j,c,d,rfl⟩;rcases WH j n with e|e
    .exact⟨j,c,e,rfl⟩
    .obtain rfl:j=n:=by omega
     have s:1<=j:=by
      rcases Nat.eq_zero_or_pos j with rfl|h
      .cases g
      .exact h
     have:=zgc (l:=l) (j:=j) s c;rw[g]at this;have u:l[j]=l[j-1]:=by simpa using this.symm
     exact⟨j-1,by omega,by omega,u.symm⟩
theorem zux(l m)(g:Asc m)(h:∀x,x∈m↔x∈l):zbz (zfv l)=m:=by
 obtain⟨c,d⟩:=zyy (zgE l) (zfv l).length (WC _);refine zCh c g λx=>?_
 rw[h,<-(zdm l).mem_iff];show x∈zak _ _↔_;rw[d,WS];exact⟨λ⟨j,b,_,e⟩=>⟨j,b,e⟩,λ⟨j,b,e⟩=>⟨j,b,b,e⟩⟩
theorem zFx(e)(y:zbF e<=100000):zq Z9 zwN [.agg (encX e)] (·=za (zfY e)):=by
 refine fn_x zFA rfl ?_;unfold zyd;have u:=hBig;have k:=zyO (zbF e) e [] 0 (WC _) (by simp only[We];omega);have q:=zEb e;have b:=zux (occX e) (zfY e) (zHa e) λx=>zmT e
 rw[List.nil_append]at k;generalize occX e=d at k q b;generalize zfY e=A at b⊢;obtain⟨op,n,v,w,l⟩:=e;simp only[zdw]at k⊢;refine Gw0 ?_;intros;refine zH [(0,1,0)] 2 _ (k) rfl rfl (Gin1_2 @uj @visF.eq_1) (Gin1_2 @uj @visF.eq_1) ?_;rintro r t s ⟨p,rfl,rfl,rfl⟩;refine Gw1 @uj ?_;intros;refine zyq (zAy (zs:=d) rfl (by omega)) ?_;rintro _ _ _ c;simp only[Prod.mk.injEq]at c;obtain⟨rfl,rfl,rfl⟩:=c;have j:(zfv d).length=d.length:=(zdm d).length_eq;have g:=zyt (l:=zfv d) (n:=(zfv d).length);rw[<-j];generalize zfv d=o at b j g⊢;refine Gw0 ?_;intros;refine zH [(0,3,0)] 1 _ (zy4 o p (by omega)) rfl rfl Gin1_0 Gin1_0 ?_;rintro _ _ _ ⟨m,rfl,rfl,rfl⟩;have h:(zbz o).length<=o.length:=g;rw[b]at h⊢;refine Gw1 @zx8.eq_1 ?_;intros;refine⟨_,?_,rfl⟩;exact zzn (m:=m) trivial rfl (by omega)
theorem zGO{c}{ps}(h:SetS c ps){m}(k:Asc m)(g:∀x,x∈m↔x∈ps.map (·.1)):zfv (ps.map (·.1))=m:=by
 refine zCh ?_ k λx=>?_
 .have d:=zgE (ps.map (·.1));have e:(zfv (ps.map (·.1))).Nodup:=(zdm _).nodup_iff.2 h.keys;refine List.Pairwise.imp₂ (λa b j n=>?_) d e;omega
 .rw[g,(zdm _).mem_iff]
theorem renM{ρ}{l:List MC}{g}:Xn ρ (.row 3 (l.map cm) g)=.row 3 (l.map cm) g:=by simp only[Xn];rw[zjw (zy ziC)]
theorem renF{ρ}{n}{S}:Xn ρ (famS n S)=famS n S:=by
 unfold famS fi;simp only[Xn,WI];congr 1;refine W5 λi _=>?_
 show(List.map _ _,_)=_;rw[zjw (zy ziC)]
theorem renE{ρ}{l}:AV.ren ρ (za l)=za l:=zsh rfl
def zmF(s:MS)(l:List Ex):MS:=l.foldl (λa x=>addL a (zfY x)) s
theorem zET{s:MS}{l:List Ex}{i:Nat}(h:i<l.length):zmF s (l.take (i+1))=addL (zmF s (l.take i)) (zfY l[i]):=by unfold zmF;rw[WG,Wo h,List.foldl_append];rfl
theorem zAG{y}:∀{l:List Ex}{s:MS},y∈(zmF s l).keys↔y∈s.keys\/y∈zd6 l
 |[],s=>by rw[zd6];simp[zmF]
 |
  x::l,s=>by
  show y∈(zmF (addL s (zfY x)) l).keys↔_;rw[zAG,zlv,zmT,zd6,Xw,or_assoc]
theorem zED:∀{l:List Ex}{s:MS},s.ok->s.1+zW l<=1000000->s.2.length+zW l<=1000000->(zmF s l).ok/\(zmF s l).1<=s.1+zW l/\(zmF s l).2.length<=s.2.length+zW l
 |
  [],s,h,_,_=>by
  rw[zW];exact⟨h,by show s.1<=_;omega,by show s.2.length<=_;omega⟩
 |
  x::l,s,h,h1,h2=>by
  rw[zW]at h1 h2⊢;have g:=zev (l:=zfY x) (s:=s);have j:=zo6 x;have b:=znm (l:=zfY x) h (by omega) (by omega);obtain⟨c,d,e⟩:=zED (l:=l) b (by omega) (by omega);exact⟨c,by show(zmF (addL s (zfY x)) l).1<=_;omega,by show(zmF (addL s (zfY x)) l).2.length<=_;omega⟩
theorem zzE:MS.ok (0,[]):=⟨Xx,Xx,(λ_ h=>nomatch h),by simp,by simp⟩
theorem zv9{l}{i}:zW (l.take i)<=zW l:=by
 have:zW l=zW (l.take i)+zW (l.drop i):=by rw[<-zjC,WR]
 omega
theorem zuR(s)(y:zW s.e<=100000):zq Z9 zkZ [.agg s.cells] (·=za (zkQ s)):=by
 refine fn_x zu7 rfl ?_;refine dcU zop.eq_1 ?_;have C:=hBig;obtain⟨op,var,b,next,k,n,l,v⟩:=s;simp only at y;have h:=zF7 ⟨op,var,b,next,k,n,l,v⟩;have j:∀x,x∈zkQ ⟨op,var,b,next,k,n,l,v⟩↔x∈(zmF (0,[]) l).2.map (·.1):=λx=>by show x∈zw1 [] l↔x∈(zmF (0,[]) l).keys;rw[zsk,zAG];simp[MS.keys]
 have q:=λi=>zED (l:=l.take i) (s:=(0,[])) zzE (by have:=zv9 (l:=l) (i:=i);simp only;omega) (by have:=zv9 (l:=l) (i:=i);simp only[We];omega)
 generalize zkQ ⟨op,var,b,next,k,n,l,v⟩=R at h j⊢;refine Gw3 @ub @ud @ua ?_;intros
 refine zd (λi:Nat=>([(3,.mp 0 0),(8,encL 5 encX l),(9,.int .i64 l.length),(10,.int .i64 i)],[(0,.row 3 ((setM (zmF (0,[]) (l.take i)).1 (zmF (0,[]) (l.take i)).2).map cm) 0)])) 1
  (λi=>i<=l.length) (λi=>l.length-i) 0 (Wc _) (by rw[Wv,show zmF (0,[]) []=(0,[])from rfl];exact(Xa [(0,1,0)] [] rfl (Gin6_1 @zk) (Gin6_1 @zk))) ?_
 rintro i D wf;refine dcU zjR.eq_1 ?_;by_cases m:i<l.length
 .have A:=zrG m;have B:zW l=zW (l.take i)+zW (l.drop i):=by rw[<-zjC,WR]
  obtain⟨g,o,p⟩:=q i;have w:=zo6 l[i];have d:=zET (s:=(0,[])) m;refine Gw6 @ub @dT (gmp m) @zaG @zan @zk ?_;intros;refine zc (zb (zFx l[i] (by omega)) (flX rfl)) ?_;generalize zfY l[i]=u at w d⊢;generalize zmF (0,[]) (l.take i)=a at g o p d⊢;simp only[We,Ww,Int.zero_add]at o p;refine Gw0 ?_;intros;refine zH [(0,0,0)] 1 _ (zEX a u g (by omega) (by omega)) rfl rfl (Gin6_1 @zk) (Gin6_1 @zk) ?_;rintro _ _ _ ⟨rfl,rfl,rfl⟩;refine Gw1 @renM ?_;intros;exact⟨i+1,by omega,by omega,(Xa [(0,0,0)] [] rfl (Gin6_2 @zk d) (Gin6_2 @zk d))⟩
 ·(refine Qa ?_;intros);refine dcU zkO.eq_1 ?_;obtain⟨g,o,p⟩:=q l.length;have t:=zGO (c:=(zmF (0,[]) l).1) (ps:=(zmF (0,[]) l).2) (by rw[WD]at g;exact g) h j;rw[WD]at g o p;rw[WK (by omega)];generalize zmF (0,[]) l=a at g o p t⊢;refine Gw1 @zk ?_;intros;refine zH [(0,0,0)] 1 _ (zCy a.1 a.2 g) rfl rfl (Gin6_1 @zk) (Gin6_1 @zk) ?_;rintro _ _ _ ⟨rfl,rfl,rfl⟩;rw[t];refine Gw3 @renM @renE @zn3.eq_1 ?_;intros;exact⟨_,zZ rfl,rfl⟩
def tgS(l:List St):List Int:=(l.filter λs=>decide (s.op=5)).map (·.tgt)
def tgB(l:List Bl):List Int:=l.flatMap λb=>tgS b.stmts
theorem zGW{l}:(tgS l).length<=l.length:=by unfold tgS;rw[Wx];exact List.length_filter_le _ _
theorem zLr{l:List St}{k:Nat}(b:k<l.length)(h:l[k].op=5):tgS (l.take (k+1))=tgS (l.take k)++[l[k].tgt]:=by unfold tgS;rw[WG,Wo b,W6];simp[h]
theorem tgS_no{l:List St}{k:Nat}(b:k<l.length)(h:¬l[k].op=5):tgS (l.take (k+1))=tgS (l.take k):=by unfold tgS;rw[WG,Wo b,W6];simp[h]
theorem zJW{l:List Bl}{i:Nat}(b:i<l.length):tgB (l.take (i+1))=tgB (l.take i)++tgS l[i].stmts:=by unfold tgB;rw[WG,Wo b,W7];simp
theorem zDq:∀{l:List Bl}{n:Nat},(∀b∈l,b.stmts.length<=n)->(tgB l).length<=l.length*n
 |[],_,_=>by simp[tgB]
 |
  b::l,n,h=>by
  have d:=zDq (l:=l) (n:=n) λx c=>h x (List.mem_cons_of_mem _ c)
  have e:=zGW (l:=b.stmts);have g:=h b (by simp);unfold tgB at d⊢;rw[W8,Wr,Wf,Nat.succ_mul];omega
theorem zLj{ρ:Nat->Nat}{l:List Int}{g:Nat}:Xn ρ (.row 1 (l.map cW) g)=.row 1 (l.map cW) g:=by simp only[Xn];rw[zjw (zy λ_=>rfl)]
theorem Qi{p q:Prop}(k:q)(h:Im q p:=by(repeat first|simp(disch:=try exact dis1) only[evD,Nat.reduceBEq,Nat.reduceAdd,Nat.reduceLeDiff,fldP,zu]|((with_reducible apply Im.i);intro _)|((with_reducible apply Im.a);omega));exact Im.r):p:=h k
theorem Qt{p:Prop}(h:p:=by(try simp only[evWB,Nat.reduceBEq,Nat.reduceAdd,Nat.reduceSub,Nat.reduceLeDiff,Nat.reduceLT,implies_true,List.take_zero,tgB,List.flatMap_nil])<;>exact fin2):p:=h
theorem Qu{p:Prop}(h:p:=by(try simp only[evWB,Nat.reduceBEq,Nat.reduceAdd,Nat.reduceSub,Nat.reduceLeDiff,Nat.reduceLT,implies_true,List.take_zero,tgS,List.filter_nil,List.map_nil,List.append_nil])<;>exact fin2):p:=h
theorem zmZ(g:G)(u:(tgB g.blocks).length<=250)(w:g.blocks.length<=1000)(p:∀b∈g.blocks,b.stmts.length<=1000):
  zq Z9 zgk [.agg g.cells] (·=encL 1 cW (zbz (zfv (tgB g.blocks)))):=by
 refine fn_x ztL rfl ?_;refine dcU zmL.eq_1 ?_;have N:=hBig;obtain⟨M,c⟩:=g;simp only at u w p;unfold G.cells;simp only;refine Qi ?_;intros;refine zd (λi:Nat=>([(3,.own 0 0 0 0 (tgB (c.take i)).length),(9,encL 2 Xf c),(10,.int .i64 c.length),(11,.int .i64 i)],[(0,.row 1 ((tgB (c.take i)).map cW) 0)])) 1 (λi=>i<=c.length) (λi=>c.length-i) 0 (Wc _) (Xa [(0,1,0)] [] rfl Qt Qt) ?_;rintro i O wf;refine dcU ziL.eq_1 ?_;by_cases j:i<c.length
 .have D:(c.map Xf).getD i []=[.int .u32 c[i].addr,encL 8 Xe c[i].stmts]:=zj j;have J:=p _ (Wa j);have h:=zJW j
  have F:(tgB (c.take i)).length<=250000+1000000:=by
   have:=zDq (l:=c.take i) (n:=1000) λb u=>p b (List.mem_of_mem_take u)
   rw[WP]at this;have:min i c.length*1000<=1000*1000:=Nat.mul_le_mul_right _ (by omega);omega
  refine Gw5 @ub @zu @dT @dF D ?_;intros;refine zd (λk:Nat=>([(3,.own 0 0 0 0 (tgB (c.take i)++tgS (c[i].stmts.take k)).length),(9,encL 2 Xf c),(10,.int .i64 c.length),(11,.int .i64 i),(16,encL 8 Xe c[i].stmts),(17,.int .i64 c[i].stmts.length),(18,.int .i64 k)],[(0,.row 1 ((tgB (c.take i)++tgS (c[i].stmts.take k)).map cW) 0)])) 1 (λk=>k<=c[i].stmts.length) (λk=>c[i].stmts.length-k) 0 (Wc _) (Xa [(0,0,0)] [] rfl Qu Qu) ?_;rintro k P L;refine dcU zi3.eq_1 ?_;by_cases o:k<c[i].stmts.length
  .have q:(c[i].stmts.map Xe).getD k []=[.int .i64 c[i].stmts[k].op,.int .i64 c[i].stmts[k].var,.int .i64 c[i].stmts[k].width,.int .i64 c[i].stmts[k].next,.int .i64 c[i].stmts[k].els,.int .u32 c[i].stmts[k].tgt,encL 5 encX c[i].stmts[k].e,za c[i].stmts[k].cases]:=zj (f:=Xe) (d:=[]) o;have B:(tgS (c[i].stmts.take k)).length<=1000:=by have:=zGW (l:=c[i].stmts.take k);rw[WP]at this;omega
   by_cases y:c[i].stmts[k].op=5
   .have t:=zLr o y;have x:((tgB (c.take i)++tgS (c[i].stmts.take k)).map cW).take ((tgB (c.take i)).length+(tgS (c[i].stmts.take k)).length)=(tgB (c.take i)++tgS (c[i].stmts.take k)).map cW:=WK (by simp);refine Gw8 @ub @zu @dT @dF q x @m9M @m9A ?_;intros;exact⟨k+1,by omega,by omega,(Xa [(0,0,1)] [] rfl (by(try simp only[evWB,Xc,Xd,Xl,Xh,Xm,implies_true,t,Wr,WB,Xy,WM,WU,WQ,Xz,cW])<;>exact fin2) (by(try simp only[evWB,Xc,Xd,Xl,Xh,Xm,implies_true,t,Wr,WB,Xy,WM,WU,WQ,Xz,cW])<;>exact fin2))⟩
   .have t:=tgS_no o y;refine Gw5 @ub @zu @dT @dF q ?_;intros;exact⟨k+1,by omega,by omega,(Xa [(0,0,0)] [] rfl (Gin2_1 t) (Gin2_1 t))⟩
  .obtain rfl:k=c[i].stmts.length:=by omega
   refine Qa ?_;intros;refine dcU zji.eq_1 ?_;refine Qa ?_;intros;exact⟨i+1,by omega,by omega,(Xa [(0,0,0)] [] rfl (by(try simp only[evWB,Xc,Xd,Xl,Xh,Xm,implies_true,h,WD])<;>exact fin2) (by(try simp only[evWB,Xc,Xd,Xl,Xh,Xm,implies_true,h,WD])<;>exact fin2))⟩
 .obtain rfl:i=c.length:=by omega
  rw[WD];refine Qa ?_;intros;refine dcU zi5.eq_1 ?_;have I:=zKG (tgB c) 0 u;refine Qa ?_;intros;refine zH [(0,0,0)] 1 _ (I) rfl rfl fin9 fin9 ?_;rintro v H K ⟨rfl,rfl,rfl⟩;have s:(zfv (tgB c)).length=(tgB c).length:=(zdm _).length_eq;have A:=zzO (zfv (tgB c)) 0 (by omega);rw[s]at A;refine Gw1 @zLj ?_;intros;refine zH [(0,0,0)] 1 _ (A) rfl rfl fin9 fin9 ?_;rintro v H K ⟨m,rfl,rfl,rfl⟩;have C:(zbz (zfv (tgB c))).length<=(zfv (tgB c)).length:=zyt;refine Gw2 @zLj @zmp.eq_1 ?_;intros;exact⟨_,zIW trivial rfl (by omega),rfl⟩
def St.toS(s:St):Stm:=⟨s.op,s.var,s.width,s.next,s.els,s.tgt,encL 5 encX s.e,s.cases⟩
def Bl.toB(b:Bl):Blk:=⟨b.addr,b.stmts.map St.toS⟩
def G.toG(g:G):Gr:=⟨g.addr,g.blocks.map Bl.toB⟩
theorem zEh{α β:Type}{n:Nat}{f:β->List AV}{h:α->β}{l:List α}:encL n f (l.map h)=encL n (λx=>f (h x)) l:=by unfold encL;rw[Wx,WI];rfl
theorem St.toS_cells(s:St):s.toS.cells=s.cells:=rfl
theorem Bl.toB_cells(b:Bl):b.toB.cells=b.cells:=by unfold Bl.toB Blk.cells Xf;simp only[zEh,St.toS_cells]
theorem G.toG_cells(g:G):g.toG.cells=g.cells:=by unfold G.toG Gr.cells G.cells;simp only[zEh,Bl.toB_cells]
theorem Bl.toB_targets(b:Bl):b.toB.targets=zaO b.stmts:=by unfold Blk.targets zaO Bl.toB;simp only[List.getLast?_map];cases b.stmts.getLast? <;> rfl
structure fewC(g:G):Prop where
 blocks:g.blocks.length<=8
 stmts:∀b∈g.blocks,b.stmts.length<=10
 cases:∀b∈g.blocks,∀s∈b.stmts,s.cases.length<=8
 size:∀b∈g.blocks,∀s∈b.stmts,zW s.e<=300
 exprs:∀b∈g.blocks,∀s∈b.stmts,s.e.length<=3
theorem zpd{l}{n}(c:2<=n)(h:∀s∈l,s.cases.length<=n):(zaO l).length<=n:=by
 unfold zaO
 cases b:l.getLast? with
 |none=>simp
 |some s=>
  have:=h s (List.mem_of_getLast? b);simp only[znu];split
  .simp only[WB];omega
  .split
   .simp only[Wf,We];omega
   .split
    .exact this
    .simp
theorem ztI{g}(h:fewC g):g.toG.small:=by refine⟨by have:=h.blocks;simp[G.toG];omega,λb e=>?_⟩;obtain⟨c,d,rfl⟩:=List.mem_map.1 e;rw[Bl.toB_targets];exact Ws (zpd (by decide) (h.cases c d)) (by decide:8<=1000)
theorem zmK{g}(h:fewC g):manyB g:=⟨Ws h.blocks (by decide),λb c=>Ws (h.stmts b c) (by decide)⟩
def blkG(g:G)(b:Nat):Bl:=g.blocks.getD b ⟨0,[]⟩
structure OkG(g:G):Prop where
 pos:0<g.blocks.length
 ends:∀b∈g.blocks,b.stmts.length≠0
 tgt:∀b∈g.blocks,∀t∈zaO b.stmts,0<=t/\t<g.blocks.length
def edgB(g:G)(b:Nat):List Nat:=(zaO (blkG g b).stmts).map WJ
theorem zg8{g}{b}(c:b<g.blocks.length):blkG g b=g.blocks[b]:=by simp[blkG,c]
theorem zwc{g}(e:OkG g){b}(c:b<g.blocks.length):∀t∈edgB g b,t<g.blocks.length:=λt h=>by obtain⟨x,d,rfl⟩:=List.mem_map.1 h;rw[zg8 c]at d;have:=e.tgt _ (Wa c) x d;omega
theorem zDF{g}(d:OkG g){b}(c:b<g.blocks.length):zaO g.blocks[b].stmts=(edgB g b).map (λ(n:Nat)=>(n:Int)):=by unfold edgB;rw[zg8 c,WI];refine(List.map_id _).symm.trans (W5 λx e=>?_);have:=d.tgt _ (Wa c) x e;simp only[Function.comp,id];omega
theorem zKn{g}(d:OkG g){b}(c:b<g.blocks.length):Dm.suc g.toG.E b=edgB g b:=by unfold Dm.suc Gr.E G.toG edgB;rw[zg8 c];simp only[WI,Wx,Wg,List.getElem?_map,Wo c,WV,W9,Function.comp,Bl.toB_targets];rw[List.filter_eq_self.2 λx e=>?_];have:=d.tgt _ (Wa c) x e;unfold Dm.edgeOk;simp[this]
structure Sgn where
 args:List Int
 res:List Int
 sav:List Int
def Sgn.cells(s:Sgn):List AV:=[za s.args,za s.res,za s.sav]
def zaS:Sgn:=⟨[],[],[]⟩
def idxA(b:List Int)(a:Int):Option Nat:=b.findIdx? λx=>decide (x=a)
def zaz(l:List Sgn)(b:List Int)(a:Int):Sgn:=match idxA b a with
 |some k=>l.getD k zaS
 |none=>zaS
end Go.Ab
namespace Go.Ab
open Go.RowKit Go.Proofs Go.Proofs.YtihlaappclhhaaaGreat Go.ChangeShapes Go.WideShapes
section
variable {HH:Type}{enc:TypeId×Value->HH}{w:World}{base:Nat}{spare:Nat->Bool}{held:Bool}{L:Nat->Prop} (hL:∀b,¬L b)
include hL
theorem zDL{fuel}{cs}{y:DataW HH×List MemPlace}(h:Xj enc Z9 w base spare held fuel 55 cs=some y):∃s:Sgn,cs.length=3/\ElOk w L cs s.cells/\∀j,j<3->∀ι,VR w L ι (cs.getD j undef) (s.cells.getD j .undef):=by
 have k:Tryz.prog.cellsOf 3=1:=by kernel_rfl
 obtain⟨g,n,rfl,rfl,e,t,q⟩:=DataW.trod_struct Tryz.underlying55 h;have F:Tryz.prog.cellsOf 55=3:=by kernel_rfl
 have c:Tryz.prog.cellsOf 35=1:=by kernel_rfl
 rw[F]at e;have d:∀i,i<3->g[i]?=some (g.getD i (.nil,[])):=λi H=>by rw[WN,Wo (by rw[t];exact H)];rfl
 match cs,e with
 |[c0,c1,c2],_=>
  have m:Xj enc Z9 w base spare held n 35 (([c0,c1,c2].drop 0).take (Tryz.prog.cellsOf 35))=some (g.getD 0 (.nil,[])):=(q 0 _ rfl).trans (d 0 (by decide));rw[c]at m;replace m:Xj enc Z9 w base spare held n 35 [c0]=some (g.getD 0 (.nil,[])):=m;have o:Xj enc Z9 w base spare held n 35 (([c0,c1,c2].drop 1).take (Tryz.prog.cellsOf 35))=some (g.getD 1 (.nil,[])):=(q 1 _ rfl).trans (d 1 (by decide));rw[c]at o;replace o:Xj enc Z9 w base spare held n 35 [c1]=some (g.getD 1 (.nil,[])):=o;have p:Xj enc Z9 w base spare held n 35 (([c0,c1,c2].drop 2).take (Tryz.prog.cellsOf 35))=some (g.getD 2 (.nil,[])):=(q 2 _ rfl).trans (d 2 (by decide));rw[c]at p;replace p:Xj enc Z9 w base spare held n 35 [c2]=some (g.getD 2 (.nil,[])):=p;obtain⟨I,v0,B,M,v⟩:=zwO Tryz.underlying35 Tryz.underlying3 k hL m;obtain⟨J,v1,C,N,x⟩:=zwO Tryz.underlying35 Tryz.underlying3 k hL o;obtain⟨K,P,D,O,A⟩:=zwO Tryz.underlying35 Tryz.underlying3 k hL p;cases B;cases C;cases D;refine⟨⟨I,J,K⟩,rfl,λj u=>?_,λj u ι=>?_⟩
  .match j with
   |0=>exact⟨v _,M⟩
   |1=>exact⟨x _,N⟩
   |2=>exact⟨A _,O⟩
   |j+3=>exact absurd u (by simp)
  .match j with
   |0=>exact v _
   |1=>exact x _
   |2=>exact A _
   |j+3=>omega
theorem open_sig{v}{d:DataW HH}{q:List MemPlace}(m:Xp Z9 w .any base 55 v){b2}(h:Xr enc Z9 w b2 spare held 55 v d q):∃s:Sgn,True/\∀ι,VR w L ι v (.agg s.cells):=by
 obtain⟨k,y⟩:=h;unfold Xp at m;rw[Tryz.underlying55]at m;simp only at m;obtain⟨c,rfl,_,_⟩:=m;have n:Xj enc Z9 w b2 spare held k 55 c.toList=some (d,q):=y;obtain⟨g,p,t,u⟩:=zDL hL n
 refine⟨g,trivial,λι=>.agg ι c _ (by
  have:c.size=3:=by simpa using p
  rw[this];rfl) (λi v e=>?_) (λi v a e x=>?_)⟩
 .have j:i<c.size:=by
   rcases WH i c.size with h|h
   .exact h
   .rw[Waa h]at e;cases e
  have:=(t i (by simpa using j)).2;rw[WN,Wab,e]at this;exact this
 .have j:i<c.size:=by
   rcases WH i c.size with h|h
   .exact h
   .rw[Waa h]at e;cases e
  have o:i<3:=by rw[<-p];simpa using j
  have:=u i o ι;rw[WN,Wab,e,WN,x]at this;exact this
omit hL
theorem zGJ{ι}{v}{l}(h:VR w L ι v (za l)):l.length<=9223372036854775807:=by
 unfold za encL at h;generalize d:(λi j=>((l.map λn=>[Xb .i64 n]).getD i []).getD j XA)=f at h;generalize e:l.length=n at h
 cases h with
 |sl _ a _ _ cap _ V h1 h2 h3 h4 h5=>have c:=hBig;omega
 |sl0=>omega
theorem zMM{ι}{v}{l}(h:VR w L ι v (encL 3 Sgn.cells l)):∀s∈l,s.args.length<=9223372036854775807/\s.res.length<=9223372036854775807:=by
 intro s k;obtain⟨i,g,rfl⟩:=WS.1 k;unfold encL at h;generalize e:(λi j=>((l.map Sgn.cells).getD i []).getD j XA)=f at h;generalize m:l.length=n at h
 cases h with
 |sl _ a _ _ cap _ V h1 h2 h3 h4 h5=>have c:=h5 i 0 (by omega) (by decide);have d:=h5 i 1 (by omega) (by decide);rw[<-e]at c d;simp only at c d;rw[zj (f:=Sgn.cells) g]at c d;exact⟨zGJ c,zGJ d⟩
 |sl0=>omega
include hL
theorem open_sigs{v}{d:DataW HH}{o:List MemPlace}{b2}(n:Xp Z9 w .any base 49 v)(h:Xr enc Z9 w b2 spare held 49 v d o):∃l:List Sgn,(∀s∈l,s.args.length<=9223372036854775807/\s.res.length<=9223372036854775807)/\∀ι,VR w L ι v (encL 3 Sgn.cells l):=by
 obtain⟨a0,len,cap,rfl⟩:=okWide_slice Tryz.underlying49 n;obtain⟨e,m⟩:=h;have c:Tryz.prog.cellsOf 55=3:=by kernel_rfl
 obtain⟨l,p,g,_,j⟩:=zr4 (α:=Sgn) (cells:=Sgn.cells) (L:=L) Tryz.underlying49 c hL (λ_ _ _ h _=>by obtain⟨s,_,k,_⟩:=zDL hL h;exact⟨s,k⟩) m;have:p=.slice a0 len cap:=by simp[Xu]at g;exact g.symm
 subst this;exact⟨l,zMM (j noI),j⟩
theorem open_graphs{v}{d:DataW HH}{o:List MemPlace}{b2}(n:Xp Z9 w .any base 22 v)(h:Xr enc Z9 w b2 spare held 22 v d o):∃l:List G,True/\∀ι,VR w L ι v (encL 2 G.cells l):=by
 obtain⟨a0,len,cap,rfl⟩:=okWide_slice Tryz.underlying22 n;obtain⟨e,m⟩:=h;have c:Tryz.prog.cellsOf 48=2:=by kernel_rfl
 obtain⟨l,p,g,_,k⟩:=zr4 (α:=G) (cells:=G.cells) (L:=L) Tryz.underlying22 c hL (λ_ _ _ h _=>by obtain⟨s,_,j,_⟩:=zD1 hL h;exact⟨s,j⟩) m;have:p=.slice a0 len cap:=by simp[Xu]at g;exact g.symm
 subst this;exact⟨l,trivial,k⟩
theorem open_words{v:Value}{d:DataW HH}{n:List MemPlace}{g:Nat}(m:Xp Z9 w .any base 25 v)(h:Xr enc Z9 w g spare held 25 v d n):∃l:List Int,True/\∀ι,VR w L ι v (encL 1 cW l):=by
 obtain⟨a0,len,cap,rfl⟩:=okWide_slice Tryz.underlying25 m;obtain⟨c,k⟩:=h;obtain⟨l,o,e,_,j⟩:=zwO Tryz.underlying25 Tryz.underlying24 (by kernel_rfl) hL k;have:o=.slice a0 len cap:=by simp[Xu]at e;exact e.symm
 subst this;exact⟨l,trivial,j⟩
end
end Go.Ab
namespace Go.Ab
open Go.RowKit Go.Proofs
def idxV(o:Option Nat):Int:=match o with
 |some k=>k
 |none=> -1
theorem zrX(at')(a)(v:at'.length<=1000000):zq Z9 zmJ [encL 1 cW at',.int .u32 a] (·=.int .i64 (idxV (idxA at' a))):=by
 refine fn_x zCL rfl ?_;refine dcU zww.eq_1 ?_;have t:=hBig;refine Gw0 ?_;intros;refine zd (λk:Nat=>([(0,encL 1 cW at'),(1,.int .u32 a),(5,.int .i64 k)],[])) 0 (λk=>k<=at'.length/\∀i (h:i<at'.length),i<k->at'[i]≠a) (λk=>at'.length-k) 0 ⟨Wc _,λi h n=>by omega⟩ (Xg rfl fin5) ?_;rintro k ⟨u,c⟩ wf;clear wf;refine dcU zqM.eq_1 ?_;by_cases b:k<at'.length
 .have m:(at'.map cW).getD k []=[.int .u32 at'[k]]:=zj (f:=cW) (d:=[]) b;by_cases e:at'[k]=a
  .have g:idxA at' a=some k:=Wac.2 ⟨b,decide_eq_true e,λj q=>by simpa using c j (by omega) q⟩;rw[g];refine Gw4 @dT m e @zrs.eq_1 ?_;intros;exact izO
  ·(repeat first|simp(disch:=try exact dis1) only[evD,Xc,Xd,Xh,dT,m,decide_eq_false e]|with_reducible first|intro _|refine aJ ?_)
   refine⟨k+1,⟨b,λi h n=>?_⟩,by omega,Xg rfl fin5⟩;rcases Nat.lt_succ_iff_lt_or_eq.1 n with o|rfl
   .exact c i h o
   .exact e
 .have g:idxA at' a=none:=List.findIdx?_eq_none_iff.2 λx s=>by obtain⟨i,p,rfl⟩:=WS.1 s;simpa using c i p (by omega)
  rw[g];refine Qa ?_;intros;unfold zqV;refine Gw1 @zrs.eq_1 ?_;intros;exact izO
theorem zn0(l:List Sgn)(c:List Int)(s:St)(y:c.length<=1000000)(x:l.length=c.length):zq Z9 ziq [encL 3 Sgn.cells l,encL 1 cW c,.agg s.cells] (·=.agg (zaz l c s.tgt).cells):=by
 refine fn_x zzD rfl ?_;unfold zsG zaz;conv in Z8 _ _=>reduce
 have B:=hBig;obtain⟨op,var,o,next,u,g,e,A⟩:=s;simp only;have j:=zrX c g y
 cases n:idxA c g with
 |none=>
  rw[n]at j;refine Gw4 @ub @zu @ud @ua ?_;intros;refine zc (zb j rfl) ?_;have t:decide ((-1:Int)<0)=true:=by decide
  (repeat first|simp(disch:=try exact dis1) only[evD,Xc,Xd,Xh,idxV,t,znt]|with_reducible first|intro _|refine aJ ?_)
  exact⟨.agg zaS.cells,.agg _ _ _ rfl (λi a b h m=>match i with
   |0=>by cases h;cases m;exact .nil0 _ _ _
   |1=>by cases h;cases m;exact .nil0 _ _ _
   |2=>by cases h;cases m;exact .nil0 _ _ _
   |i+3=>by cases h),rfl⟩
 |some k=>
  have p:k<l.length:=by rw[x];exact(Wac.1 n).1
  have w:(l.map Sgn.cells).getD k []=[za l[k].args,za l[k].res,za l[k].sav]:=zj (f:=Sgn.cells) (d:=[]) p;have v:l.getD k zaS=l[k]:=by simp[Wg,p]
  rw[n]at j;refine Gw4 @ub @zu @ud @ua ?_;intros;refine zc (zb j rfl) ?_;have q:decide (((k:Nat):Int)<0)=false:=by rw[decide_eq_false_iff_not];omega
  (repeat first|simp(disch:=try exact dis1) only[evD,Xc,Xd,Xh,idxV,q,w,znt]|with_reducible first|intro _|refine aJ ?_)
  exact⟨_,zZ rfl,by rw[v];rfl⟩
theorem zq0(s:St):zq Z9 zjJ [.agg s.cells] (·=.bool (decide (s.op=1\/s.op=3))):=by
 refine fn_x zxE rfl ?_;refine dcU zqQ.eq_1 ?_;have j:=hBig;obtain⟨op,var,b,next,c,g,e,h⟩:=s;simp only;by_cases d:op=1
 ·(refine Gw5 @dT @ub @ua @ud @zl0.eq_1 ?_;intros);exact bxO (by simp[d])
 ·(refine Gw5 @dF @ub @ua @ud @zl0.eq_1 ?_;intros);exact bxO (decide_eq_decide.2 (by omega))
def zEV(l:List Sgn)(b:List Int)(c:Bool)(s:St)(v:Int):Bool :=
 (s.e.any λe=>decide (v∈zfY e))||(if s.op=5 then decide (v<12)&&decide (v∈(zaz l b s.tgt).args)else decide (s.op=9)&&c&&decide (v<12))
def zuX(l:List Sgn)(c:List Int)(d:Bool)(v:Int)(s:St)(b:Bool):Bool:=(if (s.op=1\/s.op=3)/\s.var=v then false else b)||zEV l c d s v
def befV(l:List Sgn)(c:List Int)(d:Bool)(v:Int)(e:List St)(b:Bool):Bool:=e.foldr (zuX l c d v) b
def outV(g:G)(o:List Bool)(b:Nat):Bool:=(edgB g b).any λt=>o.getD t false
def zk6(g:G)(l:List Sgn)(c:List Int)(d:Bool)(v:Int)(o:List Bool)(b:Nat):Bool:=befV l c d v (blkG g b).stmts (outV g o b)
theorem zxQ:∀{l:List Ex}{e:Ex},e∈l->zbF e<=zW l
 |[],e,h=>by cases h
 |
  x::l,e,h=>by
  rw[zW];rcases WW.1 h with rfl|h
  .omega
  .have:=zxQ h;omega
theorem uw:type_of% @Sgn.cells.eq_1:=@Sgn.cells.eq_1
theorem zDk(s)(v)(l)(at')(n)(u:zW s.e<=100000)(B:at'.length<=1000000)(A:l.length=at'.length):
  zq Z9 ztX [.agg s.cells,.int .i64 v,encL 3 Sgn.cells l,encL 1 cW at',.bool n] (·=.bool (zEV l at' n s v)):=by
 refine fn_x zDx rfl ?_;refine dcU zvo.eq_1 ?_;have C:=hBig;have d:=zn0 l at' s B A;generalize b:zEV l at' n s v=R;unfold zEV at b;obtain⟨op,var,m,next,p,o,e,y⟩:=s;simp only at u b d;simp only[Xe]at d⊢;refine Gw2 @ub @ua ?_;intros;refine zd (λk:Nat=>([(1,.int .i64 v),(2,encL 3 Sgn.cells l),(3,encL 1 cW at'),(4,.bool n),(5,encP 8 [.int .i64 op,.int .i64 var,.int .i64 m,.int .i64 next,.int .i64 p,.int .u32 o,encL 5 encX e,za y]),(11,.int .i64 k)],[])) 0 (λk=>k<=e.length/\((e.drop k).any λx=>decide (v∈zfY x))=(e.any λx=>decide (v∈zfY x))) (λk=>e.length-k) 0 ⟨Wc _,rfl⟩ (Xg rfl fin5) ?_;rintro k ⟨D,g⟩ wf;clear wf;rw[<-g]at b;refine dcU zrh.eq_1 ?_;by_cases h:k<e.length
 .rw[Wl h,XB]at g b;have w:=zCX 100000 e[k] (Ws (zxQ (Wa h)) u) (WC _);have j:=Dm.R24_Has_ok (zfY e[k]) v
  cases hd:decide (v∈zfY e[k])with
  |true=>rw[hd]at j b;rw[WE,WE]at b;subst b;refine Gw5 @dT @ub (gmp h) @zaG @zan ?_;intros;refine zc (zb w (flX rfl)) ?_;refine Gw0 ?_;intros;refine zc (zb j rfl) ?_;refine Gw1 @zfj.eq_1 ?_;intros;exact bzO
  |false=>rw[hd]at j g b;rw[Wy]at g b;refine Gw5 @dT @ub (gmp h) @zaG @zan ?_;intros;refine zc (zb w (flX rfl)) ?_;refine Gw0 ?_;intros;refine zc (zb j rfl) ?_;refine Gw0 ?_;intros;exact⟨k+1,⟨h,g⟩,by omega,Xg rfl fin5⟩
 .rw[Wq (by omega),XC,Wy]at b;refine Qj ?_;intros;refine dcU zqL.eq_1 ?_;by_cases q:op=5
  .rw[if_pos q]at b;have j:=Dm.R24_Has_ok (zaz l at' o).args v;by_cases c:v<12
   .rw[decide_eq_true c,Wh]at b;rw[b]at j;refine Gw4 @dT @ub @zu @ua ?_;intros;refine zc (zb d rfl) ?_;refine Gw2 @uw @ub ?_;intros;refine zc (zb j rfl) ?_;refine Gw1 @zfj.eq_1 ?_;intros;exact bzO
   .rw[decide_eq_false c,Wi]at b;subst b;refine Gw4 @dT @dF @ub @zfj.eq_1 ?_;intros;exact bzO
  .rw[if_neg q]at b;by_cases t:op=9
   .rw[decide_eq_true t,Wh]at b
    cases n with
    |true=>
     rw[Wh]at b;by_cases c:v<12
     .rw[decide_eq_true c]at b;subst b;refine Gw4 @dT @dF @ub @zfj.eq_1 ?_;intros;exact bzO
     .rw[decide_eq_false c]at b;subst b;refine Gw4 @dT @dF @ub @zfj.eq_1 ?_;intros;exact bzO
    |false=>rw[Wi]at b;subst b;refine Gw4 @dT @dF @ub @zfj.eq_1 ?_;intros;exact bzO
   .rw[decide_eq_false t,Wi,Wi]at b;subst b;refine Gw3 @dF @ub @zfj.eq_1 ?_;intros;exact bzO
theorem zE6{α β:Type}{f:α->β->β}{l:List α}{m:Nat}(h:m<l.length)(b):(l.take (m+1)).foldr f b=(l.take m).foldr f (f l[m] b):=by rw[Wad h,List.foldr_append];rfl
theorem zzg(n)(v)(b)(l)(j)(o)(X:∀s∈n,zW s.e<=100000)(Z:n.length<=1000000)(W:j.length<=1000000)(T:l.length=j.length):
  zq Z9 zpR [encL 8 Xe n,.int .i64 v,.bool b,encL 3 Sgn.cells l,encL 1 cW j,.bool o] (·=.bool (befV l j o v n b)):=by
 refine fn_x zzo rfl ?_;unfold zsD befV;conv in Z8 _ _=>reduce
 have Y:=hBig;generalize S:n.foldr (zuX l j o v) b=R;refine Gw0 ?_;intros;refine zd (λs:Nat×Bool=>([(0,encL 8 Xe n),(1,.int .i64 v),(2,.bool s.2),(3,encL 3 Sgn.cells l),(4,encL 1 cW j),(5,.bool o),(13,.int .i64 ((s.1:Int)-1))],[])) 0 (λs=>s.1<=n.length/\(n.take s.1).foldr (zuX l j o v) s.2=R) (λs=>s.1) (n.length,b) ⟨WC _,by simpa using S⟩ (Xg rfl fin5) ?_;rintro⟨k,c⟩ ⟨V,g⟩ wf;simp only at V g;clear wf;refine dcU zn4.eq_1 ?_
 cases k with
 |zero=>rw[Wv,List.foldr_nil]at g;subst g;refine Qa ?_;intros;refine dcU zoL.eq_1 ?_;refine Gw1 @zs4.eq_1 ?_;intros;exact bzO
 |succ m=>
  have t:m<n.length:=by omega
  rw[zE6 t]at g;have O:((((m+1:Nat):Int))-1)=(m:Int):=by omega
  have q:(n.map Xe).getD m []=n[m].cells:=zj (f:=Xe) (d:=[]) t;have A:=zDk n[m] v l j o (X _ (Wa t)) W T;have has:=zq0 n[m];unfold zuX at g;generalize n[m]=s at q A has g;obtain⟨op,var,w,next,J,M,e,N⟩:=s;simp only[Xe]at q A has g;simp only[O];generalize zEV l j o ⟨op,var,w,next,J,M,e,N⟩ v=U at A g;have y:((m:Nat):Int).toNat=m:=Wj m;have B:IntKind.i64.wrap ((m:Int)-1)=(m:Int)-1:=zyo (by omega) (by omega)
  have p:∀(K:Kn)(H:AH)(L:Nat)(u:Bool),(n.take m).foldr (zuX l j o v) u=R->Ent 0 K H L [(0,encL 8 Xe n),(1,.int .i64 v),(2,.bool u),(3,encL 3 Sgn.cells l),(4,encL 1 cW j),(5,.bool o),(13,.int .i64 ((m:Int)-1))] [] 0 ->
    ∃x:Nat×Bool,(x.1<=n.length/\(n.take x.1).foldr (zuX l j o v) x.2=R)/\x.1<m+1/\Ent 0 K H L [(0,encL 8 Xe n),(1,.int .i64 v),(2,.bool x.2),(3,encL 3 Sgn.cells l),(4,encL 1 cW j),(5,.bool o),(13,.int .i64 ((x.1:Int)-1))] [] 0:=λK H L u P Q=>⟨(m,u),⟨by simp only;omega,P⟩,by simp only;omega,Q⟩
  have I:decide ((0:Int)<=(m:Int))=true:=by rw[decide_eq_true_eq];omega
  refine Gw5 I @ub @zu q y ?_;intros;refine zc (zb has rfl) ?_;by_cases D:op=1\/op=3
  case' pos=>
   rw[decide_eq_true D];by_cases F:var=v
   case' pos=>rw[if_pos ⟨D,F⟩,Wy]at g;have C:decide (var=v)=true:=decide_eq_true F;refine Gw5 C @ub @zu q y ?_;intros;refine zc (zb A rfl) ?_;refine Gw1 B ?_;intros;exact p _ _ _ U g (Xg rfl fin5)
   case' neg=>
    rw[if_neg (λh=>F h.2)]at g;have C:decide (var=v)=false:=decide_eq_false F;cases c
    case' true=>refine Gw6 C @ub @zu q y B ?_;intros;exact p _ _ _ true (by rw[WE]at g;exact g) (Xg rfl fin5)
    case' false=>rw[Wy]at g;refine Gw5 C @ub @zu q y ?_;intros;refine zc (zb A rfl) ?_;refine Gw1 B ?_;intros;exact p _ _ _ U g (Xg rfl fin5)
  case' neg=>
   rw[decide_eq_false D];rw[if_neg (λh=>D h.1)]at g;cases c
   case' true=>refine Gw5 @ub @zu q y B ?_;intros;exact p _ _ _ true (by rw[WE]at g;exact g) (Xg rfl fin5)
   case' false=>rw[Wy]at g;refine Gw4 @ub @zu q y ?_;intros;refine zc (zb A rfl) ?_;refine Gw1 B ?_;intros;exact p _ _ _ U g (Xg rfl fin5)
theorem zr8(g)(d:fewC g)(e:OkG g)(b)(c:b<g.blocks.length):zq Z9 zhT [.agg g.cells,.int .i64 b] (·=zi (edgB g b)):=by have h:=Dm.R24_Edges_ok g.toG (ztI d) b (by simp[G.toG];exact c);rw[G.toG_cells,zKn e c]at h;exact h
theorem zsd{g}(d:fewC g){b}(c:b<g.blocks.length):(edgB g b).length<=8:=by unfold edgB;rw[Wx,zg8 c];exact zpd (by decide) (d.cases _ (Wa c))
theorem uc:type_of% @Int.toNat_natCast:=@Int.toNat_natCast
theorem zxB(g)(u:fewC g)(v:OkG g)(b)(p:b<g.blocks.length)(o)(x:o.length=g.blocks.length):zq Z9 znb [.agg g.cells,.int .i64 b,zeN o] (·=.bool (outV g o b)):=by
 refine fn_x zxF rfl ?_;unfold zqN outV;conv in Z8 _ _=>reduce
 have B:=hBig;have e:=zr8 g u v b p;have h:=zwc v p;have s:=zsd u p;have q:=u.blocks;generalize edgB g b=E at e h s;generalize w:E.any (λt=>o.getD t false)=R;obtain⟨y,A⟩:=g;simp only[G.cells]at e x h q⊢;refine Qi ?_;intros;refine zc (zb e rfl) ?_;refine Gw0 ?_;intros;refine zd (λk:Nat=>([(2,zeN o),(7,zi E),(8,.int .i64 k)],[])) 0 (λk=>k<=E.length/\((E.drop k).any λt=>o.getD t false)=R) (λk=>E.length-k) 0 ⟨Wc _,w⟩ (Xg rfl fin5) ?_;rintro k ⟨D,c⟩ wf;clear wf;refine dcU zm3.eq_1 ?_;by_cases d:k<E.length
 .rw[Wl d,XB]at c;have ge:(E.map λ(n:Nat)=>[Xb .i64 (n:Int)]).getD k []=[.int .i64 (E[k]:Int)]:=zj (f:=λ(n:Nat)=>[Xb .i64 (n:Int)]) d;have C:=h _ (Wa d);have j:E[k]<o.length:=by omega
  have go:(o.map λb=>[Xv b]).getD E[k] []=[.bool (o.getD E[k] false)]:=by rw[zj (f:=λb=>[Xv b]) j];simp[Wg,j]
  cases m:o.getD E[k] false with
  |true=>rw[m,WE]at c;subst c;refine Gw8 @dT @zeN.eq_1 @uf ge go m @uc @zl4.eq_1 ?_;intros;exact bzO
  |false=>rw[m,Wy]at c;refine Gw7 @dT @zeN.eq_1 @uf ge go m @uc ?_;intros;exact⟨k+1,⟨d,c⟩,by omega,(Xa [] [] rfl (Gin2_2 @zeN.eq_1 @uf) (Gin2_2 @zeN.eq_1 @uf))⟩
 .rw[Wq (by omega),XC]at c;subst c;refine Gw2 @dF @uf ?_;intros;unfold zmY;refine Gw1 @zl4.eq_1 ?_;intros;exact bzO
def cBl(b:Bool):List AV:=[.bool b]
theorem zzf(g)(I:fewC g)(S:OkG g)(v)(l)(d)(t)(T:d.length<=1000000)(Q:l.length=d.length):
  zq Z9 zpH [.agg g.cells,.int .i64 v,encL 3 Sgn.cells l,encL 1 cW d,.bool t] (·=zeN (zii g.blocks.length (zk6 g l d t v))):=by
 refine fn_x zzd rfl ?_;unfold zsH zii;conv in Z8 _ _=>reduce
 have hB:=hBig;have n:=λb q o A=>zxB g I S b q o A
 have w:=λb (q:b<g.blocks.length) u=>zzg g.blocks[b].stmts v u l d t (λs X=>Ws (I.size _ (Wa q) s X) (by decide)) (Ws (I.stmts _ (Wa q)) (by decide)) T Q
 have H:∀o b (q:b<g.blocks.length),zk6 g l d t v o b=befV l d t v g.blocks[b].stmts (outV g o b):=λo b q=>by unfold zk6;rw[zg8 q]
 have U:=I.blocks;generalize zk6 g l d t v=F at H⊢;generalize L:zqx F (Wp g.blocks.length) (g.blocks.length+1) (Wm g.blocks.length false)=R;generalize hO:outV g=O at n H;obtain⟨J,c⟩:=g;simp only[G.cells]at n w H U L⊢;have B:Wm c.length [Xv false]=(Wm c.length false).map cBl:=by rw[Wae];rfl
 have P:((c.length:Nat):Int).toNat=c.length:=Wj _;refine Gw3 @ub P B ?_;intros
 refine zd (λs:Nat×List Bool=>([(1,.int .i64 v),(2,encL 3 Sgn.cells l),(3,encL 1 cW d),(4,.bool t),(5,encP 2 [.int .u32 J,encL 2 Xf c]),(11,.own 0 0 0 0 c.length),(12,.int .i64 s.1)],[(0,.row 1 (s.2.map cBl) 0)])) 1
  (λs=>s.1<=c.length+1/\s.2.length=c.length/\zqx F (Wp c.length) (c.length+1-s.1) s.2=R) (λs=>c.length+1-s.1) (0,Wm c.length false) ⟨Wc _,by simp,L⟩ (Xa [(0,1,0)] [] rfl Qn Qn) ?_
 rintro⟨r,o⟩ ⟨V,A,k⟩ wf;simp only at V A k;clear wf;refine dcU zov.eq_1 ?_;by_cases W:r<=c.length;case neg=>rw[show c.length+1-r=0 by omega,zqx]at k;subst k;refine Qj ?_;intros;refine dcU zoo.eq_1 ?_;refine Gw1 @zsp.eq_1 ?_;intros;rw[<-A];exact⟨_,zqm trivial rfl (by omega),rfl⟩
 rw[show c.length+1-r=(c.length-r)+1 by omega,zqx]at k;refine Gw2 @dT @ub ?_;intros
 refine zd (λs:Nat×List Bool=>([(1,.int .i64 v),(2,encL 3 Sgn.cells l),(3,encL 1 cW d),(4,.bool t),(5,encP 2 [.int .u32 J,encL 2 Xf c]),(11,.own 0 0 0 0 c.length),(12,.int .i64 r),(13,.int .i64 s.1)],[(0,.row 1 (s.2.map cBl) 0)])) 1
  (λs=>s.1<=c.length/\s.2.length=c.length/\zqx F (Wp c.length) (c.length-r) (((Wp c.length).drop s.1).foldl (zk5 F) s.2)=R) (λs=>c.length-s.1) (0,o) ⟨Wc _,A,k⟩ (Xa [(0,0,0)] [] rfl Qn Qn) ?_
 rintro⟨b,p⟩ ⟨q,m,e⟩ wf;simp only at q m e;clear wf;refine dcU zom.eq_1 ?_;by_cases h:b<c.length;case neg=>rw[Wq (by simp;omega),Xs]at e;refine Qj ?_;intros;refine dcU zoN.eq_1 ?_;refine Gw0 ?_;intros;exact⟨(r+1,p),⟨by simp only;omega,m,by simp only;rw[show c.length+1-(r+1)=c.length-r by omega];exact e⟩,by simp only;omega,(Xa [(0,0,0)] [] rfl Qn Qn)⟩
 rw[Wl (by simpa using h),Xq,Waf]at e;have j:(c.map Xf).getD b []=Xf c[b]:=zj h;have K:=n b h p m;have y:=w b h (O p b);rw[<-H p b h]at y;have x:(p.map cBl).set b [.bool (F p b)]=(zk5 F p b).map cBl:=by unfold zk5;rw[WX];rfl
 have C:(zk5 F p b).length=c.length:=by rw[zvM,m]
 generalize zk5 F p b=Y at x e C;generalize F p b=Z at y x;generalize O p b=ob at K y;generalize c[b]=M at j y;obtain⟨bad,N⟩:=M;simp only[Xf]at j y;refine Gw5 @dT @ub @zu j @uc ?_;intros;refine zp (zaM (D:=λr _=>r=0) K (.cons (zZ rfl) (.cons (.int _ _ _) (.cons (m▸zqm rfl rfl (by omega)) .nil))) (.inl rfl)) ?_;refine Gw4 @ub @zu j @uc ?_;intros;refine zp (zb y rfl) ?_;refine Gw5 @ub @zu j @uc x ?_;intros;exact⟨(b+1,Y),⟨h,C,e⟩,by simp only;omega,(Xa [(0,0,0)] [] rfl Qn Qn)⟩
structure Kw where
 st:Int
 base:Int
 n:Int
deriving DecidableEq
def Kw.cells(k:Kw):List AV:=[.int .i64 k.st,.int .i64 k.base,.int .u32 k.n]
def Kw.z:Kw:=⟨0,0,0⟩
def Kw.no:Kw:=⟨2,0,0⟩
def encR(b:List Kw):List AV:=b.flatMap Kw.cells
theorem zao:∀b:List Kw,(encR b).length=3*b.length
 |[]=>rfl
 |
  r::b=>by
  have:=zao b;unfold encR at this⊢;rw[W8,Wr,Wf,this];simp only[Kw.cells,Wf,We];omega
theorem zhE(r)(rs):encR (r::rs)=.int .i64 r.st::.int .i64 r.base::.int .u32 r.n::encR rs:=rfl
theorem zvR:∀{b:List Kw}{k:Nat},(encR b).drop (k*3)=encR (b.drop k)
 |[],k=>by simp[encR]
 |r::b,0=>rfl
 |
  r::b,k+1=>by
  rw[zhE,show(k+1)*3=k*3+1+1+1 by omega];simp only[List.drop_succ_cons];exact zvR
theorem zA1:∀{b:List Kw}{k:Nat},(encR b).take (k*3)=encR (b.take k)
 |[],k=>by simp[encR]
 |r::b,0=>rfl
 |
  r::b,k+1=>by
  rw[zhE,show(k+1)*3=k*3+1+1+1 by omega];simp only[List.take_succ_cons,zhE];rw[zA1]
theorem zCt(a b):encR (a++b)=encR a++encR b:=W7
theorem zCs{rs}{k}(h:k<rs.length):(encR rs).drop (k*3)=.int .i64 (rs.getD k Kw.z).st::.int .i64 (rs.getD k Kw.z).base::.int .u32 (rs.getD k Kw.z).n::encR (rs.drop (k+1)):=by rw[zvR,Wl h,zhE];simp[Wg,h]
theorem zgR{rs}{k}(h:k<rs.length):sub (encR rs) (k*3) 3=(rs.getD k Kw.z).cells:=by unfold sub;rw[zCs h];rfl
theorem ziz{rs}{k j}(h:k<rs.length)(b:j<3):(encR rs).getD (k*3+j) .undef=(rs.getD k Kw.z).cells.getD j .undef:=by
 have e:(encR rs).getD (k*3+j) .undef=((encR rs).drop (k*3)).getD j .undef:=by simp only[Wg,List.getElem?_drop]
 rw[e,zCs h]
 match j,b with
 |0,_=>rfl
 |1,_=>rfl
 |2,_=>rfl
theorem zcZ{rs}{k}(h:k<rs.length)(c):splice (encR rs) (k*3) c.cells=encR (rs.set k c):=by unfold splice;rw[show k*3+c.cells.length=(k+1)*3 by simp only[Kw.cells,Wf,We];omega,zA1,zvR,List.set_eq_take_append_cons_drop,if_pos h,zCt,zhE];simp[Kw.cells]
theorem zue{rs}{k}(h:k<rs.length)(n):splice (encR rs) (k*3+2) [.int .u32 n]=encR (rs.set k { rs.getD k Kw.z with n:=n }):=by
 have c:=zcZ h { rs.getD k Kw.z with n:=n };rw[<-c];unfold splice;simp only[Wf,We,Kw.cells];have b:(encR rs).take (k*3+2)=(encR rs).take (k*3)++[.int .i64 (rs.getD k Kw.z).st,.int .i64 (rs.getD k Kw.z).base]:=by rw[List.take_add,zCs h];rfl
 rw[b];simp
theorem ze:∀b:List Kw,zQ (encR b)=true
 |[]=>rfl
 |r::b=>by rw[zhE];simp only[zQ,Xt,Wh];exact ze b
theorem zgi:∀b:List Kw,(encR b).all Xt=true
 |[]=>rfl
 |r::b=>by rw[zhE];simp only[Wt,Xt,Wh];exact zgi b
theorem zc9{len c r q g j f}{kk}{k}{H}{b}:xopR (.aaddr len c) [.ptr r q g j f,.int kk k] H b=⟨0<=k/\k<len,True,.ptr r q g j (f+k.toNat*c),H,b⟩:=rfl
theorem vw_R{H H2}{σ}{D}{t}{rs}:Vw H H2 σ D t (.agg (encR rs)) (.agg (encR rs)):=zZ (by simp only[Xk,zgi])
def zgK(f:Nat->Kw->Kw)(l:List Nat)(b:List Kw):List Kw:=l.foldl (λb k=>b.set k (f k (b.getD k Kw.z))) b
theorem ziy{f}:∀{l:List Nat}{b:List Kw},(zgK f l b).length=b.length
 |[],b=>rfl
 |
  k::l,b=>by
  show(zgK f l (b.set k _)).length=_;rw[ziy,WF]
abbrev R8:List Nat:=[0,1,2,3,4,5,6,7]
theorem zjM{f}{k}(h:k<8){rs}:zgK f (R8.drop k) rs=zgK f (R8.drop (k+1)) (rs.set k (f k (rs.getD k Kw.z))):=by
 match k,h with
 |0,_=>rfl
 |1,_=>rfl
 |2,_=>rfl
 |3,_=>rfl
 |4,_=>rfl
 |5,_=>rfl
 |6,_=>rfl
 |7,_=>rfl
def z8:List Kw:=Wm 8 Kw.z
def ownR:List Kw:=[⟨1,0,0⟩,⟨1,1,0⟩,⟨1,2,0⟩,⟨1,3,0⟩,⟨1,4,0⟩,⟨1,5,0⟩,⟨1,6,0⟩,⟨1,7,0⟩]
theorem zHJ:zgK (λk _=>⟨1,(k:Int),0⟩) R8 z8=ownR:=rfl
theorem ue:type_of% @Nat.zero_add:=@Nat.zero_add
theorem zEZ:zq Z9 zwz [] (·=.agg (encR ownR)):=by
 refine fn_x zFl rfl ?_;refine dcU zyH.eq_1 ?_;have o:=hBig;have n:[Xb .i64 0,.int .i64 0,.int .u32 0,.int .i64 0,.int .i64 0,.int .u32 0,.int .i64 0,.int .i64 0,.int .u32 0,.int .i64 0,.int .i64 0,.int .u32 0,.int .i64 0,.int .i64 0,.int .u32 0,.int .i64 0,.int .i64 0,.int .u32 0,.int .i64 0,.int .i64 0,.int .u32 0,.int .i64 0,.int .i64 0,.int .u32 0]=encR z8:=rfl;rw[<-zHJ];generalize g:zgK (λk _=>⟨1,(k:Int),0⟩) R8 z8=R;have j:R.length=8:=by rw[<-g,ziy];rfl
 refine Gw1 n ?_;intros;refine zd (λs:Nat×List Kw=>([(0,.ptr 0 0 0 0 0),(1,.ptr 1 0 0 0 0),(2,.int .i64 s.1)],[(0,.row 24 [encR z8] 0),(1,.row 24 [encR s.2] 0)])) 2 (λs=>s.1<=8/\s.2.length=8/\zgK (λk _=>⟨1,(k:Int),0⟩) (R8.drop s.1) s.2=R) (λs=>8-s.1) (0,z8) ⟨Wc _,rfl,g⟩ (Xg rfl fin5) ?_;rintro⟨k,rs⟩ ⟨m,h,b⟩ wf;simp only at m h b;clear wf;refine dcU zso.eq_1 ?_;by_cases c:k<8
 .rw[zjM c]at b;have d:=zcZ (rs:=rs) (k:=k) (by omega) ⟨1,(k:Int),0⟩;simp only[Kw.cells]at d;have e:(rs.set k ⟨1,(k:Int),0⟩).length=8:=by rw[WF,h]
  refine Gw5 @dT @uc @ue @zc9 d ?_;intros;exact⟨(k+1,rs.set k ⟨1,(k:Int),0⟩),⟨c,e,b⟩,by simp only;omega,Xg rfl fin5⟩
 .obtain rfl:k=8:=by omega
  rw[show R8.drop 8=[]from rfl,show zgK (λk _=>⟨1,(k:Int),0⟩) [] rs=rs from rfl]at b;subst b;refine Qa ?_;intros;refine dcU zsz.eq_1 ?_;refine Gw1 @zyB.eq_1 ?_;intros;exact⟨by rw[zao];omega,_,vw_R,rfl⟩
def zs7(a b:Kw):Kw:=if a.st=0 then b else if b.st≠0/\a≠b then Kw.no else a
def zte(r o:List Kw):List Kw:=zgK (λk a=>zs7 a (o.getD k Kw.z)) R8 r
def ret1(s:Sgn)(k:Nat)(a:Kw):Kw:=if (k:Int)∈s.sav then(if k=7/\a.st=1 then { a with n:=IntKind.u32.wrap (a.n+4) }else a)else if (k:Int)∈s.res then Kw.no else a
def retR(s:Sgn)(r:List Kw):List Kw:=zgK (ret1 s) R8 r
theorem eqsK{a b:Kw}:zX [0,0,0] a.cells b.cells=some (decide (a=b)):=by obtain⟨c,d,a3⟩:=a;obtain⟨e,g,h⟩:=b;simp only[Kw.cells,zX,if_true,WV,Wd];congr 1;rw[Bool.eq_iff_iff];simp
theorem zsI{b:List Kw}{k:Nat}(h:k<b.length):b.set k (b.getD k Kw.z)=b:=by
 have:b.getD k Kw.z=b[k]:=by simp[Wg,h]
 rw[this];exact Wag h
theorem uk:type_of% @Nat.add_zero:=@Nat.add_zero
theorem zB3(r o)(H:r.length=8)(S:o.length=8):zq Z9 ztW [.agg (encR r),.agg (encR o)] (·=.agg (encR (zte r o))):=by
 refine fn_x zCO rfl ?_;unfold zvK zte;conv in Z8 _ _=>reduce
 have Q:=hBig;have O:[Xb .i64 0,.int .i64 0,.int .u32 0,.int .i64 0,.int .i64 0,.int .u32 0,.int .i64 0,.int .i64 0,.int .u32 0,.int .i64 0,.int .i64 0,.int .u32 0,.int .i64 0,.int .i64 0,.int .u32 0,.int .i64 0,.int .i64 0,.int .u32 0,.int .i64 0,.int .i64 0,.int .u32 0,.int .i64 0,.int .i64 0,.int .u32 0]=encR z8:=rfl;generalize F:zgK (λk a=>zs7 a (o.getD k Kw.z)) R8 r=R;have M:R.length=8:=by rw[<-F,ziy];exact H
 have L:(encR r).length=24:=by rw[zao];omega
 have K:(encR o).length=24:=by rw[zao];omega
 have J:∀l:List AV,(Xi l).cells=l:=λ_=>rfl
 have P:∀l:List AV,(Xi l).solid=true:=λ_=>rfl
 refine Gw5 O J P L K ?_;intros;refine zd (λs:Nat×List Kw=>([(2,.ptr 0 0 0 0 0),(3,.ptr 1 0 0 0 0),(4,.ptr 2 0 0 0 0),(5,.int .i64 s.1)],[(0,.row 24 [encR s.2] 0),(1,.row 24 [encR o] 0),(2,.row 24 [encR z8] 0)])) 3 (λs=>s.1<=8/\s.2.length=8/\zgK (λk a=>zs7 a (o.getD k Kw.z)) (R8.drop s.1) s.2=R) (λs=>8-s.1) (0,r) ⟨Wc _,H,F⟩ (Xg rfl fin5) ?_;rintro⟨k,n⟩ ⟨N,A,d⟩ wf;simp only at N A d;clear wf;refine dcU zrd.eq_1 ?_;by_cases g:k<8
 .rw[zjM g]at d;have m:k<n.length:=by omega
  have v:k<o.length:=by omega
  have x:=zgR m;have u:=zgR v;have t:=ziz (j:=0) m (by decide);have go:=ziz (j:=0) v (by decide);have I:=zcZ m;have q:=I (o.getD k Kw.z);have w:=I Kw.no;simp only[Kw.cells,Kw.no,Wk,WO]at q w t go;have p:∀c:Kw,(n.set k c).length=8:=λc=>by rw[WF,A]
  have e:=zsI m;unfold zs7 at d;generalize n.getD k Kw.z=a at t x d e;generalize o.getD k Kw.z=b at go u d q;by_cases C:a.st=0
  .rw[if_pos C]at d;simp only[Kw.cells]at u;refine Gw11 @dT @dF @uc @ue @uk @zc9 t go x u q ?_;intros;exact⟨(k+1,n.set k b),⟨g,p _,d⟩,by simp only;omega,Xg rfl fin5⟩
  .rw[if_neg C]at d;by_cases D:b.st=0
   .rw[if_neg (λh=>h.1 D),e]at d;refine Gw10 @dT @dF @uc @ue @uk @zc9 t go x u ?_;intros;exact⟨(k+1,n),⟨g,A,d⟩,by simp only;omega,Xg rfl fin5⟩
   .by_cases y:a=b
    .rw[if_neg (λh=>h.2 y),e]at d;have B:(!decide (a=b))=false:=by simp[y]
     (repeat first|simp(disch:=try exact dis1) only[evD,Xc,Xd,Xh,dT,dF,Wj,Ww,WO,zc9,t,go,x,u,eqsK,eqTo,cond_true,B]|with_reducible first|intro _|refine aJ ?_)
     exact⟨(k+1,n),⟨g,A,d⟩,by simp only;omega,Xg rfl fin5⟩
    .rw[if_pos ⟨D,y⟩]at d;have B:(!decide (a=b))=true:=by simp[y]
     (repeat first|simp(disch:=try exact dis1) only[evD,Xc,Xd,Xh,dT,dF,Wj,Ww,WO,zc9,t,go,x,u,eqsK,eqTo,cond_true,B,w]|with_reducible first|intro _|refine aJ ?_)
     exact⟨(k+1,n.set k Kw.no),⟨g,p _,d⟩,by simp only;omega,Xg rfl fin5⟩
 .obtain rfl:k=8:=by omega
  rw[show R8.drop 8=[]from rfl,show zgK (λk a=>zs7 a (o.getD k Kw.z)) [] n=n from rfl]at d;subst d;refine Qa ?_;intros;refine dcU zq9.eq_1 ?_;refine Gw1 @zw6.eq_1 ?_;intros;exact⟨by rw[zao];omega,_,vw_R,rfl⟩
theorem zvS(r)(s)(M:r.length=8):zq Z9 zl5 [.agg (encR r),.agg s.cells] (·=.agg (encR (retR s r))):=by
 refine fn_x zvx rfl ?_;unfold zpJ retR;conv in Z8 _ _=>reduce
 have U:=hBig;have S:[Xb .i64 0,.int .i64 0,.int .u32 0,.int .i64 0,.int .i64 0,.int .u32 0,.int .i64 0,.int .i64 0,.int .u32 0,.int .i64 0,.int .i64 0,.int .u32 0,.int .i64 0,.int .i64 0,.int .u32 0,.int .i64 0,.int .i64 0,.int .u32 0,.int .i64 0,.int .i64 0,.int .u32 0,.int .i64 0,.int .i64 0,.int .u32 0]=encR z8:=rfl;have B:=λx=>Dm.R24_Has_ok s.sav x
 have A:=λx=>Dm.R24_Has_ok s.res x
 generalize K:zgK (ret1 s) R8 r=R;have P:R.length=8:=by rw[<-K,ziy];exact M
 have O:(encR r).length=24:=by rw[zao];omega
 have N:∀l:List AV,(Xi l).cells=l:=λ_=>rfl
 have T:∀l:List AV,(Xi l).solid=true:=λ_=>rfl
 simp only[Sgn.cells];refine Gw5 S N T O @ua ?_;intros;refine zd (λt:Nat×List Kw=>([(2,.ptr 0 0 0 0 0),(3,encP 3 [za s.args,za s.res,za s.sav]),(4,.ptr 1 0 0 0 0),(5,.int .i64 t.1)],[(0,.row 24 [encR t.2] 0),(1,.row 24 [encR z8] 0)])) 2 (λt=>t.1<=8/\t.2.length=8/\zgK (ret1 s) (R8.drop t.1) t.2=R) (λt=>8-t.1) (0,r) ⟨Wc _,M,K⟩ (Xg rfl fin5) ?_;rintro⟨k,m⟩ ⟨Q,y,b⟩ wf;simp only at Q y b;clear wf;refine dcU zlF.eq_1 ?_;by_cases e:k<8
 .rw[zjM e]at b;have g:k<m.length:=by omega
  have V:=zgR g;have u:=ziz (j:=0) g (by decide);have D:=ziz (j:=2) g (by decide);have C:=zcZ g Kw.no;have w:=λn=>zue g n
  simp only[Kw.cells,Kw.no,Wk,Wn,WO]at C u D;have q:∀c:Kw,(m.set k c).length=8:=λc=>by rw[WF,y]
  have d:=zsI g;unfold ret1 at b;have v:=B k;have F:=A k;have I:decide ((k:Int)=7)=decide (k=7):=decide_eq_decide.2 (by omega);by_cases H:(k:Int)∈s.sav
  .rw[if_pos H]at b;rw[decide_eq_true H]at v;by_cases J:k=7
   .by_cases p:(m.getD k Kw.z).st=1
    .rw[if_pos ⟨J,p⟩]at b;have L:=b;generalize m.getD k Kw.z=a at u D w b p;refine Gw8 @dT @dF @uc @ue @uk @zc9 u @ub ?_;intros;refine zc (zb v rfl) ?_;refine Gw10 @dT @dF I @uc @ue @uk @zc9 u D w ?_;intros;exact⟨(k+1,_),⟨e,q _,b⟩,by simp only;omega,Xg rfl fin5⟩
    .rw[if_neg (λh=>p h.2),d]at b;generalize m.getD k Kw.z=a at u D w p;refine Gw8 @dT @dF @uc @ue @uk @zc9 u @ub ?_;intros;refine zc (zb v rfl) ?_;refine Gw8 @dT @dF I @uc @ue @uk @zc9 u ?_;intros;exact⟨(k+1,m),⟨e,y,b⟩,by simp only;omega,Xg rfl fin5⟩
   .rw[if_neg (λh=>J h.1),d]at b;refine Gw6 @dT @dF @uc @ue @uk @ub ?_;intros;refine zc (zb v rfl) ?_;refine Gw2 @dF I ?_;intros;exact⟨(k+1,m),⟨e,y,b⟩,by simp only;omega,Xg rfl fin5⟩
  .rw[if_neg H]at b;rw[decide_eq_false H]at v;by_cases o:(k:Int)∈s.res
   .rw[if_pos o]at b;rw[decide_eq_true o]at F;refine Gw3 @dT @dF @ub ?_;intros;refine zc (zb v rfl) ?_;refine Gw1 @ub ?_;intros;refine zc (zb F rfl) ?_;refine Gw7 @dT @dF @uc @ue @uk @zc9 C ?_;intros;exact⟨(k+1,m.set k Kw.no),⟨e,q _,b⟩,by simp only;omega,Xg rfl fin5⟩
   .rw[if_neg o,d]at b;rw[decide_eq_false o]at F;refine Gw3 @dT @dF @ub ?_;intros;refine zc (zb v rfl) ?_;refine Gw1 @ub ?_;intros;refine zc (zb F rfl) ?_;refine Gw0 ?_;intros;exact⟨(k+1,m),⟨e,y,b⟩,by simp only;omega,Xg rfl fin5⟩
 .obtain rfl:k=8:=by omega
  rw[show R8.drop 8=[]from rfl,show zgK (ret1 s) [] m=m from rfl]at b;subst b;refine Qa ?_;intros;refine dcU zlq.eq_1 ?_;refine Gw1 @zpy.eq_1 ?_;intros;exact⟨by rw[zao];omega,_,vw_R,rfl⟩
def zJ2:List Ex->Int
 |[_,.mk o _ _ _ _]=>o
 |_=>0
def nAt1:List Ex->Int
 |[_,.mk _ n _ _ _]=>n
 |_=>0
def addK(op m:Int)(x:Kw):Kw:=if x.st=1 then { x with n:=IntKind.u32.wrap (if op=3 then x.n+m else x.n-m) }else x
mutual
def zkr(b:List Kw):Ex->Kw
 |.mk op _ v _ l=>if op=2/\0<=v/\v<8 then b.getD v.toNat Kw.z else if (op=3\/op=4)/\zJ2 l=1 then addK op (nAt1 l) (zkT b l)else Kw.no
def zkT(b:List Kw):List Ex->Kw
 |[]=>Kw.no
 |e::_=>zkr b e
end
theorem uq:type_of% @zbq.eq_1:=@zbq.eq_1
theorem zBd(rs)(hr:rs.length=8):∀(k:Nat)(e:Ex),zbF e<=k->zq Z9 znU [.agg (encX e),.agg (encR rs)] (·=.agg (zkr rs e).cells):=by
 intro k
 induction k with
 |zero=>intro e h;obtain⟨_,_,_,_,l⟩:=e;rw[zbF]at h;omega
 |succ k ih=>
 intro e hk;obtain⟨op,n,v,w,l⟩:=e;refine fn_x zAR rfl ?_;unfold zuE;have hB:=hBig;rw[zbF]at hk;rw[zkr];generalize hE:encX (.mk op n v w l)=E;rw[zdw]at hE;subst hE;have M:(encR rs).length=24:=by rw[zao];omega
 have B:∀l:List AV,(Xi l).cells=l:=λ_=>rfl
 have C:∀l:List AV,(Xi l).solid=true:=λ_=>rfl
 have retK:∀(H:AH)(c:Kw),∃a,Frz H (.agg c.cells) a/\a=.agg c.cells:=λH c=>⟨_,zZ rfl,rfl⟩
 have p:∀c:Kw,c.cells.length=3:=λ_=>rfl
 by_cases h2:op=2/\0<=v/\v<8
 .rw[if_pos h2];obtain⟨rfl,Z,hv8⟩:=h2;have sr:=zgR (rs:=rs) (k:=v.toNat) (by omega);refine Gw10 @dT @dF B C M @ub @ue @zc9 sr @uq ?_;intros;exact⟨rfl,retK _ _⟩
 rw[if_neg h2];by_cases ho2:op=2
 .subst ho2;rw[if_neg (by omega)];by_cases Z:0<=v
  .have hv8:¬v<8:=λh=>h2 ⟨rfl,Z,h⟩
   refine Gw7 @dT @dF B C M @ub @uq ?_;intros;exact retK _ Kw.no
  ·(refine Gw7 @dT @dF B C M @ub @uq ?_;intros);exact retK _ Kw.no
 by_cases A:op=3\/op=4
 case neg=>
  rw[if_neg (λh=>A h.1)];have h3:¬op=3:=λh=>A (.inl h)
  have h4:¬op=4:=λh=>A (.inr h)
  refine Gw7 @dT @dF B C M @ub @uq ?_;intros;exact retK _ Kw.no
 have R:l.length=2\/l.length≠2/\zJ2 l=0:=by
  match l with
  |[]=>exact .inr ⟨by simp,rfl⟩
  |[a]=>exact .inr ⟨by simp,rfl⟩
  |[a,b]=>exact .inl rfl
  |a::b::c::t=>exact .inr ⟨by simp,by obtain⟨_,_,_,_,_⟩:=b;rfl⟩
 rcases R with R|⟨R,ho0⟩
 case inr=>
  rw[if_neg (by rw[ho0];omega)];rcases A with rfl|rfl
  ·(refine Gw7 @dT @dF B C M @ub @uq ?_;intros);exact retK _ Kw.no
  ·(refine Gw7 @dT @dF B C M @ub @uq ?_;intros);exact retK _ Kw.no
 obtain⟨a,N,D,U,V,T,X⟩:∃a N D U V T,l=[a,.mk N D U V T]:=by
  match l,R with
  |[a,.mk N D U V T],_=>exact⟨a,N,D,U,V,T,rfl⟩
 have ga:(l.map encX).getD (WJ 0) []=encX a:=by rw[X];rfl
 have S:(l.map encX).getD (WJ 1) []=[.int .i64 N,.int .u32 D,.int .i64 U,.int .i64 V,encL 5 encX T]:=by rw[X];show encX (.mk N D U V T)=_;rw[zdw]
 rw[show zJ2 l=N by rw[X];rfl,show nAt1 l=D by rw[X];rfl,show zkT rs l=zkr rs a by rw[X,zkT]]
 have hsz:zbF a<=k:=by
  have:zW l=zbF a+(zbF (Ex.mk N D U V T)+0):=by rw[X,zW,zW,zW]
  omega
 have W:=ih a hsz;clear X;by_cases Y:N=1
 case neg=>
  rw[if_neg (λh=>Y h.2)];rcases A with rfl|rfl
  ·(refine Gw8 @dT @dF B C M @ub S @uq ?_;intros);exact retK _ Kw.no
  ·(refine Gw8 @dT @dF B C M @ub S @uq ?_;intros);exact retK _ Kw.no
 rw[if_pos ⟨A,Y⟩];generalize zkr rs a=c at W;have O:c.cells.getD 0 .undef=.int .i64 c.st:=rfl;have P:c.cells.getD 2 .undef=.int .u32 c.n:=rfl;have Q:∀m:Int,splice c.cells 2 [.int .u32 m]=(⟨c.st,c.base,m⟩:Kw).cells:=λm=>rfl
 rcases A with rfl|rfl
 .have F:addK 3 D c=if c.st=1 then { c with n:=IntKind.u32.wrap (c.n+D) }else c:=by unfold addK;simp
  rw[F];refine Gw7 @dT @dF B C M @ub S ?_;intros;refine zjG zfw zoy zm1 zef [(45,(.iptr 1 λj=>[Xb .i64 3,.int .u32 n,.int .i64 v,.int .i64 w,encL 5 encX l].getD (4+j) .undef)),(46,encL 5 encX l),(47,(.iptr 5 λj=>(encX a).getD j .undef)),(48,.agg (encX a)),(49,.agg (encR rs)),(50,.agg c.cells),(5,.ptr 2 0 0 0 0)] (hsOf [([(0,.row 24 [encR rs] 0),(1,.row 3 [[.int .i64 0,.int .i64 0,.int .u32 0]] 0)],2),([(0,.row 24 [encR rs] 0),(1,.row 3 [[.int .i64 0,.int .i64 0,.int .u32 0]] 0),(2,.row 3 [[.int .i64 0,.int .i64 0,.int .u32 0]] 0)],3),([(0,.row 24 [encR rs] 0),(1,.row 3 [[.int .i64 0,.int .i64 0,.int .u32 0]] 0),(2,.row 3 [c.cells] 0)],3)]) (by kernel_rfl) (by rfl) (by rfl) (by repeat' first|exact QExt.retK|apply QExt.seq|apply QExt.block|apply QExt.loop|apply QExt.join|assumption) ?plan [(5,.ptr 2 0 0 0 0)] (by rfl) ?fin
  case' plan=>
   intro g hs o hH;have q:g.get 45=(.iptr 1 λj=>[Xb .i64 3,.int .u32 n,.int .i64 v,.int .i64 w,encL 5 encX l].getD (4+j) .undef):=by rw[o,zg];rfl
   have s:g.get 46=encL 5 encX l:=by rw[o,zg];rfl
   have u:g.get 47=(.iptr 5 λj=>(encX a).getD j .undef):=by rw[o,zg];rfl
   have x:g.get 48=.agg (encX a):=by rw[o,zg];rfl
   have y:g.get 49=.agg (encR rs):=by rw[o,zg];rfl
   have d:g.get 50=.agg c.cells:=by rw[o,zg];rfl
   have L:g.get 5=.ptr 2 0 0 0 0:=by rw[o,zg];rfl
   have J:g.get 2=encP 5 [.int .i64 3,.int .u32 n,.int .i64 v,.int .i64 w,encL 5 encX l]:=by rw[o,zg];rfl
   have K:g.get 3=.ptr 0 0 0 0 0:=by rw[o,zg];rfl
   simp only[zef,zfq,zhc,and_true]
   (repeat' with_reducible apply Wz)
   all_goals(rw[hH];simp only[znC,zhs,Wn,Wk,hsOf,hsAt,beqL,zdE,Xc,Wd,Wh,Wu,Wi,cond_true,cond_false,Wf,We,Xd])
   all_goals try(simp(disch:=try exact dis1) only[evD,Xc,Xd,Xh,zar,zac,q,s,u,x,y,d,L,J,K,fldP,zu,ga,zaG,zan,p];done)
  case' fin=>simp only[zfw,hsOf,hsAt,beqL,zdE,Xc,Wd,Wh,Wu,Wi,cond_true,cond_false,Wf,We,Xd,Wn,Wk,zeL]
  .by_cases I:c.st=1
   .rw[if_pos I];refine Gw12 @dT @dF O P Q @ub @zu S p B C @uq ?_;intros;exact retK _ ⟨c.st,c.base,_⟩
   .rw[if_neg I];refine Gw12 @dT @dF O P Q @ub @zu S p B C @uq ?_;intros;exact retK _ c
  all_goals(repeat first|simp(disch:=try exact dis1) only[evD,Xc,Xd,Xh,q,s,u,x,y,d,L,J,K,fldP,zu,ga,zaG,zan,p,zar,zac]|with_reducible first|intro _|refine aJ ?_)
  all_goals first
   |omega
   |(refine zp (zb W (flX (by simp only[Wt,WA,Xk,zgi,Wd]))) ?_;(refine Gw3 @zar @zac d ?_;intros;try with_reducible exact trivial))
 .have F:addK 4 D c=if c.st=1 then { c with n:=IntKind.u32.wrap (c.n-D) }else c:=by unfold addK;simp
  rw[F];refine Gw7 @dT @dF B C M @ub S ?_;intros;refine zjG zfw zoy zm1 zef [(45,(.iptr 1 λj=>[Xb .i64 4,.int .u32 n,.int .i64 v,.int .i64 w,encL 5 encX l].getD (4+j) .undef)),(46,encL 5 encX l),(47,(.iptr 5 λj=>(encX a).getD j .undef)),(48,.agg (encX a)),(49,.agg (encR rs)),(50,.agg c.cells),(5,.ptr 2 0 0 0 0)] (hsOf [([(0,.row 24 [encR rs] 0),(1,.row 3 [[.int .i64 0,.int .i64 0,.int .u32 0]] 0)],2),([(0,.row 24 [encR rs] 0),(1,.row 3 [[.int .i64 0,.int .i64 0,.int .u32 0]] 0),(2,.row 3 [[.int .i64 0,.int .i64 0,.int .u32 0]] 0)],3),([(0,.row 24 [encR rs] 0),(1,.row 3 [[.int .i64 0,.int .i64 0,.int .u32 0]] 0),(2,.row 3 [c.cells] 0)],3)]) (by kernel_rfl) (by rfl) (by rfl) (by repeat' first|exact QExt.retK|apply QExt.seq|apply QExt.block|apply QExt.loop|apply QExt.join|assumption) ?plan2 [(5,.ptr 2 0 0 0 0)] (by rfl) ?fin2
  case' plan2=>
   intro g hs o hH;have q:g.get 45=(.iptr 1 λj=>[Xb .i64 4,.int .u32 n,.int .i64 v,.int .i64 w,encL 5 encX l].getD (4+j) .undef):=by rw[o,zg];rfl
   have s:g.get 46=encL 5 encX l:=by rw[o,zg];rfl
   have u:g.get 47=(.iptr 5 λj=>(encX a).getD j .undef):=by rw[o,zg];rfl
   have x:g.get 48=.agg (encX a):=by rw[o,zg];rfl
   have y:g.get 49=.agg (encR rs):=by rw[o,zg];rfl
   have d:g.get 50=.agg c.cells:=by rw[o,zg];rfl
   have L:g.get 5=.ptr 2 0 0 0 0:=by rw[o,zg];rfl
   have J:g.get 2=encP 5 [.int .i64 4,.int .u32 n,.int .i64 v,.int .i64 w,encL 5 encX l]:=by rw[o,zg];rfl
   have K:g.get 3=.ptr 0 0 0 0 0:=by rw[o,zg];rfl
   simp only[zef,zfq,zhc,and_true]
   (repeat' with_reducible apply Wz)
   all_goals(rw[hH];simp only[znC,zhs,Wn,Wk,hsOf,hsAt,beqL,zdE,Xc,Wd,Wh,Wu,Wi,cond_true,cond_false,Wf,We,Xd])
   all_goals try(simp(disch:=try exact dis1) only[evD,Xc,Xd,Xh,zar,zac,q,s,u,x,y,d,L,J,K,fldP,zu,ga,zaG,zan,p];done)
  case' fin2=>simp only[zfw,hsOf,hsAt,beqL,zdE,Xc,Wd,Wh,Wu,Wi,cond_true,cond_false,Wf,We,Xd,Wn,Wk,zeL]
  .by_cases I:c.st=1
   .rw[if_pos I];refine Gw12 @dT @dF O P Q @ub @zu S p B C @uq ?_;intros;exact retK _ ⟨c.st,c.base,_⟩
   .rw[if_neg I];refine Gw12 @dT @dF O P Q @ub @zu S p B C @uq ?_;intros;exact retK _ c
  all_goals(repeat first|simp(disch:=try exact dis1) only[evD,Xc,Xd,Xh,q,s,u,x,y,d,L,J,K,fldP,zu,ga,zaG,zan,p,zar,zac]|with_reducible first|intro _|refine aJ ?_)
  all_goals first
   |omega
   |(refine zp (zb W (flX (by simp only[Wt,WA,Xk,zgi,Wd]))) ?_;(refine Gw3 @zar @zac d ?_;intros;try with_reducible exact trivial))
structure OkS(s:St):Prop where
 asg:s.op=1->s.e.length≠0
 var:s.op=1\/s.op=3->0<=s.var
 form:∀e∈s.e,zgJ e=true
 size:zW s.e<=100000
def thr1(l:List Sgn)(c:List Int)(b:List Kw)(s:St):List Kw :=
 if s.op=1 then(if s.var<8 then b.set s.var.toNat (zkT b s.e)else b)else if s.op=3 then(if s.var<8 then b.set s.var.toNat Kw.no else b)else if s.op=5 then retR (zaz l c s.tgt) b else b
def thrR(l:List Sgn)(b:List Int)(d:List St)(c:List Kw):List Kw:=d.foldl (thr1 l b) c
theorem zzF{s}{rs}:(retR s rs).length=rs.length:=ziy
theorem zEs{l}{at'}{rs}{s}:(thr1 l at' rs s).length=rs.length:=by
 unfold thr1
 repeat' split
 all_goals simp[zzF]
theorem zEa{l}{at'}:∀{c:List St}{b:List Kw},(thrR l at' c b).length=b.length
 |[],b=>rfl
 |
  s::c,b=>by
  show(thrR l at' c (thr1 l at' b s)).length=_;rw[zEa,zEs]
theorem QC{p:Prop}(h:p:=by(try simp only[evWB,Nat.reduceBEq,Nat.reduceAdd,Nat.reduceSub,Nat.reduceLeDiff,Nat.reduceLT,implies_true])<;>(repeat' with_reducible apply And.intro)<;>first|(exact zh (ze _);done)|exact fin6):p:=h
theorem zrl(g)(rs)(l)(at')(hs:∀s∈g,OkS s)(B:rs.length=8)(hn:g.length<=1000000)(hl:at'.length<=1000000)(he:l.length=at'.length):
  zq Z9 zjI [encL 8 Xe g,.agg (encR rs),encL 3 Sgn.cells l,encL 1 cW at'] (·=.agg (encR (thrR l at' g rs))):=by
 refine fn_x zxh rfl ?_;unfold zrk thrR;conv in Z8 _ _=>reduce
 have hB:=hBig;have hz:[Xb .i64 0,.int .i64 0,.int .u32 0,.int .i64 0,.int .i64 0,.int .u32 0,.int .i64 0,.int .i64 0,.int .u32 0,.int .i64 0,.int .i64 0,.int .u32 0,.int .i64 0,.int .i64 0,.int .u32 0,.int .i64 0,.int .i64 0,.int .u32 0,.int .i64 0,.int .i64 0,.int .u32 0,.int .i64 0,.int .i64 0,.int .u32 0]=encR z8:=rfl;generalize P:g.foldl (thr1 l at') rs=R;have hR8:R.length=8:=by rw[<-P];exact zEa.trans B
 have p:(encR rs).length=24:=by rw[zao];omega
 have q:∀l:List AV,(Xi l).cells=l:=λ_=>rfl
 have y:∀l:List AV,(Xi l).solid=true:=λ_=>rfl
 refine Gw4 hz q y p ?_;intros;refine zd (λt:Nat×List Kw=>([(0,encL 8 Xe g),(2,encL 3 Sgn.cells l),(3,encL 1 cW at'),(5,.ptr 0 0 0 0 0),(8,.ptr 1 0 0 0 0),(9,.int .i64 t.1)],[(0,.row 24 [encR t.2] 0),(1,.row 24 [encR z8] 0)])) 2 (λt=>t.1<=g.length/\t.2.length=8/\(g.drop t.1).foldl (thr1 l at') t.2=R) (λt=>g.length-t.1) (0,rs) ⟨Wc _,B,P⟩ (Xg rfl fin5) ?_;clear p P B;rintro⟨k,rs⟩ ⟨hk,B,j⟩ wf;simp only at hk B j;clear wf;refine dcU zml.eq_1 ?_;by_cases w:k<g.length;case neg=>rw[Wq (by omega),Xs]at j;subst j;refine Qa ?_;intros;refine dcU zmP.eq_1 ?_;refine Gw1 @zrf.eq_1 ?_;intros;exact⟨by rw[zao];omega,_,vw_R,rfl⟩
 rw[Wl w,Xq]at j;have v:(g.map Xe).getD k []=g[k].cells:=zj (f:=Xe) (d:=[]) w;have J:=hs _ (Wa w);have h:=zn0 l at' g[k] hl he;have m:=zEs (l:=l) (at':=at') (rs:=rs) (s:=g[k]);rw[B]at m
 have b:∀(K:Kn)(H:AH)(U:Nat)(u:List Kw),u=thr1 l at' rs g[k]->Ent 0 K H U [(0,encL 8 Xe g),(2,encL 3 Sgn.cells l),(3,encL 1 cW at'),(5,.ptr 0 0 0 0 0),(8,.ptr 1 0 0 0 0),(9,.int .i64 ((k+1:Nat):Int))] [(0,.row 24 [encR u] 0),(1,.row 24 [encR z8] 0)] 2 ->
   ∃C:Nat×List Kw,(C.1<=g.length/\C.2.length=8/\(g.drop C.1).foldl (thr1 l at') C.2=R)/\g.length-C.1<g.length-k/\Ent 0 K H U [(0,encL 8 Xe g),(2,encL 3 Sgn.cells l),(3,encL 1 cW at'),(5,.ptr 0 0 0 0 0),(8,.ptr 1 0 0 0 0),(9,.int .i64 C.1)] [(0,.row 24 [encR C.2] 0),(1,.row 24 [encR z8] 0)] 2:=λK H U u F Z=>⟨(k+1,u),⟨w,by rw[F];exact m,by rw[F];exact j⟩,by simp only;omega,Z⟩
 clear j m;unfold thr1 at b;generalize g[k]=s at v J h b;obtain⟨op,var,V,next,Y,D,e,cs⟩:=s;obtain⟨A,o,-,S⟩:=J;simp only[Xe]at v A o h b S;have p:(encR rs).length=24:=by rw[zao];omega
 by_cases F:op=1
 .have T:=o (.inl F);subst F;rw[if_pos rfl]at b;by_cases M:var<8
  .rw[if_pos M]at b;have Q:=A rfl
   cases e with
   |nil=>exact absurd rfl Q
   |cons x e=>
   have n:=zcZ (rs:=rs) (k:=var.toNat) (by omega) (zkr rs x);have N:=zBd rs B (zbF x) x (WC _);have W:((x::e).map encX).getD (WJ 0) []=encX x:=rfl;rw[zkT]at b;have m:0<(x::e).length:=by simp
   generalize zkr rs x=c at b n N;generalize hE:x::e=E at v W h m;refine Gw11 @dT @dF q y p @ub @zu v W @zaG @zan ?_;intros;refine zp (zb N (flX (by simp only[Wt,WA,Xk,zgi,Wd]))) ?_;refine Gw10 @dT @dF q y p @ub @zu @ue @zc9 n ?_;intros;refine⟨⟨by omega,rfl⟩,λ_ _=>b _ _ _ _ rfl ?_⟩;exact(Xa [(0,0,0),(1,1,0)] [] rfl QC QC)
  .rw[if_neg M]at b;refine Gw8 @dT @dF q y p @ub @zu v ?_;intros;exact b _ _ _ _ rfl (Xa [(0,0,0),(1,1,0)] [] rfl QC QC)
 rw[if_neg F]at b;by_cases O:op=3
 .have T:=o (.inr O);subst O;rw[if_pos rfl]at b;by_cases M:var<8
  .rw[if_pos M]at b;have n:=zcZ (rs:=rs) (k:=var.toNat) (by omega) Kw.no;simp only[Kw.cells,Kw.no]at n;refine Gw11 @dT @dF q y p @ub @zu v @ue @zc9 n ?_;intros;exact b _ _ _ _ rfl (Xa [(0,0,0),(1,1,0)] [] rfl QC QC)
  .rw[if_neg M]at b;refine Gw8 @dT @dF q y p @ub @zu v ?_;intros;exact b _ _ _ _ rfl (Xa [(0,0,0),(1,1,0)] [] rfl QC QC)
 rw[if_neg O]at b;by_cases X:op=5
 .subst X;rw[if_pos rfl]at b;have L:=zvS rs (zaz l at' D) B;have I:(encR (retR (zaz l at' D) rs)).length=24:=by rw[zao,zzF];omega
  generalize zaz l at' D=c at b h L I;refine Gw8 @dT @dF q y p @ub @zu v ?_;intros;refine zp (zb h rfl) ?_;refine Qi ?_;intros;refine zp (zb L (by simp only[Wt,WA,Xk,zgi,Wd];rfl)) ?_;refine Gw3 q y I ?_;intros;exact b _ _ _ _ rfl (Xa [(0,0,0),(1,1,0)] [] rfl QC QC)
 .rw[if_neg X]at b;refine Gw8 @dT @dF q y p @ub @zu v ?_;intros;exact b _ _ _ _ rfl (Xa [(0,0,0),(1,1,0)] [] rfl QC QC)
theorem zDK:∀{a b:List Kw},a.length=b.length->zX (Wm (3*a.length) 0) (encR a) (encR b)=some (decide (a=b))
 |[],[],_=>rfl
 |[],_::_,h=>by cases h
 |_::_,[],h=>by cases h
 |
  x::a,y::b,h=>by
  have c:=zDK (a:=a) (b:=b) (by simpa using h);rw[Wf,show 3*(a.length+1)=3*a.length+1+1+1 by omega,WY,WY,WY,zhE,zhE];simp only[zX,if_true,c,WV];congr 1;obtain⟨d,e,g⟩:=x;obtain⟨j,k,m⟩:=y;rw[Bool.eq_iff_iff];simp only[WZ,decide_eq_true_eq,List.cons.injEq,Kw.mk.injEq,and_assoc]
theorem eqs24{a b}(c:a.length=8)(d:b.length=8):zX [0,0,0,0,0,0,0,0,0,0,0,0,0,0,0,0,0,0,0,0,0,0,0,0] (encR a) (encR b)=some (decide (a=b)):=by have h:=zDK (a:=a) (b:=b) (by omega);rw[c]at h;exact h
def zrI(x:List Kw)(p:List (List Kw)×Bool)(e:Nat):List (List Kw)×Bool:=(p.1.set e (zte (p.1.getD e z8) x),p.2||decide (zte (p.1.getD e z8) x≠p.1.getD e z8))
def zzG(g:G)(l:List Sgn)(c:List Int)(o:List (List Kw))(b:Nat):List Kw:=thrR l c (blkG g b).stmts (o.getD b z8)
def zu5(g:G)(l:List Sgn)(c:List Int)(p:List (List Kw)×Bool)(b:Nat):List (List Kw)×Bool:=(edgB g b).foldl (zrI (zzG g l c p.1 b)) p
def zl2(g:G)(l:List Sgn)(b:List Int)(c:List Nat)(o:List (List Kw)):List (List Kw)×Bool:=c.foldl (zu5 g l b) (o,false)
def zsu(g:G)(l:List Sgn)(b:List Int)(c:List Nat):Nat->List (List Kw)->List (List Kw)
 |0,o=>o
 |n+1,o=>if (zl2 g l b c o).2 then zsu g l b c n (zl2 g l b c o).1 else(zl2 g l b c o).1
def CanK(k:Kw):Prop:=k=Kw.z\/k.st=1\/k=Kw.no
def CanR(r:List Kw):Prop:=r.length=8/\∀k∈r,CanK k
def muK(k:Kw):Nat:=2-k.st.toNat
def muR8(r:List Kw):Nat:=(r.map muK).sum
def muO(o:List (List Kw)):Nat:=(o.map muR8).sum
theorem zDo{α:Type}{f:α->Nat}:∀{l:List α}{i:Nat}{a d:α},i<l.length->((l.set i a).map f).sum+f (l.getD i d)=(l.map f).sum+f a
 |[],i,a,d,h=>by cases h
 |x::l,0,a,d,_=>by simp only[List.set_cons_zero,WM,XD,Wk];omega
 |
  x::l,i+1,a,d,h=>by
  have b:=zDo (f:=f) (l:=l) (i:=i) (a:=a) (d:=d) (by simpa using h);simp only[List.set_cons_succ,WM,XD,Wn];omega
theorem zK3:CanR z8:=⟨rfl,λk b=>.inl (Wah b)⟩
theorem zLX:CanR ownR:=⟨rfl,λk b=>.inr (.inl (by
 simp only[ownR,WW,Wai,or_false]at b
 rcases b with rfl|rfl|rfl|rfl|rfl|rfl|rfl|rfl<;>rfl))⟩
theorem znW{r}(h:CanR r)(k):CanK (r.getD k Kw.z):=by
 by_cases b:k<r.length
 .have:r.getD k Kw.z=r[k]:=by simp[Wg,b]
  rw[this];exact h.2 _ (Wa b)
 .have:r.getD k Kw.z=Kw.z:=by simp[Wg,b]
  rw[this];exact .inl rfl
theorem zza{r}(h:CanR r){k}{c}(d:CanK c):CanR (r.set k c):=⟨by rw[WF];exact h.1,λx b=>by
 rcases Waj b with b|rfl
 .exact h.2 x b
 .exact d⟩
theorem zvN{f}(b:∀k a,CanK a->CanK (f k a)):∀{l:List Nat}{r:List Kw},CanR r->CanR (zgK f l r)
 |[],r,h=>h
 |k::l,r,h=>zvN b (l:=l) (zza h (b k _ (znW h k)))
theorem zAU{a b}(c:CanK a)(d:CanK b):CanK (zs7 a b):=by
 unfold zs7;split
 .exact d
 .split
  .exact .inr (.inr rfl)
  .exact c
theorem zv8{r o}(h:CanR r)(c:CanR o):CanR (zte r o):=zvN (λk a b=>zAU b (znW c k)) h
theorem zIV{s}{k}{a}(h:CanK a):CanK (ret1 s k a):=by
 unfold ret1;split
 .split
  .rename_i b;exact .inr (.inl b.2)
  .exact h
 .split
  .exact .inr (.inr rfl)
  .exact h
theorem zJ3{s}{r}(h:CanR r):CanR (retR s r):=zvN (λk a b=>zIV b) h
mutual
theorem zys{b:List Kw}(h:CanR b):∀e:Ex,CanK (zkr b e)
 |
  .mk op n v w l=>by
  rw[zkr];split
  .exact znW h _
  .split
   .unfold addK;split
    .rename_i c;exact .inr (.inl c)
    .exact zvz h l
   .exact .inr (.inr rfl)
theorem zvz{b:List Kw}(h:CanR b):∀l:List Ex,CanK (zkT b l)
 |[]=>by rw[zkT];exact .inr (.inr rfl)
 |e::_=>by rw[zkT];exact zys h e
end
theorem zy8{l}{at'}{rs}(h:CanR rs)(s):CanR (thr1 l at' rs s):=by
 unfold thr1;split
 .split
  .exact zza h (zvz h _)
  .exact h
 .split
  .split
   .exact zza h (.inr (.inr rfl))
   .exact h
  .split
   .exact zJ3 h
   .exact h
theorem zsK{l}{at'}:∀{ss:List St}{b:List Kw},CanR b->CanR (thrR l at' ss b)
 |[],b,h=>h
 |s::ss,b,h=>zsK (ss:=ss) (zy8 h s)
theorem zJB{a b}(e:CanK a)(h:CanK b):zs7 a b=a\/muK (zs7 a b)<muK a:=by
 unfold zs7;by_cases c:a.st=0
 .rw[if_pos c];rcases e with rfl|d|rfl
  .rcases h with rfl|d|rfl
   .exact .inl rfl
   .right;unfold muK;rw[d];decide
   .right;decide
  .omega
  .exact absurd c (by decide)
 .rw[if_neg c];split
  .rename_i d;rcases e with rfl|g|rfl
   .exact absurd rfl c
   .right;unfold muK;rw[g];decide
   .exact .inl rfl
  .exact .inl rfl
theorem zEJ{f}(g:∀k a,CanK a->CanK (f k a))(m:∀k a,CanK a->f k a=a\/muK (f k a)<muK a):∀{l:List Nat}{r:List Kw},(∀k∈l,k<8)->CanR r->zgK f l r=r\/muR8 (zgK f l r)<muR8 r
 |[],r,_,h=>.inl rfl
 |
  k::l,r,hl,h=>by
  have j:k<r.length:=by rw[h.1];exact hl k (by simp)
  have b:=zEJ g m (l:=l) (r:=r.set k (f k (r.getD k Kw.z))) (λx o=>hl x (by simp[o])) (zza h (g k _ (znW h k)));show zgK f l (r.set k (f k (r.getD k Kw.z)))=r\/muR8 (zgK f l (r.set k (f k (r.getD k Kw.z))))<muR8 r;rcases m k _ (znW h k)with c|c
  .rw[c,zsI j]at b⊢;exact b
  .have n:muR8 (r.set k (f k (r.getD k Kw.z)))<muR8 r:=by have:=zDo (f:=muK) (l:=r) (i:=k) (a:=f k (r.getD k Kw.z)) (d:=Kw.z) j;unfold muR8;omega
   rcases b with e|e
   .right;rw[e];exact n
   .right;omega
theorem zKe{r o}(h:CanR r)(c:CanR o):zte r o=r\/muR8 (zte r o)<muR8 r :=
 zEJ (λk a b=>zAU b (znW c k)) (λk a b=>zJB b (znW c k)) (λk d=>by simp only[R8,WW,Wai,or_false]at d;omega) h
def CanO(n:Nat)(o:List (List Kw)):Prop:=o.length=n/\∀r∈o,CanR r
theorem zlh{n}{o}(h:CanO n o)(b):CanR (o.getD b z8):=by
 by_cases c:b<o.length
 .have:o.getD b z8=o[b]:=by simp[Wg,c]
  rw[this];exact h.2 _ (Wa c)
 .have:o.getD b z8=z8:=by simp[Wg,c]
  rw[this];exact zK3
theorem zEC{n}{o}(h:CanO n o){b}{r}(d:CanR r):CanO n (o.set b r):=⟨by rw[WF];exact h.1,λx c=>by
 rcases Waj c with c|rfl
 .exact h.2 x c
 .exact d⟩
theorem zGU{o:List (List Kw)}{b:Nat}(h:b<o.length):o.set b (o.getD b z8)=o:=by
 have:o.getD b z8=o[b]:=by simp[Wg,h]
 rw[this];exact Wag h
theorem zzk{n}{x}{p}{e}(k:CanR x)(b:CanO n p.1)(m:e<n):CanO n (zrI x p e).1/\((zrI x p e).1=p.1/\(zrI x p e).2=p.2\/muO (zrI x p e).1<muO p.1/\(zrI x p e).2=true):=by
 have g:=zlh b e;have j:e<p.1.length:=by rw[b.1];exact m
 refine⟨zEC b (zv8 g k),?_⟩;unfold zrI;simp only;by_cases h:zte (p.1.getD e z8) x=p.1.getD e z8
 .left;rw[h,zGU j];simp
 .right;rcases zKe g k with c|c
  .exact absurd c h
  .refine⟨?_,by rw[decide_eq_true h,Bool.or_true]⟩;have:=zDo (f:=muR8) (l:=p.1) (i:=e) (a:=zte (p.1.getD e z8) x) (d:=z8) j;unfold muO;omega
theorem zzB{α:Type}{n:Nat}{f:List (List Kw)×Bool->α->List (List Kw)×Bool}{P:α->Prop}(j:∀p a,P a->CanO n p.1->CanO n (f p a).1/\((f p a).1=p.1/\(f p a).2=p.2\/muO (f p a).1<muO p.1/\(f p a).2=true)):
  ∀ {l:List α}{p:List (List Kw)×Bool},(∀a∈l,P a)->CanO n p.1->CanO n (l.foldl f p).1/\((l.foldl f p).1=p.1/\(l.foldl f p).2=p.2\/muO (l.foldl f p).1<muO p.1/\(l.foldl f p).2=true)
 |[],p,_,h=>⟨h,.inl ⟨rfl,rfl⟩⟩
 |
  a::l,p,hl,h=>by
  obtain⟨k,m⟩:=j p a (hl a (by simp)) h;obtain⟨o,b⟩:=zzB j (l:=l) (p:=f p a) (λx q=>hl x (by simp[q])) k;rw[Xq];refine⟨o,?_⟩;rcases m with ⟨c,d⟩|⟨c,d⟩
  .rw[c,d]at b;exact b
  .right;rcases b with ⟨g,e⟩|⟨g,e⟩
   .rw[g,e];exact⟨c,d⟩
   .exact⟨by omega,e⟩
theorem zzp{g}(j:OkG g){l}{at'}{p}{b}(d:b<g.blocks.length)(c:CanO g.blocks.length p.1):
  CanO g.blocks.length (zu5 g l at' p b).1/\((zu5 g l at' p b).1=p.1/\(zu5 g l at' p b).2=p.2\/muO (zu5 g l at' p b).1<muO p.1/\(zu5 g l at' p b).2=true) :=
 zzB (P:=λe=>e<g.blocks.length) (λp e h c=>zzk (zsK (zlh (by assumption) b)) c h) (zwc j d) c
theorem zz2{g}(h:OkG g){l}{at'}{c}(j:∀b∈c,b<g.blocks.length){o}(d:CanO g.blocks.length o):
  CanO g.blocks.length (zl2 g l at' c o).1/\((zl2 g l at' c o).1=o/\(zl2 g l at' c o).2=false\/muO (zl2 g l at' c o).1<muO o/\(zl2 g l at' c o).2=true) :=
 zzB (P:=λb=>b<g.blocks.length) (λp b e d=>zzp h e d) j (p:=(o,false)) d
theorem zya{g}{l}{at'}{ord}{n}{o}:zsu g l at' ord (n+1) o=if (zl2 g l at' ord o).2 then zsu g l at' ord n (zl2 g l at' ord o).1 else(zl2 g l at' ord o).1:=rfl
def ztU(n:Nat):List (List Kw):=(Wm n z8).set 0 ownR
theorem zzS(n):CanO n (ztU n):=zEC ⟨by simp,λr b=>by rw[Wah b];exact zK3⟩ zLX
def ordG(g:G):List Nat:=Dm.orderL g.toG.E
def zkE(g:G)(l:List Sgn)(b:List Int):List (List Kw):=zsu g l b (ordG g) (muO (ztU g.blocks.length)+1) (ztU g.blocks.length)
theorem znI(g)(b:fewC g):zq Z9 zh7 [.agg g.cells] (·=zi (ordG g)):=by have h:=Dm.R24_Order_ok g.toG (ztI b);rw[G.toG_cells]at h;exact h
theorem getR{q:List (List Kw)}{e:Nat}(h:e<q.length):(q.map encR).getD e []=encR (q.getD e z8):=by rw[zj (f:=encR) h];simp[Wg,h]
theorem zpD(g):∀b∈ordG g,b<g.blocks.length:=λb c=>by have h:=(Dm.orderL_nd (Gr.E_ok g.toG)).lt b c;simpa [Gr.E,G.toG]using h
theorem zqb(g):(ordG g).length<=g.blocks.length:=by have h:=List.Nodup.length_le_of_subset (Dm.orderL_nd (Gr.E_ok g.toG)).nd (λb c=>List.mem_range.2 (zpD g b c));rw[List.length_range]at h;exact h
theorem zbo:∀{l:List AV}{j:Nat},zQ l=true->(l.getD j .undef).flat0=true
 |[],j,_=>by simp[Xt]
 |a::l,0,h=>by simp only[zQ,WZ]at h;exact h.1
 |
  a::l,j+1,h=>by
  simp only[zQ,WZ]at h;exact zbo (l:=l) (j:=j) h.2
theorem QD{p:Prop}(h:p:=by(try simp only[evWB,Nat.reduceBEq,Nat.reduceAdd,Nat.reduceSub,Nat.reduceLeDiff,Nat.reduceLT,implies_true])<;>(repeat' with_reducible apply And.intro)<;>first|(first|exact RowV.of_flat (zy ze)|exact zh (ze _);done)|exact fin6):p:=h
theorem zzr(g)(hf:fewC g)(hg:OkG g)(hs:∀b∈g.blocks,∀s∈b.stmts,OkS s)(l)(at')(hl:at'.length<=1000000)(he:l.length=at'.length):
  zq Z9 zo9 [.agg g.cells,encL 3 Sgn.cells l,encL 1 cW at'] (·=encL 24 encR (zkE g l at')):=by
 refine fn_x zzb rfl ?_;unfold zs2 zkE;conv in Z8 _ _=>reduce
 have hB:=hBig;have hz:[Xb .i64 0,.int .i64 0,.int .u32 0,.int .i64 0,.int .i64 0,.int .u32 0,.int .i64 0,.int .i64 0,.int .u32 0,.int .i64 0,.int .i64 0,.int .u32 0,.int .i64 0,.int .i64 0,.int .u32 0,.int .i64 0,.int .i64 0,.int .u32 0,.int .i64 0,.int .i64 0,.int .u32 0,.int .i64 0,.int .i64 0,.int .u32 0]=encR z8:=rfl;have c0:∀l:List AV,(Xi l).cells=l:=λ_=>rfl
 have s0:∀l:List AV,(Xi l).solid=true:=λ_=>rfl
 have X:=znI g hf;have I:=zpD g;have hole:=zqb g;have hpos:=hg.pos;have hbl8:=hf.blocks;have hini:=zzS g.blocks.length;have Y:=λo hc=>zz2 hg I (l:=l) (at':=at') (o:=o) hc
 have S:=λp b v hp=>zzp hg (l:=l) (at':=at') (p:=p) (b:=b) v hp
 have hlt:=λb v=>zwc hg (b:=b) v
 have hel:=λb v=>zsd hf (b:=b) v
 have V:=λb v=>zr8 g hf hg b v
 have hthr:=λb (v:b<g.blocks.length) rs hr=>zrl g.blocks[b].stmts rs l at' (hs _ (Wa v)) hr (Ws (hf.stmts _ (Wa v)) (by decide)) hl he
 have hfx:∀o b (v:b<g.blocks.length),zzG g l at' o b=thrR l at' g.blocks[b].stmts (o.getD b z8):=λo b v=>by unfold zzG;rw[zg8 v]
 have D:∀n o,zsu g l at' (ordG g) (n+1) o=if (zl2 g l at' (ordG g) o).2 then zsu g l at' (ordG g) n (zl2 g l at' (ordG g) o).1 else(zl2 g l at' (ordG g) o).1:=λn o=>zya
 have hpd:∀o,zl2 g l at' (ordG g) o=(ordG g).foldl (zu5 g l at') (o,false):=λo=>rfl
 have hbd:∀p b,zu5 g l at' p b=(edgB g b).foldl (zrI (zzG g l at' p.1 b)) p:=λp b=>rfl
 generalize hR:zsu g l at' (ordG g) (muO (ztU g.blocks.length)+1) (ztU g.blocks.length)=R;generalize zsu g l at' (ordG g)=FF at D hR;generalize zl2 g l at' (ordG g)=FP at Y D hpd;generalize zu5 g l at'=FB at S hpd hbd;generalize zzG g l at'=FX at hfx hbd;generalize ordG g=t at X I hole hpd;generalize hE:edgB g=E at hlt hel V hbd;obtain⟨ad,u⟩:=g;simp only[G.cells]at X I hole hpos hbl8 hini Y S hlt hel V hthr hfx hR⊢;have hrep:Wm u.length (encR z8)=(Wm u.length z8).map encR:=by rw[Wae]
 have hset:((Wm u.length z8).map encR).set (WJ 0) (encR ownR)=(ztU u.length).map encR:=by unfold ztU;rw[WX];rfl
 have e0:((u.length:Nat):Int).toNat=u.length:=Wj _;have ero:(encR ownR).length=24:=rfl;refine Gw4 @ub hz e0 hrep ?_;intros;refine zc (zb zEZ rfl) ?_;refine Gw11 @ub @zu hz e0 hrep c0 s0 ero hset @m9M @m9R ?_;intros;refine zc (zb X rfl) ?_;refine Gw0 ?_;intros;refine zd (λs:Bool×List (List Kw)=>([(1,encL 3 Sgn.cells l),(2,encL 1 cW at'),(3,encP 2 [.int .u32 ad,encL 2 Xf u]),(7,.own 0 0 0 0 u.length),(8,zi t),(9,.bool s.1)],[(0,.row 24 (s.2.map encR) 0)])) 1 (λs=>CanO u.length s.2/\(s.1=true->∃m,muO s.2<m/\FF m s.2=R)/\(s.1=false->s.2=R)) (λs=>if s.1=true then muO s.2+1 else 0) (true,ztU u.length) ⟨hini,λ_=>⟨_,Nat.lt_succ_self _,hR⟩,λh=>by cases h⟩ (Xa [(0,1,0)] [] rfl QD QD) ?_;rintro⟨ag,o⟩ ⟨U,P,Q⟩ wf;simp only at U P Q;clear wf hR;refine dcU zoh.eq_1 ?_
 cases ag with
 |false=>have hR2:=Q rfl;refine Gw0 ?_;intros;unfold zou;refine Gw1 @zs8.eq_1 ?_;intros;rw[<-U.1,hR2];refine⟨_,zcU trivial rfl (by rw[<-hR2,U.1];omega) (λa ha j hj=>zB (zbo (ze a))),rfl⟩
 |true=>
 obtain⟨m,hm,K⟩:=P rfl;obtain⟨m,rfl⟩:∃m',m=m'+1:=⟨m-1,by omega⟩;rw[D]at K;obtain⟨hpc,hpm⟩:=Y o U;have hpo:=hpd o;generalize FP o=PF at K hpc hpm hpo;clear P Q;refine Gw0 ?_;intros;refine zd (λs:Nat×(List (List Kw)×Bool)=>([(1,encL 3 Sgn.cells l),(2,encL 1 cW at'),(3,encP 2 [.int .u32 ad,encL 2 Xf u]),(7,.own 0 0 0 0 u.length),(8,zi t),(9,.bool s.2.2),(10,.int .i64 s.1)],[(0,.row 24 (s.2.1.map encR) 0)])) 1 (λs=>s.1<=t.length/\CanO u.length s.2.1/\(t.drop s.1).foldl FB s.2=PF) (λs=>t.length-s.1) (0,(o,false)) ⟨Wc _,U,hpo.symm⟩ (Xa [(0,0,0)] [] rfl QD QD) ?_;rintro⟨i,⟨F,N⟩⟩ ⟨hi,y,w⟩ wf;simp only at hi y w;clear wf;unfold zoM;by_cases hil:i<t.length
 case neg=>
  rw[Wq (by omega),Xs]at w;subst w;refine Gw2 @dF @uf ?_;intros;refine⟨(N,F),⟨y,λh=>?_,λh=>?_⟩,?_,(Xa [(0,0,0)] [] rfl QD QD)⟩
  .simp only at h;subst h;rw[if_pos rfl]at K;rcases hpm with ⟨_,h⟩|⟨h,_⟩
   .cases h
   .exact⟨m,by simp only at h⊢;omega,K⟩
  .simp only at h;subst h;rw[if_neg (λh=>by cases h)]at K;exact K
  .rcases hpm with ⟨_,h⟩|⟨h1,h⟩
   .simp only at h;subst h;simp
   .simp only at h h1;subst h;simp;omega
 rw[Wl hil,Xq]at w;have gi:(t.map λ(n:Nat)=>[Xb .i64 (n:Int)]).getD i []=[.int .i64 (t[i]:Int)]:=zj (f:=λ(n:Nat)=>[Xb .i64 (n:Int)]) hil;have v:=I _ (Wa hil);generalize t[i]=b at w gi v;obtain⟨hbc,-⟩:=S (F,N) b v y;have H:=hbd (F,N) b;generalize FB (F,N) b=PB at w hbc H;have hgb:(u.map Xf).getD b []=Xf u[b]:=zj v;have hob:b<F.length:=by rw[y.1];exact v
 have gob:=getR hob;have hcb:=zlh y b;have L:=hthr b v (F.getD b z8) hcb.1;rw[<-hfx F b v]at L;have Z:CanR (FX F b):=by rw[hfx F b v];exact zsK hcb
 have hed:=V b v;have hebl:=hel b v;have helt:=hlt b v;generalize FX F b=x at L Z H;generalize E b=M at hed hebl helt H;generalize F.getD b z8=ob at gob hcb L;generalize u[b]=bb at hgb L;obtain⟨bad,J⟩:=bb;simp only[Xf]at hgb L;have erx:(encR x).length=24:=by rw[zao,Z.1]
 have erb:(encR ob).length=24:=by rw[zao,hcb.1]
 refine Gw3 @dT @uf @ub ?_;intros;refine zjG zlC ztS zsY ziN [(31,.iptr 1 λj=>[Xb .u32 ad,encL 2 Xf u].getD (1+j) .undef),(32,encL 2 Xf u),(33,zi t),(34,.int .i64 i),(35,.iptr 1 λj=>[Xb .i64 (b:Int)].getD j .undef),(36,.int .i64 b),(37,.iptr 2 λj=>[Xb .u32 bad,encL 8 Xe J].getD j .undef),(38,.iptr 1 λj=>[Xb .u32 bad,encL 8 Xe J].getD (1+j) .undef),(39,encL 8 Xe J),(40,.own 0 0 0 0 u.length),(41,zi t),(42,.int .i64 i),(43,.iptr 1 λj=>[Xb .i64 (b:Int)].getD j .undef),(44,.int .i64 b),(45,.ptr 0 0 0 b 0),(46,.agg (encR ob)),(47,encL 3 Sgn.cells l),(48,encL 1 cW at'),(49,.agg (encR x)),(11,.ptr 1 0 0 0 0)] (hsOf [([(0,.row 24 (F.map encR) 0)],1),([(0,.row 24 (F.map encR) 0),(1,.row 24 [encR z8] 0)],2),([(0,.row 24 (F.map encR) 0),(1,.row 24 [encR x] 0)],2)]) (by kernel_rfl) (by rfl) (by rfl) (by repeat' first|exact QExt.retK|apply QExt.seq|apply QExt.block|apply QExt.loop|apply QExt.join|assumption) ?plan [(11,.ptr 1 0 0 0 0)] (by rfl) ?fin
 case' plan=>
  intro k hs q hH;have kf31:k.get 31=.iptr 1 λj=>[Xb .u32 ad,encL 2 Xf u].getD (1+j) .undef:=by rw[q,zg];rfl
  have kf32:k.get 32=encL 2 Xf u:=by rw[q,zg];rfl
  have kf33:k.get 33=zi t:=by rw[q,zg];rfl
  have kf34:k.get 34=.int .i64 i:=by rw[q,zg];rfl
  have kf35:k.get 35=.iptr 1 λj=>[Xb .i64 (b:Int)].getD j .undef:=by rw[q,zg];rfl
  have kf36:k.get 36=.int .i64 b:=by rw[q,zg];rfl
  have kf37:k.get 37=.iptr 2 λj=>[Xb .u32 bad,encL 8 Xe J].getD j .undef:=by rw[q,zg];rfl
  have kf38:k.get 38=.iptr 1 λj=>[Xb .u32 bad,encL 8 Xe J].getD (1+j) .undef:=by rw[q,zg];rfl
  have kf39:k.get 39=encL 8 Xe J:=by rw[q,zg];rfl
  have kf40:k.get 40=.own 0 0 0 0 u.length:=by rw[q,zg];rfl
  have kf41:k.get 41=zi t:=by rw[q,zg];rfl
  have kf42:k.get 42=.int .i64 i:=by rw[q,zg];rfl
  have kf43:k.get 43=.iptr 1 λj=>[Xb .i64 (b:Int)].getD j .undef:=by rw[q,zg];rfl
  have kf44:k.get 44=.int .i64 b:=by rw[q,zg];rfl
  have kf45:k.get 45=.ptr 0 0 0 b 0:=by rw[q,zg];rfl
  have kf46:k.get 46=.agg (encR ob):=by rw[q,zg];rfl
  have kf47:k.get 47=encL 3 Sgn.cells l:=by rw[q,zg];rfl
  have kf48:k.get 48=encL 1 cW at':=by rw[q,zg];rfl
  have kf49:k.get 49=.agg (encR x):=by rw[q,zg];rfl
  have B:k.get 11=.ptr 1 0 0 0 0:=by rw[q,zg];rfl
  have kf1:k.get 1=encL 3 Sgn.cells l:=by rw[q,zg];rfl
  have kf2:k.get 2=encL 1 cW at':=by rw[q,zg];rfl
  have kf3:k.get 3=encP 2 [Xb .u32 ad,encL 2 Xf u]:=by rw[q,zg];rfl
  have kf7:k.get 7=.own 0 0 0 0 u.length:=by rw[q,zg];rfl
  have kf8:k.get 8=zi t:=by rw[q,zg];rfl
  have kf10:k.get 10=.int .i64 i:=by rw[q,zg];rfl
  simp only[ziN,zfq,zhc,and_true]
  (repeat' with_reducible apply Wz)
  all_goals(rw[hH];simp only[znC,zjP,Wn,Wk,hsOf,hsAt,beqL,zdE,Xc,Wd,Wh,Wu,Wi,cond_true,cond_false,Wf,We,Xd])
  all_goals try(simp(disch:=try exact dis1) only[evD,Xc,Xd,Xh,zar,zac,kf31,kf32,kf33,kf34,kf35,kf36,kf37,kf38,kf39,kf40,kf41,kf42,kf43,kf44,kf45,kf46,kf47,kf48,kf49,B,kf1,kf2,kf3,kf7,kf8,kf10,fldP,zu,zi,gi,hgb,gob,hz,c0,s0,erx,erb,Wj,Ww];done)
 case' fin=>simp only[zlC,hsOf,hsAt,beqL,zdE,Xc,Wd,Wh,Wu,Wi,cond_true,cond_false,Wf,We,Xd,Wn,Wk,zeL]
 ·(refine Gw5 @uf @ub @zu gi @uc ?_;intros);refine zp (zb hed rfl) ?_;refine Gw0 ?_;intros;refine zd (λs:Nat×(List (List Kw)×Bool)=>([(1,encL 3 Sgn.cells l),(2,encL 1 cW at'),(3,encP 2 [.int .u32 ad,encL 2 Xf u]),(7,.own 0 0 0 0 u.length),(8,zi t),(9,.bool s.2.2),(10,.int .i64 i),(11,.ptr 1 0 0 0 0),(12,zi M),(13,.int .i64 s.1)],[(0,.row 24 (s.2.1.map encR) 0),(1,.row 24 [encR x] 0)])) 2 (λs=>s.1<=M.length/\CanO u.length s.2.1/\(M.drop s.1).foldl (zrI x) s.2=PB) (λs=>M.length-s.1) (0,(F,N)) ⟨Wc _,y,H.symm⟩ (Xa [(0,0,0),(1,1,0)] [] rfl QD QD) ?_;rintro⟨j,⟨o2,ag2⟩⟩ ⟨hj,A,c⟩ wf;simp only at hj A c;clear wf;unfold zoG;by_cases W:j<M.length;case neg=>rw[Wq (by omega),Xs]at c;subst c;refine Gw2 @dF @uf ?_;intros;refine dcU zor.eq_1 ?_;refine Gw0 ?_;intros;exact⟨(i+1,(o2,ag2)),⟨hil,A,w⟩,by simp only;omega,(Xa [(0,0,0)] [] rfl QD QD)⟩
  rw[Wl W,Xq]at c;have gj:(M.map λ(n:Nat)=>[Xb .i64 (n:Int)]).getD j []=[.int .i64 (M[j]:Int)]:=zj (f:=λ(n:Nat)=>[Xb .i64 (n:Int)]) W;have hen:=helt _ (Wa W);generalize M[j]=e at gj hen c;have heo:e<o2.length:=by rw[A.1];exact hen
  have O:=getR heo;have T:=zlh A e;obtain⟨C,-⟩:=zzk (p:=(o2,ag2)) Z A hen;unfold zrI at C c;simp only at C c;have hbo:=zB3 (o2.getD e z8) x T.1 Z.1;have hcm:=zv8 T Z;generalize o2.getD e z8=oe at O T hbo hcm C c;generalize zte oe x=me at hbo hcm C c;have ere:(encR oe).length=24:=by rw[zao,T.1]
  have erm:(encR me).length=24:=by rw[zao,hcm.1]
  have heq:=eqs24 hcm.1 T.1;have hst:(o2.map encR).set e (encR me)=(o2.set e me).map encR:=by rw[WX]
  generalize o2.set e me=o3 at hst C c;refine Gw3 @dT @uf @ub ?_;intros;refine zjG zll ztN zs9 zjt [(62,.own 0 0 0 0 u.length),(63,zi M),(64,.int .i64 j),(65,.iptr 1 λj=>[Xb .i64 (e:Int)].getD j .undef),(66,.int .i64 e),(67,.ptr 0 0 0 e 0),(68,.agg (encR oe)),(69,.agg (encR x)),(70,.agg (encR me)),(14,.ptr 2 0 0 0 0)] (hsOf [([(0,.row 24 (o2.map encR) 0),(1,.row 24 [encR x] 0)],2),([(0,.row 24 (o2.map encR) 0),(1,.row 24 [encR x] 0),(2,.row 24 [encR z8] 0)],3),([(0,.row 24 (o2.map encR) 0),(1,.row 24 [encR x] 0),(2,.row 24 [encR me] 0)],3)]) (by kernel_rfl) (by rfl) (by rfl) (by repeat' first|exact QExt.retK|apply QExt.seq|apply QExt.block|apply QExt.loop|apply QExt.join|assumption) ?plan2 [(14,.ptr 2 0 0 0 0)] (by rfl) ?fin2
  case' plan2=>
   intro k hs q hH;have kf62:k.get 62=.own 0 0 0 0 u.length:=by rw[q,zg];rfl
   have kf63:k.get 63=zi M:=by rw[q,zg];rfl
   have kf64:k.get 64=.int .i64 j:=by rw[q,zg];rfl
   have kf65:k.get 65=.iptr 1 λj=>[Xb .i64 (e:Int)].getD j .undef:=by rw[q,zg];rfl
   have kf66:k.get 66=.int .i64 e:=by rw[q,zg];rfl
   have kf67:k.get 67=.ptr 0 0 0 e 0:=by rw[q,zg];rfl
   have kf68:k.get 68=.agg (encR oe):=by rw[q,zg];rfl
   have kf69:k.get 69=.agg (encR x):=by rw[q,zg];rfl
   have kf70:k.get 70=.agg (encR me):=by rw[q,zg];rfl
   have kf14:k.get 14=.ptr 2 0 0 0 0:=by rw[q,zg];rfl
   have kf7:k.get 7=.own 0 0 0 0 u.length:=by rw[q,zg];rfl
   have B:k.get 11=.ptr 1 0 0 0 0:=by rw[q,zg];rfl
   have kf12:k.get 12=zi M:=by rw[q,zg];rfl
   have kf13:k.get 13=.int .i64 j:=by rw[q,zg];rfl
   simp only[zjt,zfq,zhc,and_true]
   (repeat' with_reducible apply Wz)
   all_goals(rw[hH];simp only[znC,zjO,Wn,Wk,hsOf,hsAt,beqL,zdE,Xc,Wd,Wh,Wu,Wi,cond_true,cond_false,Wf,We,Xd])
   all_goals try(simp(disch:=try exact dis1) only[evD,Xc,Xd,Xh,zar,zac,kf62,kf63,kf64,kf65,kf66,kf67,kf68,kf69,kf70,kf14,kf7,B,kf12,kf13,fldP,zu,zi,gj,O,hz,c0,s0,ere,erm,erx,Wj,Ww];done)
  case' fin2=>simp only[zll,hsOf,hsAt,beqL,zdE,Xc,Wd,Wh,Wu,Wi,cond_true,cond_false,Wf,We,Xd,Wn,Wk,zeL]
  .have hnd:(!decide (me=oe))=decide (me≠oe):=by simp
   cases ag2
   case' true=>rw[WE]at c
   case' false=>rw[Wy]at c;generalize decide (me≠oe)=d at hnd c
   case' true=>refine Gw12 @uf @ub @zu gj O @uc c0 s0 ere erm hst @m9M ?_;intros
   case' false=>(repeat first|simp(disch:=try exact dis1) only[evD,Xc,Xd,Xh,zi,fldP,zu,gj,O,Wj,c0,s0,ere,erm,heq,eqTo,cond_true,hnd,hst,Wx]|with_reducible first|intro _|refine aJ ?_)
   case' true=>exact⟨(j+1,(o3,true)),⟨W,C,c⟩,by simp only;omega,(Xa [(0,0,0),(1,1,0)] [] rfl QD QD)⟩
   case' false=>exact⟨(j+1,(o3,d)),⟨W,C,c⟩,by simp only;omega,(Xa [(0,0,0),(1,1,0)] [] rfl QD QD)⟩
  all_goals(repeat first|simp(disch:=try exact dis1) only[evD,Xc,Xd,Xh,kf62,kf63,kf64,kf65,kf66,kf67,kf68,kf69,kf70,kf14,kf7,B,kf12,kf13,fldP,zu,zi,gj,O,hz,c0,s0,ere,erm,erx,Wj,Ww,zar,zac,Wx]|with_reducible first|intro _|refine aJ ?_)
  all_goals first
   |omega
   |(refine zp (zb hbo (by simp only[Wt,WA,Xk,zgi,Wd])) ?_;(refine Gw3 @zar @zac kf70 ?_;intros;try with_reducible exact trivial))
   |rfl
 all_goals(repeat first|simp(disch:=try exact dis1) only[evD,Xc,Xd,Xh,kf31,kf32,kf33,kf34,kf35,kf36,kf37,kf38,kf39,kf40,kf41,kf42,kf43,kf44,kf45,kf46,kf47,kf48,kf49,B,kf1,kf2,kf3,kf7,kf8,kf10,fldP,zu,zi,gi,hgb,gob,hz,c0,s0,erx,erb,Wj,Ww,zar,zac,Wx]|with_reducible first|intro _|refine aJ ?_)
 all_goals first
  |omega
  |(refine zp (zb L (by simp only[Wt,WA,Xk,zgi,Wd];rfl)) ?_;(refine Gw3 @zar @zac kf49 ?_;intros;try with_reducible exact trivial))
  |rfl
def zzY(r:Nat):Kw:=if r=7 then⟨1,7,4⟩else⟨1,r,0⟩
def retB(g:G)(b:Nat):Bool:=match (blkG g b).stmts.getLast? with
 |some s=>decide (s.op=9)
 |none=>false
def zsC(g:G)(l:List Sgn)(c:List Int)(r b:Nat):Bool := !(retB g b&&decide ((thrR l c (blkG g b).stmts ((zkE g l c).getD b z8)).getD r Kw.z≠zzY r))
def zHw(g:G)(l:List Sgn)(b:List Int)(r:Nat):Bool:=(ordG g).all (zsC g l b r)
def savG(g:G)(l:List Sgn)(b:List Int):List Int:=((Wp 8).filter (zHw g l b)).map λ(r:Nat)=>(r:Int)
theorem zxU(g)(c:OkG g)(l)(at'):CanO g.blocks.length (zkE g l at'):=by
 unfold zkE
 have key:∀(n:Nat) (o:List (List Kw)),CanO g.blocks.length o->CanO g.blocks.length (zsu g l at' (ordG g) n o):=by
  intro n
  induction n with
  |zero=>intro o h;exact h
  |succ n ih=>
   intro o h;obtain⟨b,-⟩:=zz2 c (zpD g) (l:=l) (at':=at') h;rw[zsu];split
   .exact ih _ b
   .exact b
 exact key _ _ (zzS _)
theorem zC0{r}(h:r<8):(Wp 8).drop r=r::(Wp 8).drop (r+1):=by rw[Wl (by simpa using h),Waf]
theorem get24{l:List AV}(h:l.length=24):[l.getD 0 .undef,l.getD 1 .undef,l.getD 2 .undef,l.getD 3 .undef,l.getD 4 .undef,l.getD 5 .undef,l.getD 6 .undef,l.getD 7 .undef,l.getD 8 .undef,l.getD 9 .undef,l.getD 10 .undef,l.getD 11 .undef,l.getD 12 .undef,l.getD 13 .undef,l.getD 14 .undef,l.getD 15 .undef,l.getD 16 .undef,l.getD 17 .undef,l.getD 18 .undef,l.getD 19 .undef,l.getD 20 .undef,l.getD 21 .undef,l.getD 22 .undef,l.getD 23 .undef]=l:=by
 match l,h with
 |[a0,s,t,a3,a4,a5,u,v,w,a9,b,c,d,e,g,j,k,m,n,o,p,q,a22,a23],_=>rfl
theorem QE{p:Prop}(h:p:=by(try simp only[evWB,Nat.reduceBEq,Nat.reduceAdd,Nat.reduceSub,Nat.reduceLeDiff,Nat.reduceLT,implies_true])<;>(repeat' with_reducible apply And.intro)<;>first|(first|exact zh rfl;done)|exact fin6):p:=h
theorem zBm(g)(V:fewC g)(hg:OkG g)(hs:∀b∈g.blocks,∀s∈b.stmts,OkS s)(l)(at')(hl:at'.length<=1000000)(he:l.length=at'.length):
  zq Z9 zrB [.agg g.cells,encL 3 Sgn.cells l,encL 1 cW at'] (·=za (savG g l at')):=by
 refine fn_x zBo rfl ?_;unfold zuA savG;conv in Z8 _ _=>reduce
 have hB:=hBig;have N:=zzr g V hg hs l at' hl he;have w:=znI g V;have v:=zpD g;have hole:=zqb g;have T:=V.blocks;have J:=zxU g hg l at';have L:=λb (o:b<g.blocks.length) rs hr=>zrl g.blocks[b].stmts rs l at' (hs _ (Wa o)) hr (Ws (V.stmts _ (Wa o)) (by decide)) hl he
 have t:=λb (o:b<g.blocks.length)=>hg.ends _ (Wa o)
 have K:=λb (o:b<g.blocks.length)=>V.stmts _ (Wa o)
 have D:∀r b (o:b<g.blocks.length),zsC g l at' r b = !(decide ((g.blocks[b].stmts.getD (g.blocks[b].stmts.length-1) ⟨0,0,0,0,0,0,[],[]⟩).op=9)&&decide ((thrR l at' g.blocks[b].stmts ((zkE g l at').getD b z8)).getD r Kw.z≠zzY r)):=λr b o=>by
  unfold zsC retB;rw[zg8 o,List.getLast?_eq_getElem?];have hi:g.blocks[b].stmts.length-1<g.blocks[b].stmts.length:=by have:=t b o;omega
  rw[Wo hi];simp only[Wg,Wo hi,W9]
 have F:∀r,zHw g l at' r=(ordG g).all (zsC g l at' r):=λr=>rfl
 generalize zHw g l at'=KR at F⊢;generalize zsC g l at'=Q at D F;generalize zkE g l at'=S at N J D;generalize ordG g=j at w v hole F;obtain⟨ad,M⟩:=g;simp only[G.cells]at N w v hole T J L D t K⊢;refine Qi ?_;intros;refine zp (zb N rfl) ?_;refine Qi ?_;intros;refine zp (zb w rfl) ?_;refine Gw0 ?_;intros;generalize hR:(Wp 8).filter KR=R;refine zd (λs:Nat×List Nat×Nat=>([(1,encL 3 Sgn.cells l),(2,encL 1 cW at'),(3,encP 2 [.int .u32 ad,encL 2 Xf M]),(7,.own 0 0 s.2.2 0 s.2.1.length),(8,encL 24 encR S),(9,zi j),(10,.int .i64 s.1)],[(0,.row 1 (s.2.1.map λ(n:Nat)=>[.int .i64 (n:Int)]) s.2.2)])) 1 (λs=>s.1<=8/\s.2.1.length<=s.1/\s.2.1++((Wp 8).drop s.1).filter KR=R) (λs=>8-s.1) (0,[],0) ⟨Wc _,WC _,hR⟩ (Xa [(0,1,0)] [] rfl Qn Qn) ?_;rintro⟨r,out,γ⟩ ⟨hr,hol,p⟩ wf;simp only at hr hol p;clear wf hR;refine dcU zpp.eq_1 ?_;by_cases I:r<8
 case neg=>
  rw[Wq (by simp;omega),List.filter_nil,WL]at p;subst p;refine Qa ?_;intros;unfold zpM;refine Gw1 @zui.eq_1 ?_;intros;have em:(out.map λ(n:Nat)=>[Xb .i64 (n:Int)])=(out.map λ(r:Nat)=>(r:Int)).map λn=>[Xb .i64 n]:=by rw[WI];rfl
  rw[em,show out.length=(out.map λ(r:Nat)=>(r:Int)).length by simp];exact⟨_,zaP trivial rfl (by simp;omega),rfl⟩
 rw[zC0 I,List.filter_cons]at p;have X:=F r
 have hw:zzY r=if r=7 then⟨1,r,4⟩else⟨1,r,0⟩:=by
  unfold zzY;by_cases h:r=7
  .rw[if_pos h,if_pos h,h];rfl
  .rw[if_neg h,if_neg h]
 have d7:decide ((r:Int)=7)=decide (r=7):=decide_eq_decide.2 (by omega);have hwn:IntKind.u32.wrap 4=4:=rfl;by_cases h7:r=7
 case' pos=>rw[if_pos h7]at hw;rw[decide_eq_true h7]at d7
 case' neg=>rw[if_neg h7]at hw;rw[decide_eq_false h7]at d7
 all_goals
  generalize hW:zzY r=W at hw;refine Gw3 @dT d7 @zu ?_;intros;refine zd (λi:Nat=>([(1,encL 3 Sgn.cells l),(2,encL 1 cW at'),(3,encP 2 [.int .u32 ad,encL 2 Xf M]),(7,.own 0 0 γ 0 out.length),(8,encL 24 encR S),(9,zi j),(10,.int .i64 r),(11,.ptr 1 0 0 0 0),(12,.bool ((j.take i).all (Q r))),(13,.int .i64 i)],[(0,.row 1 (out.map λ(n:Nat)=>[.int .i64 (n:Int)]) γ),(1,.row 3 [W.cells] 0)])) 2 (λi=>i<=j.length) (λi=>j.length-i) 0 (Wc _) (by rw[hw];exact(Xa [(0,0,0),(1,1,0)] [] rfl QE QE)) ?_;intro i hi wf;clear wf;refine dcU zpL.eq_1 ?_;by_cases q:i<j.length
  case neg=>
   obtain rfl:i=j.length:=by omega
   rw[WD,<-X];refine Gw2 @dF @uf ?_;intros;refine dcU zp4.eq_1 ?_
   cases hK:KR r with
   |true=>
    rw[hK,if_pos rfl]at p;refine Gw0 ?_;intros;refine dcU zkB.eq_1 ?_;refine Gw0 ?_;intros;have em:(out.map λ(n:Nat)=>[Xb .i64 (n:Int)])++[[Xb .i64 (r:Int)]]=(out++[r]).map λ(n:Nat)=>[Xb .i64 (n:Int)]:=by simp
    refine⟨(r+1,out++[r],γ+1),⟨I,by simp;omega,by simpa using p⟩,by simp only;omega,?_⟩;simp only[Wr,WB,<-em];exact(Xa [(0,0,0)] [] rfl Qn Qn)
   |false=>rw[hK,if_neg (by decide)]at p;refine Gw0 ?_;intros;refine dcU zkB.eq_1 ?_;refine Gw0 ?_;intros;exact⟨(r+1,out,γ),⟨I,by simp only;omega,p⟩,by simp only;omega,(Xa [(0,0,0)] [] rfl Qn Qn)⟩
  have gi:(j.map λ(n:Nat)=>[Xb .i64 (n:Int)]).getD i []=[.int .i64 (j[i]:Int)]:=zj (f:=λ(n:Nat)=>[Xb .i64 (n:Int)]) q;have c:(j.take (i+1)).all (Q r)=((j.take i).all (Q r)&&Q r j[i]):=by rw[Wad q,List.all_append];simp
  have o:=v _ (Wa q);generalize j[i]=b at gi o c;rw[D r b o,hW]at c;have B:(M.map Xf).getD b []=Xf M[b]:=zj o;have hSb:b<S.length:=by rw[J.1];exact o
  have gS:=getR hSb;have A:=zlh J b;have y:=L b o _ A.1;have O:=zsK (l:=l) (at':=at') (ss:=M[b].stmts) A;have U:=t b o;have Y:=K b o;generalize thrR l at' M[b].stmts (S.getD b z8)=x at y O c;generalize S.getD b z8=ob at gS A y;generalize M[b]=bb at B y U c Y;obtain⟨bad,m⟩:=bb;simp only[Xf]at B y U c Y;have u:m.length-1<m.length:=by omega
  have C:=zj (f:=Xe) (d:=[]) u;have hgs:m.getD (m.length-1) ⟨0,0,0,0,0,0,[],[]⟩=m[m.length-1]:=by simp[Wg,u]
  rw[hgs]at c;generalize m[m.length-1]=sx at c C;obtain⟨op,var,width,next,els,tgt,e,cs⟩:=sx;simp only[Xe]at c C;have hw1:IntKind.i64.wrap ((m.length:Int)-1)=(m.length:Int)-1:=zyo (by omega) (by omega);have Z:((m.length:Int)-1).toNat=m.length-1:=by omega
  have erb:(encR ob).length=24:=by rw[zao,A.1]
  have erx:(encR x).length=24:=by rw[zao,O.1]
  have g24:=get24 erb;have sx:=zgR (rs:=x) (k:=r) (by rw[O.1];exact I);generalize x.getD r Kw.z=P at sx c;generalize (j.take i).all (Q r)=al at c⊢;have aX:∀(H:AH)(nx:Nat),xopR (.aidx 8 3 true) [.agg (encR x),.int .i64 (r:Int)] H nx=⟨0<=(r:Int)/\(r:Int)<(8:Nat)/\8*3<=(encR x).length,True,.agg P.cells,H,nx⟩:=λH nx=>by simp only[xopR,zvy,cond_true,Wj,sx];rfl
  by_cases h9:op=9
  .rw[decide_eq_true h9,Wh]at c;refine Gw11 @dT @uf @ub @zu gi B @uc hw1 Z C gS ?_;intros;rw[g24];refine zp (zb y (by simp only[Wt,WA,Xk,zgi,Wd];rfl)) ?_;by_cases hx:P=W
   .have d1:(!decide (P=W))=false:=by simp[hx]
    rw[show(al && !decide (P≠W))=al by simp[hx]]at c
    (repeat first|simp(disch:=try exact dis1) only[evD,Xc,Xd,Xh,aX,eqsK,eqTo,cond_true,zu,d1]|with_reducible first|intro _|refine aJ ?_)
    exact⟨i+1,q,by omega,by rw[c];exact(Xa [(0,0,0),(1,1,0)] [] rfl QE QE)⟩
   .have d1:(!decide (P=W))=true:=by simp[hx]
    rw[show(al && !decide (P≠W))=false by simp[hx]]at c
    (repeat first|simp(disch:=try exact dis1) only[evD,Xc,Xd,Xh,aX,eqsK,eqTo,cond_true,zu,d1]|with_reducible first|intro _|refine aJ ?_)
    exact⟨i+1,q,by omega,by rw[c];exact(Xa [(0,0,0),(1,1,0)] [] rfl QE QE)⟩
  .rw[decide_eq_false h9,Wi,Bool.not_false,Wd]at c;refine Gw11 @dT @dF @uf @ub @zu gi B @uc hw1 Z C ?_;intros;exact⟨i+1,q,by omega,by rw[c];exact(Xa [(0,0,0),(1,1,0)] [] rfl QE QE)⟩
end Go.Ab
