/-
  Part 8 of the proof: how the calls of this program run, over values instead of memory, and what each function computes.
-/
import Derived.KernelRfl
import Derived.Test.YtmlhipilbnjhiaaGreatPg
set_option maxRecDepth 100000
set_option linter.unusedVariables false
set_option linter.unusedSimpArgs false
set_option linter.unnecessarySimpa false
set_option linter.unusedSectionVars false
open List renaming map->Xa,map_map->Xg
open Go.DataW renaming insert->Xb,map->Xe
open Go.WideElems renaming rg->Xc,rd->Xd,Fit->Xh,rg_of->Xi
open Go.WideShapes renaming sorted_perm->Xf
open Go.Proofs.Tryz renaming prog->Z9
open Nat renaming beq→Wa,le_refl→Wg,le_succ→Wh,zero_le→Wo,lt_succ_self→Wp,mul_one→Ws
open List renaming length_append→Wc,append_assoc→Wd,getElem?_map→We,map_append→Wf,length_cons→Wi,length_nil→Wj,pairwise_cons→Wk,singleton_append→Wl,append_nil→Wm,eq_nil_of_length_eq_zero→Wn,nodup_cons→Wt,mem_map_of_mem→Wu,mem_map→Wv,length_map→Wx,cons_append→Wy,reverse_cons→Wz,reverse_nil→WA,reverse_singleton→WB,reverse_append→WC,getElem?_eq_some_iff→WE,ext_getElem?→WG,getElem?_eq_none_iff→WI
open Array renaming getElem?_eq_getElem→Wq,getElem?_toList→Wr,getElem?_eq_none→WH,getElem?_eq_some_iff→WM
open Function renaming comp_def→Ww
open Option renaming bind_some→WD,isSome_none→WJ,map_eq_some_iff→WL
open Option.some renaming injEq→WF
open Bool renaming false_eq_true→WK,and_eq_true→WN
namespace Go.Ab
open Go.RowKit Go.Proofs
def One(p:NdF->List Int):Prop:=∀f,(p f).length<=1
theorem zz2:One labP:=λf=>by unfold labP;split<;>simp
theorem zvZ:One zgg:=λf=>by unfold zgg;split<;>simp
mutual
theorem zo2{p:NdF->List Int}(h:One p):∀n:Nd,(coll p n).length<=zco n
 |.mk f _ l=>by rw[coll,Wc,zco];have:=h f;have:=zu2 h l;omega
theorem zu2{p:NdF->List Int}(h:One p):∀l:List Nd,(zgT p l).length<=zaL l
 |[]=>by rw[zgT];simp
 |x::l=>by rw[zgT,Wc,zaL];have:=zo2 h x;have:=zu2 h l;omega
end
theorem zBg{l}{H}:zcX 1 (encL 1 (λn=>[.int .i64 n]) l) H=some (l.map cI):=zcN (λ_ _=>rfl)
theorem zpM:∀l m:List Nd,zaI (l++m)=zaI l++zaI m
 |[],m=>by rw[zaI];rfl
 |x::l,m=>by rw[Wy,zaI,zaI,zpM l m,Wd]
theorem zd6:∀l m:List Nd,zaL (l++m)=zaL l+zaL m
 |[],m=>by rw[zaL];simp
 |x::l,m=>by rw[Wy,zaL,zaL,zd6 l m];omega
theorem zjH:∀n:Nd,1<=zco n
 |.mk _ _ _=>by rw[zco];omega
theorem zgv:∀l:List Nd,l.length<=zaL l
 |[]=>by rw[zaL];simp
 |x::l=>by rw[Wi,zaL];have:=zgv l;have:=zjH x;omega
theorem zsA(l):zaL l.reverse=zaL l:=by
 induction l with
 |nil=>rfl
 |cons a l b=>rw[Wz,zd6,b];simp only[zaL];omega
theorem zGt{H H2}{σ}{D}{t}:∀(e:Ex)(j:Nat),j<5->Vw H H2 σ D t ((encX e).getD j .undef) ((encX e).getD j .undef)
 |
  .mk _ _ _ _ _,j,hj=>by
  rw[zjz]
  match j,hj with
  |0,_=>exact .int _ _ _
  |1,_=>exact .int _ _ _
  |2,_=>exact .int _ _ _
  |3,_=>exact .int _ _ _
  |4,_=>exact .sl _ _ _ _
theorem zuh{H H2}{σ}{D}{t}:∀(e:Nd)(j:Nat),j<5->Vw H H2 σ D t ((encN e).getD j .undef) ((encN e).getD j .undef)
 |
  .mk _ _ _,j,hj=>by
  rw[zbj]
  match j,hj with
  |0,_=>exact .int _ _ _
  |1,_=>exact .int _ _ _
  |2,_=>exact .int _ _ _
  |3,_=>exact .sl _ _ _ _
  |4,_=>exact .sl _ _ _ _
theorem zyP{H H2}{σ}{D}{t}{r q g}{l}(b:D r q)(d:H.get r q=some (.row 5 (l.map encN) g))(c:l.length<=big):Vw H H2 σ D t (.own r q g 0 l.length) (encL 5 encN l) :=
 zkp b d c λa _ j e=>zuh a j e
theorem zGi{H H2}{σ}{D}{t}{r q g}{l}(b:D r q)(d:H.get r q=some (.row 5 (l.map encX) g))(c:l.length<=big):Vw H H2 σ D t (.own r q g 0 l.length) (encL 5 encX l) :=
 zkp b d c λa _ j e=>zGt a j e
theorem Qe{p:Prop}(h:p:=by(try simp only[evWB,Nat.reduceBEq,Nat.reduceAdd,Nat.reduceSub,Nat.reduceLeDiff,Nat.reduceLT,implies_true,List.length_append,List.map_append,List.append_assoc,List.singleton_append])<;>exact fin2):p:=h
theorem Qf{p:Prop}(h:p:=by(try simp only[evWB,Nat.reduceBEq,Nat.reduceAdd,Nat.reduceSub,Nat.reduceLeDiff,Nat.reduceLT,implies_true,List.length_append,List.map_append,List.append_assoc,List.singleton_append,List.drop_length,List.reverse_nil,Nat.sub_zero,List.nil_append])<;>exact fin2):p:=h
theorem Qg{p:Prop}(h:p:=by(try simp only[evWB,Nat.reduceBEq,Nat.reduceAdd,Nat.reduceSub,Nat.reduceLeDiff,Nat.reduceLT,implies_true,List.length_append,List.map_append,List.append_assoc,List.append_nil,List.map_cons,List.map_nil,List.length_cons,List.length_nil])<;>exact fin2):p:=h
theorem Qd{p:Prop}(h:p:=by(try simp only[evWB,Nat.reduceBEq,Nat.reduceAdd,Nat.reduceSub,Nat.reduceLeDiff,Nat.reduceLT,implies_true])<;>exact fin2):p:=h
theorem ui:type_of% @m9L:=@m9L
theorem uh:type_of% @m9O:=@m9O
theorem zhj(e:Nd)(V:zco e<=1000):zq Z9 zcH [.agg (encN e)] (·=encL 5 encN (allN e)):=by
 refine fn_x zql rfl ?_;unfold zkW;have W:=hBig;generalize J:allN e=R;have T:R.length<=1000:=by rw[<-J,zoe];exact V
 refine Gw3 @zD @zt @zJ ?_;intros;refine zd (λs:List Nd×List Nd×List Nd=>([(3,.own 0 0 0 0 s.1.length),(4,.own 1 0 0 0 s.2.1.length)],[(0,.row 5 (s.1.map encN) 0),(1,.row 5 ((s.2.1++s.2.2).map encN) 0)])) 2 (λs=>s.1++zaI s.2.1.reverse=R/\s.1.length+zaL s.2.1<=1000) (λs=>zaL s.2.1) ([],[e],[]) ⟨by simp only[WB,List.nil_append,zaI,Wm];exact J,by simp only[zaL,Wj];omega⟩ (Ent.tab [(0,1,0),(1,2,0)] [] rfl (Gin1_1 @zt) (Gin1_1 @zt)) ?_;rintro⟨out,rest,d⟩ ⟨b,n⟩ wf;simp only at b n;refine dcU zif.eq_1 ?_;have B:=zgv rest;by_cases O:0<rest.length
 .obtain⟨r,x,rfl⟩:∃r x,rest=r++[x]:=⟨rest.dropLast,rest.getLast (by intro h;rw[h]at O;simp at O),(List.dropLast_concat_getLast _).symm⟩;have o:(r++[x]).length=r.length+1:=by simp
  have q:(((r.length+1:Nat):Int)-1).toNat=r.length:=by omega
  have k:(Xa encN (r++[x]++d)).getD r.length []=encN x:=by rw[Wd,Wf,List.getD_eq_getElem?_getD,List.getElem?_append_right (by simp)];simp
  have A:(r++[x]++d).length=r.length+1+d.length:=by simp;omega
  rw[zd6]at n;rw[WC,WB,Wl,zaI]at b;obtain⟨⟨m,g,lb⟩,c,l⟩:=x;simp only[zaL,zco,Nat.add_zero]at n;rw[allN,<-Wd]at b;generalize w:encN (Nd.mk ⟨m,g,lb⟩ c l)=E at k;have p:=w;rw[zbj]at p;simp only at p;subst p;rw[o]at B;refine Gw7 @dT q k A o @ui @uh ?_;intros;have C:((((r.length+1:Nat):Int))-1-0).toNat=r.length:=by omega
  simp only[C,Int.toNat_zero];simp only[<-w]at k⊢;have I:(encN (Nd.mk ⟨m,g,lb⟩ c l)).getD 4 .undef=encL 5 encN l:=by rw[w];rfl
  have X:Xa encN out++[encN (Nd.mk ⟨m,g,lb⟩ c l)]=Xa encN (out++[Nd.mk ⟨m,g,lb⟩ c l]):=by simp
  (refine zc (λK=>?_) (λK=>?_))<;>(try simp only[dcd]at K)
  .have t:l=[]:=Wn (by omega);subst t;rw[zaI]at b;refine Gw0 ?_;intros;exact⟨(out++[Nd.mk ⟨m,g,lb⟩ c []],r,Nd.mk ⟨m,g,lb⟩ c []::d),⟨b,by simp only[Wc,Wi,Wj];simp only[zaL]at n;omega⟩,by simp only[zd6,zaL,zco];omega,(Ent.tab [(0,0,1),(1,1,0)] [] rfl Qe Qe)⟩
  .have t:0<l.length:=by omega
   refine Gw2 @uf I ?_;intros;refine zd (λs:Nat×List Nd=>([(3,.own 0 0 0 0 (out++[Nd.mk ⟨m,g,lb⟩ c l]).length),(4,.own 1 0 0 0 (r++(l.drop (l.length-s.1)).reverse).length),(5,.ptr 2 0 0 0 0),(6,.int .i64 ((l.length:Int)-1-s.1))],[(0,.row 5 ((out++[Nd.mk ⟨m,g,lb⟩ c l]).map encN) 0),(1,.row 5 ((r++(l.drop (l.length-s.1)).reverse++s.2).map encN) 0),(2,.row 5 [encN (Nd.mk ⟨m,g,lb⟩ c l)] 0)])) 3 (λs=>s.1<=l.length) (λs=>l.length-s.1) (0,Nd.mk ⟨m,g,lb⟩ c l::d) (Wo _) (Ent.tab [(0,0,1),(1,1,0),(2,2,0)] [] rfl Qf Qf) ?_;rintro⟨j,P⟩ hj wf2;simp only at hj;refine dcU zil.eq_1 ?_;by_cases U:j<l.length
   .have y:((l.length:Int)-1-(j:Int)).toNat=l.length-1-j:=by omega
    have u:l.length-1-j<l.length:=by omega
    have Q:((l.drop (l.length-j)).reverse).length=j:=by simp;omega
    have F:(l.drop (l.length-(j+1))).reverse=(l.drop (l.length-j)).reverse++[l[l.length-1-j]]:=by rw[show l.length-(j+1)=l.length-1-j by omega,List.drop_eq_getElem_cons u,Wz,show l.length-1-j+1=l.length-j by omega]
    generalize S:(l.drop (l.length-j)).reverse=D at *;have H:List.take (r++D).length (Xa encN (r++D++P))=Xa encN (r++D):=by rw[Wf (l₁:=r++D),List.take_left' (by simp)]
    have L:(r++D).length=r.length+j:=by rw[Wc,Q]
    have N:r.length<=1000:=by have:=zgv r;omega
    have M:l.length<=1000:=by have:=zgv l;omega
    refine Gw8 @dT @uf I y (gmp u) @zD @zJ H ?_;intros;refine⟨⟨by simp,by omega⟩,(j+1,[]),by simp only;omega,by simp only;omega,?_⟩;simp only[F];exact(Ent.tab [(0,0,0),(1,1,1),(2,2,0)] [] rfl Qg Qg)
   .have z:j=l.length:=by omega
    subst z;simp only[Nat.sub_self,List.drop_zero];refine Gw1 @dF ?_;intros;have v:=zsA l;refine⟨(out++[Nd.mk ⟨m,g,lb⟩ c l],r++l.reverse,P),⟨?_,?_⟩,?_,(Ent.tab [(0,0,0),(1,1,0)] [] rfl Qd Qd)⟩
    .simp only[WC,List.reverse_reverse,zpM];rw[<-Wd];rw[<-b];simp
    .simp only[Wc,Wi,Wj,zd6,v];omega
    .simp only[zd6,v,zaL,zco];omega
 .rw[show rest=[]from Wn (by omega),WA,zaI,Wm]at b;subst b;refine Gw1 @dF ?_;intros;unfold zin;refine Gw1 @zk6.eq_1 ?_;intros;exact⟨_,zyP (l:=out) trivial rfl (by omega),rfl⟩
end Go.Ab
namespace Go.Ab
open Go.RowKit Go.Proofs Go.Maps Go.Sort Go.Shelf
section
variable {H:AH}{nx:Nat}
theorem zvK(r:Nat):zG Z9 zX [.mp r 0] H nx (λv D x=>(v,D,x)=(.fn (.func zx) [.it nx],H.set nx 0 (.row 1 [[.mp r 0]] 0),nx+1)):=by
 intro w L ι C rel J
 obtain⟨u,s,I⟩:∃u,C=#[u]/\VR w (Lt L ι H) ι u (.mp r 0):=by
  rcases C with ⟨l⟩
  cases J with
  |cons o d=>cases d;exact⟨_,rfl,o⟩
 subst s
 cases I with
 |mp _ _ _ m q p=>
  have key:=callsIn_wide.1 (AnyZI.keys_in zwO Fence.wide 5 trivial rfl (some m.block) w);refine Calls.mono key λe P ⟨F,K⟩=>?_
  subst K;generalize zbY.t 23=y at *;have g:¬maxLen+3<=maxLen:=by omega
  have z:Chg w ι H nx 0 0 ⟨w.heap.size,0,maxLen+3,1⟩ (w.alloc (.cells #[.map (some m.block)] y)) :=
   ⟨rfl,rfl,rfl,by simp,λb n _=>Below.heap_alloc w _ b n,λ_=>.inr (Wg _),λN A=>(by rw[rel.freshI]at A;cases A),λM O d=>(by rw[rel.freshI]at d;cases d)⟩
  have n:(w.alloc (.cells #[.map (some m.block)] y)).heap[w.heap.size]?=some (.cells #[.map (some m.block)] y):=World.alloc_heap_new w _;refine⟨_,ι.put nx 0 0 ⟨w.heap.size,0,maxLen+3,1⟩,H.set nx 0 (.row 1 [[.mp r 0]] 0),nx+1,_,F,z.step (rel.sok 1) rel (Wp _) (Wh _) ⟨rfl,λi c k=>?_,λh=>absurd h g,λ_=>⟨Nat.succ_pos 0,_,n,rfl,by simp[zsl]⟩,λi c j a k B=>?_⟩,Wh _,?_,rfl⟩
  .match i with
   |0=>cases k;rfl
   |i+1=>cases k
  .match i with
   |0=>
    cases k
    match j with
    |0=>cases B;refine⟨.map (some m.block),?_,λh=>absurd h g,z.vr (rel.sok 1) rel (.mp _ _ _ _ q p)⟩;unfold zdT;rw[if_neg g];simp only[n,WD];rfl
    |j+1=>cases B
   |i+1=>cases k
  .refine .fn _ _ _ _ rfl λi v a o d=>?_
   match i with
   |0=>cases o;cases d;exact .it _ nx ⟨w.heap.size,0,maxLen+3,1⟩ (Inj.put_same _ _ _ _ _) (.inr rfl)
   |i+1=>cases d
end
def insI(x:Int):List Int->List Int
 |[]=>[x]
 |y::r=>bif decide (x<=y)then x::y::r else y::insI x r
def zmN:List Int->List Int
 |[]=>[]
 |x::r=>insI x (zmN r)
theorem zqN(x:Int):∀l:List Int,(insI x l).Perm (x::l)
 |[]=>.refl _
 |
  y::r=>by
  rw[insI];cases decide (x<=y)
  .exact((zqN x r).cons y).trans (.swap x y r)
  .exact .refl _
theorem zd4:∀l:List Int,(zmN l).Perm l
 |[]=>.refl _
 |x::r=>(zqN x _).trans ((zd4 r).cons x)
theorem zqT(x:Int):∀l:List Int,l.Pairwise (·<=·)->(insI x l).Pairwise (·<=·)
 |[],_=>by simp[insI]
 |
  y::r,h=>by
  rw[insI];rw[Wk]at h
  cases hd:decide (x<=y)with
  |true=>
   have b:x<=y:=of_decide_eq_true hd;refine Wk.2 ⟨λz c=>?_,Wk.2 h⟩;rcases List.mem_cons.1 c with rfl|c
   .exact b
   .exact Int.le_trans b (h.1 z c)
  |false=>
   have b:¬x<=y:=of_decide_eq_false hd;refine Wk.2 ⟨λz c=>?_,zqT x r h.2⟩;rcases List.mem_cons.1 ((zqN x r).mem_iff.1 c)with rfl|c
   .omega
   .exact h.1 z c
theorem zl2:∀l:List Int,(zmN l).Pairwise (·<=·)
 |[]=>.nil
 |x::r=>zqT x _ (zl2 r)
theorem zu1{l m:List Int}(h:l.Perm m)(d:l.Pairwise (·<=·))(e:m.Pairwise (·<=·)):l=m :=
 List.Perm.eq_of_pairwise (λ_ _ _ _ b c=>Int.le_antisymm b c) d e h
theorem zmk{l m:List Int}(h:l.Perm m):l.mergeSort (λx y=>decide (x<=y))=zmN m:=by refine zu1 ((List.mergeSort_perm _ _).trans (h.trans (zd4 m).symm)) ?_ (zl2 m);have:=List.pairwise_mergeSort (le:=λx y:Int=>decide (x<=y)) (λa b c d e=>by simp only[decide_eq_true_eq]at *;exact Int.le_trans d e) (λa b=>by simp only[Bool.or_eq_true,decide_eq_true_eq];exact Int.le_total a b) l;exact this.imp λh=>of_decide_eq_true h
def entI:List (List AV)->Option (List (Int×Int))
 |[]=>some []
 |
  c::r=>match c with
  |
   [.int .i64 k,_,.int .i64 b]=>match entI r with
   |some l=>some ((k,b)::l)
   |none=>none
  |_=>none
theorem zwf:∀ {d:List (List AV)}{l:List (Int×Int)},entI d=some l->l.length=d.length/\∀(i:Nat)(p:Int×Int),l[i]?=some p->∃v,d[i]?=some [.int .i64 p.1,v,.int .i64 p.2]
 |[],l,h=>by cases h;exact⟨rfl,λi p h=>by simp at h⟩
 |
  c::r,l,h=>by
  unfold entI at h;split at h
  .rename_i k v b;split at h
   .rename_i n m;cases h;obtain⟨g,j⟩:=zwf m;refine⟨by simp[g],λi p e=>?_⟩
    match i with
    |0=>cases e;exact⟨v,rfl⟩
    |i+1=>exact j i p e
   .cases h
  .cases h
section
variable {w:World}{L:Nat->Prop}{ι:Inj}{H:AH}{nx:Nat}
theorem zDG(rel:RelH w L ι H nx){r:Nat}{l:Loc}{c:Int}{u S:AV}{F:List (List AV)}{g:List (Int×Int)}(P:ι r 0 0=some l)(k:l.cap=maxLen+1)(Q:H.get r 0=some (.row 3 ([.int .i64 c,u,S]::F) 0))(t:entI F=some g) :
  ∃d clock,w.heap[l.block]?=some (.map d clock)/\c=(clock:Int)/\d.toList.map (λe=>e.key)=g.map (λp=>encZ p.1)/\d.toList.map (λe=>(e.born:Int))=g.map (·.2)/\∀p∈g,InR .i64 p.1:=by
 obtain⟨T,o,ok⟩:=rel.row _ _ _ _ _ Q;rw[P]at o;cases o;obtain⟨d,clock,O,z,x⟩:=ok.map k;obtain⟨I,m⟩:=zwf t;have j:d.size=g.length:=by simp at z;omega
 have one:∀(i:Nat)(p:Int×Int),g[i]?=some p->∃e,d[i]?=some e/\e.key=encZ p.1/\(e.born:Int)=p.2/\InR .i64 p.1:=by
  intro i p b;obtain⟨v,J⟩:=m i p b;have n:i<d.size:=by rw[j];exact(WE.1 b).1
  obtain⟨v1,C,q⟩:=x (i+1) 0 _ (.int .i64 p.1) (by simpa using J) rfl;obtain⟨U,D,A⟩:=x (i+1) 2 _ (.int .i64 p.2) (by simpa using J) rfl;simp only[zdH,Wq n,Option.map_some,WF]at C D;refine⟨d[i],Wq n,?_,?_,?_⟩
  .rw[C];generalize p.1=y at q⊢;cases q;rfl
  .rw[<-D]at A;generalize p.2=y at A⊢;cases A;rfl
  .generalize p.1=y at q⊢;cases q;assumption
 refine⟨d,clock,O,?_,?_,?_,λp R=>?_⟩
 .obtain⟨v,B,K⟩:=x 0 0 _ (.int .i64 c) rfl rfl;simp only[zdH,WF]at B;rw[<-B]at K;cases K;rfl
 .apply WG;intro i;rw[We,We,Wr]
  cases b:g[i]? with
  |none=>rw[WH (by rw[j];exact WI.1 b)];rfl
  |some p=>obtain⟨e,s,M,_⟩:=one i p b;rw[s];simp[M]
 .apply WG;intro i;rw[We,We,Wr]
  cases b:g[i]? with
  |none=>rw[WH (by rw[j];exact WI.1 b)];rfl
  |some p=>obtain⟨e,s,_,N,_⟩:=one i p b;rw[s];simp[N]
 .obtain⟨i,b,rfl⟩:=List.mem_iff_getElem.1 R;obtain⟨_,_,_,_,h⟩:=one i _ (List.getElem?_eq_getElem b);exact h
theorem zIQ(rel:RelH w L ι H nx){u:World}{e:TypeId}{v:Value}{n:Nat}{y:List Int}(K:y.length=n)(B:u.ownsRow w.heap.size e 1 v n (y.map encZ))(o:Below w.heap.size w u)(Q:∀z∈y,InR .i64 z):
  ∃x,Step w L ι H nx u x (H.set nx 0 (.row 1 (y.map λk=>[.int .i64 k]) 0)) (nx+1)/\VR u (Lt L x (H.set nx 0 (.row 1 (y.map λk=>[.int .i64 k]) 0))) x v (.own nx 0 0 0 n):=by
 obtain⟨hlen,⟨rfl,rfl⟩|⟨g,cap,cur,rfl,P,s,N,p,U,O⟩⟩:=B
 .obtain rfl:y=[]:=Wn K;have D:Chg w ι H nx 0 0 ⟨0,0,0,1⟩ u:=⟨o.os,o.tape,o.output,o.size,λb q _=>o.block b q,λh=>by simp at h,λR A=>(by rw[rel.freshI]at A;cases A),λM S p=>(by rw[rel.freshI]at p;cases p)⟩;refine⟨_,D.step (rel.sok 1) rel (Wp _) (Wh _) (.mk' rfl (Wg _) (Wo _) (λk d=>by simp at d) (λh=>by simp at h) (λk C d=>by simp at d) (λk C j a d _=>by simp at d)),?_⟩;exact .own _ nx 0 0 0 0 _ 0 _ (Inj.put_same _ _ _ _ _) (Wo _) (Wg _) (Wg _) (λh=>by omega)
 .have D:Chg w ι H nx 0 0 ⟨g,0,cap,1⟩ u:=⟨o.os,o.tape,o.output,o.size,λb q _=>o.block b q,λ_=>.inr P,λR A=>(by rw[rel.freshI]at A;cases A),λM S p=>(by rw[rel.freshI]at p;cases p)⟩;have m:∀k,k<cap->u.cell? ⟨g,k,none⟩=cur[k]? := λk d=>by simp only[World.cell?,s,WJ,WK,if_false]
  refine⟨_,D.step (rel.sok 1) rel (Wp _) (Wh _) (.mk' rfl (by simp;omega) p (λk d=>?_) (λ_=>?_) (λk C d=>?_) (λk C j a d J=>?_)),.own _ nx 0 0 0 n _ cap _ (Inj.put_same _ _ _ _ _) p N (by simp) (λ_=>by simp)⟩
  .simp only[Nat.zero_add,Ws]at d⊢;rw[m k d];refine⟨by rw[Wq (by omega)];rfl,by simp[World.frozen?,s]⟩
  .intro c T W V I;rw[s]at I;cases I;exact .inl rfl
  .rw[We]at d;obtain⟨z,_,rfl⟩:=WL.1 d;rfl
  .rw[We]at d;obtain⟨z,t,rfl⟩:=WL.1 d
   match j with
   |0=>
    cases J;have F:k<n:=by rw[<-K];exact(WE.1 t).1
    refine⟨encZ z,?_,rfl,.int _ _ _ (Q z (List.mem_of_getElem? t))⟩;simp only[Nat.zero_add,Ws,Nat.add_zero];rw[m k (by omega)];have:=congrArg (λ(l:List Value)=>l[k]?) O;simp only[Ws,List.getElem?_take_of_lt F,We,t,Option.map_some,Wr]at this;exact this
   |j+1=>cases J
theorem zp1{α β:Type}{f:α->β}:∀{l:List α},(l.map f).Nodup->l.Nodup
 |[],_=>.nil
 |
  a::l,h=>by
  rw[List.map_cons,Wt]at h;exact Wt.2 ⟨λb=>h.1 (Wu b),zp1 h.2⟩
theorem zC7{k:IntKind}{n:Int}(h:InR k n):(Lit.int k n).wf=true:=by unfold Lit.wf;simpa [InR]using h
theorem zr2{r rb:Nat}{c:Int}{u u':AV}{es:List (List AV)}{ps:List (Int×Int)}(hb:H.get rb 0=some (.row 1 [[.mp r 0]] 0))(hm:H.get r 0=some (.row 3 ([.int .i64 c,u,u']::es) 0))(hes:entI es=some ps)(hk:(ps.map (·.1)).Nodup)(A:(ps.map (·.2)).Nodup)(hcl:∀p∈ps,p.2<c)(hlen:ps.length<=1000000) :
  zG Z9 zb1 [.fn (.func zx) [.it rb]] H nx (λv H' nx'=>(v,H',nx')=(.own nx 0 0 0 ps.length,H.set nx 0 (.row 1 ((zmN (ps.map (·.1))).map λk=>[.int .i64 k]) 0),nx+1)):=by
 intro w L ι vs rel hv
 obtain⟨mv,hvs,hmv⟩:∃mv,vs=#[mv]/\VR w (Lt L ι H) ι mv (.fn (.func zx) [.it rb]):=by
  rcases vs with ⟨l⟩
  cases hv with
  |cons h1 h2=>cases h2;exact⟨_,rfl,h1⟩
 subst hvs
 cases hmv with
 |fn _ _ cs _ hs hcv=>
  obtain⟨pv,rfl⟩:∃pv,cs=#[pv]:=by
   rcases cs with ⟨l⟩
   match l,hs with
   |[pv],_=>exact⟨pv,rfl⟩
  have q:=hcv 0 pv (.it rb) rfl rfl
  cases q with
  |it _ _ lb hlb hcb=>
   obtain⟨lb',y,Z⟩:=rel.row _ _ _ _ _ hb;rw[hlb]at y;cases y;have U:¬lb.cap<=maxLen:=by omega
   obtain⟨_,o,ho,ho2,ho3⟩:=Z.spec U;obtain⟨mv,h4,_,h5⟩:=Z.hold 0 _ 0 (.mp r 0) rfl rfl;unfold zdT at h4;rw[if_neg U,ho]at h4
   cases h5 with
   |mp _ _ _ lm hlm hcm=>
    obtain⟨cells,te,fz,rfl⟩:∃cells te fz,o=.cells cells te fz:=by cases o<;>first|exact⟨_,_,_,rfl⟩|(simp[zsl]at ho3;omega)|(simp[vlen]at ho2;done)
    simp only[WD,zdH]at h4;have B:w.cell? ⟨lb.block,0,none⟩=some (.map (some lm.block)):=by simp only[World.cell?,ho,WJ,WK,if_false];exact h4
    obtain⟨g,clock,T,rfl,s,P,C⟩:=zDG rel hlm hcm hm hes;have J:g.size=ps.length:=by have:=congrArg List.length s;simpa using this
    have hmb':lm.block<w.heap.size:=(WM.1 T).1;have S:lb.block<w.heap.size:=(WM.1 ho).1;let R:Value->Option (DataW Unit×List MemPlace):=λ_=>some (.nil,[])
    have Q:Tryz.prog.underlying (zbY.t 26)=some (.int .i64):=zwO.t26
    have d:∀x∈g.toList,Xd Z9 (zbY.t 26) R x=some (.int .i64 (intOf ((keyOf Z9 (zbY.t 26) x.key).getD (.bool false))),.nil)/\∃p∈ps,x.key=encZ p.1:=by
     intro x K;have:x.key∈ps.map λp=>encZ p.1:=by rw[<-s];exact Wu K
     obtain⟨p,q,h⟩:=Wv.1 this;refine⟨?_,p,q,h.symm⟩;have hko:=keyOf_int_mk Q (zC7 (C p q));unfold Xd;rw[<-h,hko];rfl
    have F:Xh Z9 (zbY.t 26) R g clock:=⟨by unfold maxLen;omega,⟨λx K=>?_,?_,?_⟩,λx K=>⟨_,(d x K).1⟩⟩
    rotate_left
    .have:(x.born:Int)∈ps.map (·.2):=by rw[<-P];exact Wu K
     obtain⟨p,q,h⟩:=Wv.1 this;have:=hcl p q;omega
    .rw[<-P]at A;rw[show(g.toList.map λe=>(e.born:Int))=(g.toList.map (·.born)).map (λn:Nat=>(n:Int)) by simp[Ww]]at A;exact zp1 A
    .rw[s];rw[show(ps.map λp=>encZ p.1)=(ps.map (·.1)).map encZ by simp[Ww]];exact List.Pairwise.map _ (λa b hab e=>hab (encZ_inj e)) hk
    have V:w.ownsMap Z9 (zbY.t 26) R lm.block g.size (.map ((g.toList.map (Xc Z9 (zbY.t 26) R)).foldr Xb [])):=⟨g,clock,T,F,Wg _,rfl⟩
    have D:(intKeys (Xe (H:=Unit) ((g.toList.map (Xc Z9 (zbY.t 26) R)).foldr Xb []))).Perm (ps.map (·.1)):=by
     show((List.foldr Xb [] _).map λp=>intOf p.1).Perm _;refine((Xf _).map _).trans ?_;refine List.Perm.of_eq ?_;have:(g.toList.map λe=>e.key).map (λv=>match v with |.int _ n=>n|_=>0)=ps.map (·.1):=by rw[s];simp[Ww]
     rw[<-this,Xg,Xg];refine List.map_congr_left λx K=>?_
     obtain⟨h1,p,q,h⟩:=d x K;simp only[Function.comp];rw[Xi h1,h,keyOf_int_mk Q (zC7 (C p q))];rfl
    have m:Maps.size (Xe (H:=Unit) ((g.toList.map (Xc Z9 (zbY.t 26) R)).foldr Xb []))=ps.length:=by rw[Maps.size_eq,(Xf _).length_eq,Wx,Array.length_toList,J]
    have Y:=AnyZI.keys_gives (ρ:=zbY) { zwO with } Fence.wide 2 trivial rfl (by omega) lb.block lm.block g.size _ w S B V
    have M:AnyZI.SortsIn Z9 zoA Fence.wide 4 :=
     ⟨λblk off cap ss W hH O J=>callsIn_wide.2 (AnyM.slices_Sort_int zun blk off cap ss W hH O J),λp cap W=>callsIn_wide.2 (AnyM.slices_Sort_int_none zun p cap W)⟩
    have cS:=AnyZI.sorted_in zCx Fence.wide 5 trivial trivial trivial trivial rfl (by omega) M zvF zx #[.pointer (some ⟨lb.block,0,none⟩)] trivial zuN _ _ (by rw[m];unfold maxLen;omega) (by rw[m];omega) _ Y;refine Calls.mono (callsIn_wide.1 cS) λe w' ⟨v,ss,he,I,j,_,N⟩=>?_
    have X:ss.Perm (ps.map (·.1)):=I.trans D;rw[zmk X]at j;have hl:ss.length=ps.length:=by rw[X.length_eq,Wx]
    rw[hl]at j;have hsl:(zmN (ps.map (·.1))).length=ps.length:=by rw[(zd4 _).length_eq,Wx]
    obtain⟨ι',st,hvr⟩:=zIQ rel hsl j N (λz hz=>by
     obtain⟨p,q,rfl⟩:=Wv.1 ((zd4 _).mem_iff.1 hz)
     exact C p q)
    exact⟨v,ι',_,_,_,he,st,Wh _,hvr,rfl⟩
end
end Go.Ab
namespace Go.Ab
open Go.RowKit Go.Proofs
theorem zHi:zU Z9 zar (qRo [])=some ((zo4 5 72 [.int .i64 0,.int .i64 0,.int .i64 0,.nilsl,.nilsl]).strip,[.tmp 2],8):=by kernel_rfl
theorem zGI:zU Z9 zA (qRo [])=some ((zo4 5 56 [.int .i64 0,.int .u32 0,.int .i64 0,.int .i64 0,.nilsl]).strip,[.tmp 2],8):=by kernel_rfl
theorem zJw:zU Z9 zS (qRo [])=some ((zo4 1 8 [.int .i64 0]).strip,[.tmp 2],8):=by kernel_rfl
def nodB:List Int->Bool
 |[]=>true
 |x::r=> !(r.any λy=>decide (y=x))&&nodB r
theorem zyc:∀{l:List Int},nodB l=true->l.Nodup
 |[],_=>.nil
 |
  x::r,h=>by
  simp only[nodB,WN,Bool.not_eq_true',List.any_eq_false,decide_eq_true_eq]at h;exact Wt.2 ⟨λb=>h.1 x b rfl,zyc h.2⟩
def zol(b:Nat)(args:List AV)(H:AH)(nx:Nat):Option (AV×AH×Nat) :=
 match args with
 |[x]=>bif zBN b x H then some (.own nx 0 0 0 0,H.set nx 0 (.row b [] 0),nx+1)else none
 |_=>none
def zC6(args:List AV)(H:AH)(nx:Nat):Option (AV×AH×Nat) :=
 match args with
 |[.mp r 0]=>some (.fn (.func zx) [.it nx],H.set nx 0 (.row 1 [[.mp r 0]] 0),nx+1)
 |_=>none
def zwg(args:List AV)(H:AH)(nx:Nat):Option (AV×AH×Nat) :=
 match args with
 |[.fn (
     .func g) [.it b]]=>bif Wa g zx then
   match H.get b 0 with
   |
    some (.row 1 [[.mp r 0]] 0)=>match H.get r 0 with
    |
     some (.row 3 ([.int .i64 c,_,_]::es) 0)=>match entI es with
     |
      some ps=>bif nodB (ps.map (·.1))&&(nodB (ps.map (·.2))&&((ps.all λp=>decide (p.2<c))&&Nat.ble ps.length 1000000))then
       some (.own nx 0 0 0 ps.length,H.set nx 0 (.row 1 ((zmN (ps.map (·.1))).map λk=>[.int .i64 k]) 0),nx+1)
      else none
     |none=>none
    |_=>none
   |_=>none
  else none
 |_=>none
def zB7:zbN:=λf args H nx=>
 bif Wa f zX then zC6 args H nx
 else bif Wa f zb1 then zwg args H nx
 else bif Wa f zar then zol 5 args H nx
 else bif Wa f zA then zol 5 args H nx
 else bif Wa f zS then zol 1 args H nx
 else none
theorem znQ{f d bytes:Nat}{z:List AV}(g:zU Z9 f (qRo [])=some ((zo4 d bytes z).strip,[.tmp 2],8)){args:List AV}{H:AH}{nx:Nat}{r:AV×AH×Nat}(h:zol d args H nx=some r):
  zG Z9 f args H nx (λv e c=>(v,e,c)=r):=by
 unfold zol at h;split at h
 .rename_i x
  cases b:zBN d x H with
  |false=>rw[b]at h;cases h
  |true=>rw[b]at h;cases h;exact zum g (by decide) b
 .cases h
theorem zeY:zB7.Sound Z9:=by
 intro f args H nx r h;unfold zB7 at h
 cases d:Wa f zX with
 |true=>
  rw[d]at h;obtain rfl:=zj d;simp only[cond_true]at h;unfold zC6 at h;split at h
  .cases h;exact zvK _
  .cases h
 |false=>
 rw[d]at h
 cases e:Wa f zb1 with
 |true=>
  rw[e]at h;obtain rfl:=zj e;simp only[cond_true,cond_false]at h;unfold zwg at h;split at h
  .rename_i g v
   cases o:Wa g zx with
   |false=>rw[o]at h;cases h
   |true=>
    rw[o]at h;obtain rfl:=zj o;simp only[cond_true]at h;split at h
    .rename_i r p;split at h
     .rename_i c u w t q;split at h
      .rename_i s n;generalize b:(nodB (s.map (·.1))&&_)=cond at h
       cases cond with
       |false=>cases h
       |true=>cases h;simp only[WN,List.all_eq_true,decide_eq_true_eq]at b;exact zr2 p q n (zyc b.1) (zyc b.2.1) b.2.2.1 (bleT b.2.2.2)
      .cases h
     .cases h
    .cases h
  .cases h
 |false=>
 rw[e]at h
 cases j:Wa f zar with
 |true=>rw[j]at h;obtain rfl:=zj j;exact znQ zHi h
 |false=>
 rw[j]at h
 cases k:Wa f zA with
 |true=>rw[k]at h;obtain rfl:=zj k;exact znQ zGI h
 |false=>
 rw[k]at h
 cases m:Wa f zS with
 |true=>rw[m]at h;obtain rfl:=zj m;exact znQ zJw h
 |false=>rw[m]at h;cases h
end Go.Ab
namespace Go.Ab
def q36:FuncId->Nat->List Nat:=qTabK [(zqm,([],[0],[])),
 (znO,([],[153131183434107391],[(8,[1]),(17,[12])])),
 (zlF,([],[639],[])),
 (zlA,([],[4127],[])),
 (zmn,([],[39],[(3,[14])])),
 (zjr,([],[4175],[(6,[20])])),
 (zeq,([],[20769187743700468513022123643584511],[])),
 (zen,([],[162259279247065020637433926156287],[])),
 (zlK,([],[591484760677544919167],[])),
 (zaA,([12,14,18,20,28,32,34,36,43,45,47,50,66,78],[255],[(9,[9,25])])),
 (zaK,([],[568332671],[])),
 (zqf,([],[2417999287491809886999039],[])),
 (zo0,([],[1050543],[])),
 (zrW,([],[4159],[])),
 (zcK,([],[131635],[])),
 (zgs,([],[137716893951],[(15,[1,2])])),
 (zel,([],[985163492243583],[])),
 (zw6,([],[1151],[])),
 (zAz,([],[2418003825158137522946175],[])),
 (zxq,([],[7],[])),
 (zyj,([],[18033092365263871],[])),
 (zd5,([],[34735],[])),
 (zwI,([],[16543],[])),
 (zBy,([],[19],[])),
 (zdE,([],[34735],[])),
 (zvz,([],[131231],[])),
 (zwx,([],[4198431],[])),
 (zvx,([],[67244047],[])),
 (zsB,([],[67109951],[])),
 (ziJ,([],[524863],[])),
 (zeU,([],[17180000503],[])),
 (zmA,([],[2111],[])),
 (zdC,([],[33818751],[])),
 (zfz,([],[17716773063],[])),
 (zd3,([],[528415],[])),
 (zch,([],[4127],[])),
 (ziu,([],[2148532687],[])),
 (zAy,([],[5],[])),
 (zE8,([],[5],[])),
 (zyh,([],[5],[])),
 (zb5,([],[4636591142270639],[])),
 (za4,([],[4533489117377705399028447],[])),
 (zB,([],[16785383],[(6,[9])])),
 (zcH,([],[69793220735],[])),
 (zat,([],[8396471],[])),
 (zsF,([],[576478346637019383],[])),
 (zq8,([],[2417925426205621976301599],[])),
 (zjD,([],[4611721211406190543],[])),
 (zdO,([],[19],[])),
 (znP,([],[7],[])),
 (zn7,([],[154742504910672625680777343],[])),
 (zor,([],[19360524294128575204755323],[])),
 (znI,([],[65567],[])),
 (znF,([],[15],[])),
 (zO,([],[19],[])),
 (zdW,([],[5],[])),
 (zan,([],[17596514574653],[])),
 (zS,([],[21],[])),
 (zar,([],[21],[])),
 (znD,([],[3615],[])),
 (zqd,([],[121332966943],[])),
 (zA,([],[21],[])),
 (zaX,([],[7183],[])),
 (zqs,([],[137443270975],[(8,[10])])),
 (zAs,([],[154742504946702430897184751],[])),
 (zw0,([],[1073743991],[])),
 (zuA,([],[32927],[])),
 (zAW,([],[576497036187140159],[])),
 (zvf,([],[34426982519],[])),
 (zv1,([],[131343],[])),
 (zv0,([],[17179902207],[])),
 (zwP,([],[2199027580983],[])),
 (zwJ,([],[4503634255579251],[])),
 (zxS,([],[543],[])),
 (zDw,([],[139586718751],[])),
 (zAq,([],[2199027458207],[])),
 (ziG,([],[2149581295],[])),
 (zhM,([],[1082523791],[])),
 (zjc,([],[140741817401855],[])),
 (zhL,([],[274877923571],[])),
 (zkH,([],[9345848867383],[])),
 (zeE,([],[17732730991],[])),
 (zaY,([],[71],[])),
 (zau,([],[7],[])),
 (zdL,([],[1082523791],[])),
 (ze9,([],[7696599156671],[(9,[5])])),
 (zbt,([],[5444517870735015490971866452025900261023],[(18,[10]),(19,[6,8])])),
 (zaE,([],[2101171],[])),
 (zC,([],[1180861854287308271583],[])),
 (za7,([],[155],[])),
 (zQ,([],[5],[])),
 (zP,([],[8421351],[])),
 (zAY,([],[7],[])),
 (zuk,([],[132151],[])),
 (zyC,([],[93],[])),
 (zrc,([],[151],[])),
 (zu8,([],[31],[])),
 (zx6,([],[5],[])),
 (zeO,([],[66483],[])),
 (zgC,([],[143],[])),
 (zbm,([],[30767],[])),
 (zly,([],[15],[])),
 (zb7,([],[66483],[])),
 (zim,([],[10384593871817177683247510831234831],[])),
 (zr3,([],[5],[])),
 (zfq,([],[504373101],[])),
 (zwe,([],[70368752566775],[])),
 (zAM,([],[8589936759],[])),
 (ztP,([],[34493964791],[])),
 (ztM,([],[162259277131445106534407549223927],[])),
 (zvk,([],[2099103],[])),
 (zDq,([],[5],[])),
 (zwH,([],[562949953425311],[])),
 (zxI,([],[1127],[])),
 (zvO,([],[4616189618057552319],[])),
 (zwE,([],[140879222276159],[])),
 (zcT,([],[7],[])),
 (zY,([],[19],[])),
 (zaH,([],[19],[])),
 (zfU,([],[11],[])),
 (zeR,([],[2589],[])),
 (zaS,([],[18032061663346911],[])),
 (zeT,([],[81208866883799183159208249057267],[])),
 (zcP,([],[14367],[])),
 (zbU,([],[2295],[])),
 (zd0,([],[70800343807],[])),
 (zdY,([],[4310819007],[])),
 (zam,([],[19],[])),
 (zgE,([],[15],[])),
 (ziW,([],[2305844110935750607],[])),
 (zft,([],[276315827],[])),
 (zaa,([],[21],[])),
 (zgR,([],[17179873267],[])),
 (zbw,([],[51],[])),
 (zp,([],[47],[])),
 (zbH,([],[545391503],[])),
 (zvU,([],[4198583],[])),
 (zsh,([],[1298074215238169961055195466694927],[])),
 (zg6,([],[31],[])),
 (zaz,([],[8864946749727],[])),
 (zfF,([],[1073746119],[])),
 (zhO,([],[1074268103],[])),
 (zfC,([],[8804682991559],[])),
 (zgy,([],[20829169751433159],[])),
 (zfV,([],[8391],[])),
 (zdI,([],[83087207854311395603287443752634311],[])),
 (zsp,([],[19],[])),
 (zfk,([],[19023213622105999119],[])),
 (zho,([],[22458641409078797123448399039441150152463],[])),
 (zpt,([],[277],[])),
 (zpB,([],[16661],[])),
 (zgq,([],[65619],[])),
 (zup,([],[23],[])),
 (zst,([],[604465220153940708952047],[])),
 (z8,([],[66483],[])),
 (zad,([],[66483],[])),
 (zfG,([],[5],[])),
 (ziy,([],[5],[])),
 (zbv,([],[3946589],[])),
 (zaT,([],[262735],[])),
 (zd1,([],[138563092727],[])),
 (zbW,([],[17023135],[])),
 (zbu,([],[525],[])),
 (zcq,([],[17597437313095],[])),
 (zao,([],[3615],[])),
 (zaB,([],[66483],[])),
 (zb1,([],[13],[])),
 (zX,([],[7],[])),
 (zF,([],[19],[])),
 (zgG,([],[15],[])),
 (zaf,([],[7],[])),
 (zhW,([],[4503668346913551],[])),
 (zkA,([],[5],[])),
 (zlt,([],[5],[])),
 (zfi,([],[71],[])),
 (ziQ,([],[1055],[])),
 (zra,([],[5],[])),
 (zDl,([],[1162750726242719],[])),
 (zaR,([],[537399539],[])),
 (zb0,([],[11],[])),
 (zmP,([],[5],[])),
 (zx,([],[8363],[])),
 (zab,([],[66483],[])),
 (ziK,([],[262927],[])),
 (ziS,([],[23],[]))]
def stmV(op nx b:Int)(e:AV):List AV:=[.int .i64 op,.int .i64 0,.int .i64 0,.int .i64 nx,.int .i64 b,.int .u32 0,e,.nilsl]
def zmO:AV:=.agg [.int .u32 0,slL 2 [[.int .u32 0,slL 8 [stmV 6 1 0 .nilsl]],[.int .u32 0,slL 8 [stmV 7 2 3 (slL 5 [[.int .i64 2,.int .u32 0,.int .i64 1,.int .i64 0,.nilsl]])]],[.int .u32 0,slL 8 [stmV 6 1 0 .nilsl]],[.int .u32 0,slL 8 [stmV 10 0 0 .nilsl]]]]
end Go.Ab
