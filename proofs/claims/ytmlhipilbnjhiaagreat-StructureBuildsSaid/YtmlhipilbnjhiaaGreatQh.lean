/-
  Part 8 of the proof: how the calls of this program run, over values instead of memory, and what each function computes.
-/
import Derived.KernelRfl
import Derived.Test.YtmlhipilbnjhiaaGreatQg
set_option maxRecDepth 100000
set_option linter.unusedVariables false
set_option linter.unusedSimpArgs false
set_option linter.unnecessarySimpa false
set_option linter.unusedSectionVars false
open List renaming map->Xa,map_map->Xg
open Go.DataW renaming insert->Xb,map->Xe
open Go.WideElems renaming rg->Xc,rd->Xd,Fit->Xh,rg_of->Xi
open Go.WideShapes renaming sorted_perm->Xf
open Go.Proofs.Tryz renaming prog->Z9
open Nat renaming beq→Wa,le_refl→Wg,le_succ→Wh,zero_le→Wo,lt_succ_self→Wp,mul_one→Ws
open List renaming append_assoc→Wc,getElem?_map→Wd,length_append→We,map_append→Wf,length_cons→Wi,length_nil→Wj,pairwise_cons→Wk,singleton_append→Wl,append_nil→Wm,eq_nil_of_length_eq_zero→Wn,nodup_cons→Wt,mem_map_of_mem→Wu,mem_map→Wv,length_map→Wx,cons_append→Wy,reverse_cons→Wz,reverse_nil→WA,reverse_singleton→WB,reverse_append→WC,getElem?_eq_some_iff→WE,ext_getElem?→WG,getElem?_eq_none_iff→WI
open Array renaming getElem?_eq_getElem→Wq,getElem?_toList→Wr,getElem?_eq_none→WH,getElem?_eq_some_iff→WM
open Function renaming comp_def→Ww
open Option renaming bind_some→WD,isSome_none→WJ,map_eq_some_iff→WL
open Option.some renaming injEq→WF
open Bool renaming false_eq_true→WK,and_eq_true→WN
namespace Go.Ab
open Go.RowKit Go.Proofs
theorem zvf{l}{H}:zcq 1 (encL 1 (λn=>[.int .i64 n]) l) H=some (l.map cI):=za7 (λ_ _=>rfl)
theorem zrd:∀l m:List Nd,zcj (l++m)=zcj l++zcj m
 |[],m=>by rw[zcj];rfl
 |x::l,m=>by rw[Wy,zcj,zcj,zrd l m,Wc]
theorem zed:∀l m:List Nd,za0 (l++m)=za0 l+za0 m
 |[],m=>by rw[za0];simp
 |x::l,m=>by rw[Wy,za0,za0,zed l m];omega
theorem zpb:∀n:Nd,1<=zc6 n
 |.mk _ _ _=>by rw[zc6];omega
theorem zil:∀l:List Nd,l.length<=za0 l
 |[]=>by rw[za0];simp
 |x::l=>by rw[Wi,za0];have:=zil l;have:=zpb x;omega
theorem zuB(l):za0 l.reverse=za0 l:=by
 induction l with
 |nil=>rfl
 |cons a l b=>rw[Wz,zed,b];simp only[za0];omega
theorem zHZ{H H2}{σ}{D}{t}:∀(e:Ex)(j:Nat),j<5->Vw H H2 σ D t ((encX e).getD j .undef) ((encX e).getD j .undef)
 |
  .mk _ _ _ _ _,j,hj=>by
  rw[zgB]
  match j,hj with
  |0,_=>exact .int _ _ _
  |1,_=>exact .int _ _ _
  |2,_=>exact .int _ _ _
  |3,_=>exact .int _ _ _
  |4,_=>exact .sl _ _ _ _
theorem zwm{H H2}{σ}{D}{t}:∀(e:Nd)(j:Nat),j<5->Vw H H2 σ D t ((encN e).getD j .undef) ((encN e).getD j .undef)
 |
  .mk _ _ _,j,hj=>by
  rw[zaF]
  match j,hj with
  |0,_=>exact .int _ _ _
  |1,_=>exact .int _ _ _
  |2,_=>exact .int _ _ _
  |3,_=>exact .sl _ _ _ _
  |4,_=>exact .sl _ _ _ _
theorem zvC{H H2}{σ}{D}{t}{r q g}{l}(b:D r q)(d:H.get r q=some (.row 5 (l.map encN) g))(c:l.length<=big):Vw H H2 σ D t (.own r q g 0 l.length) (encL 5 encN l) :=
 zk3 b d c λa _ j e=>zwm a j e
theorem zHM{H H2}{σ}{D}{t}{r q g}{l}(b:D r q)(d:H.get r q=some (.row 5 (l.map encX) g))(c:l.length<=big):Vw H H2 σ D t (.own r q g 0 l.length) (encL 5 encX l) :=
 zk3 b d c λa _ j e=>zHZ a j e
theorem Qn{p:Prop}(h:p:=by(try simp only[evWB,Nat.reduceBEq,Nat.reduceAdd,Nat.reduceSub,Nat.reduceLeDiff,Nat.reduceLT,implies_true,List.length_append,List.map_append,List.append_assoc,List.singleton_append])<;>exact fin2):p:=h
theorem Qo{p:Prop}(h:p:=by(try simp only[evWB,Nat.reduceBEq,Nat.reduceAdd,Nat.reduceSub,Nat.reduceLeDiff,Nat.reduceLT,implies_true,List.length_append,List.map_append,List.append_assoc,List.singleton_append,List.drop_length,List.reverse_nil,Nat.sub_zero,List.nil_append])<;>exact fin2):p:=h
theorem Qp{p:Prop}(h:p:=by(try simp only[evWB,Nat.reduceBEq,Nat.reduceAdd,Nat.reduceSub,Nat.reduceLeDiff,Nat.reduceLT,implies_true,List.length_append,List.map_append,List.append_assoc,List.append_nil,List.map_cons,List.map_nil,List.length_cons,List.length_nil])<;>exact fin2):p:=h
theorem Ql{p:Prop}(h:p:=by(try simp only[evWB,Nat.reduceBEq,Nat.reduceAdd,Nat.reduceSub,Nat.reduceLeDiff,Nat.reduceLT,implies_true])<;>exact fin2):p:=h
theorem ui:type_of% @m9L:=@m9L
theorem uh:type_of% @m9O:=@m9O
theorem zr2(e:Nd)(V:zc6 e<=1000):zn Z9 zfx [.agg (encN e)] (·=encL 5 encN (allN e)):=by
 refine fn_x zrW rfl ?_;unfold zlF;have W:=hBig;generalize J:allN e=R;have T:R.length<=1000:=by rw[<-J,zvW];exact V
 refine Gw3 @zy @zp @zG ?_;intros;refine zd (λs:List Nd×List Nd×List Nd=>([(3,.own 0 0 0 0 s.1.length),(4,.own 1 0 0 0 s.2.1.length)],[(0,.row 5 (s.1.map encN) 0),(1,.row 5 ((s.2.1++s.2.2).map encN) 0)])) 2 (λs=>s.1++zcj s.2.1.reverse=R/\s.1.length+za0 s.2.1<=1000) (λs=>za0 s.2.1) ([],[e],[]) ⟨by simp only[WB,List.nil_append,zcj,Wm];exact J,by simp only[za0,Wj];omega⟩ (Ent.tab [(0,1,0),(1,2,0)] [] rfl (Gin1_1 @zp) (Gin1_1 @zp)) ?_;rintro⟨out,rest,d⟩ ⟨b,n⟩ wf;simp only at b n;refine dcU ziC.eq_1 ?_;have B:=zil rest;by_cases O:0<rest.length
 .obtain⟨r,x,rfl⟩:∃r x,rest=r++[x]:=⟨rest.dropLast,rest.getLast (by intro h;rw[h]at O;simp at O),(List.dropLast_concat_getLast _).symm⟩;have o:(r++[x]).length=r.length+1:=by simp
  have q:(((r.length+1:Nat):Int)-1).toNat=r.length:=by omega
  have k:(Xa encN (r++[x]++d)).getD r.length []=encN x:=by rw[Wc,Wf,List.getD_eq_getElem?_getD,List.getElem?_append_right (by simp)];simp
  have A:(r++[x]++d).length=r.length+1+d.length:=by simp;omega
  rw[zed]at n;rw[WC,WB,Wl,zcj]at b;obtain⟨⟨m,g,lb⟩,c,l⟩:=x;simp only[za0,zc6,Nat.add_zero]at n;rw[allN,<-Wc]at b;generalize w:encN (Nd.mk ⟨m,g,lb⟩ c l)=E at k;have p:=w;rw[zaF]at p;simp only at p;subst p;rw[o]at B;refine Gw7 @dT q k A o @ui @uh ?_;intros;have C:((((r.length+1:Nat):Int))-1-0).toNat=r.length:=by omega
  simp only[C,Int.toNat_zero];simp only[<-w]at k⊢;have I:(encN (Nd.mk ⟨m,g,lb⟩ c l)).getD 4 .undef=encL 5 encN l:=by rw[w];rfl
  have X:Xa encN out++[encN (Nd.mk ⟨m,g,lb⟩ c l)]=Xa encN (out++[Nd.mk ⟨m,g,lb⟩ c l]):=by simp
  (refine zf (λK=>?_) (λK=>?_))<;>(try simp only[dcd]at K)
  .have t:l=[]:=Wn (by omega);subst t;rw[zcj]at b;refine Gw0 ?_;intros;exact⟨(out++[Nd.mk ⟨m,g,lb⟩ c []],r,Nd.mk ⟨m,g,lb⟩ c []::d),⟨b,by simp only[We,Wi,Wj];simp only[za0]at n;omega⟩,by simp only[zed,za0,zc6];omega,(Ent.tab [(0,0,1),(1,1,0)] [] rfl Qn Qn)⟩
  .have t:0<l.length:=by omega
   refine Gw2 @uf I ?_;intros;refine zd (λs:Nat×List Nd=>([(3,.own 0 0 0 0 (out++[Nd.mk ⟨m,g,lb⟩ c l]).length),(4,.own 1 0 0 0 (r++(l.drop (l.length-s.1)).reverse).length),(5,.ptr 2 0 0 0 0),(6,.int .i64 ((l.length:Int)-1-s.1))],[(0,.row 5 ((out++[Nd.mk ⟨m,g,lb⟩ c l]).map encN) 0),(1,.row 5 ((r++(l.drop (l.length-s.1)).reverse++s.2).map encN) 0),(2,.row 5 [encN (Nd.mk ⟨m,g,lb⟩ c l)] 0)])) 3 (λs=>s.1<=l.length) (λs=>l.length-s.1) (0,Nd.mk ⟨m,g,lb⟩ c l::d) (Wo _) (Ent.tab [(0,0,1),(1,1,0),(2,2,0)] [] rfl Qo Qo) ?_;rintro⟨j,P⟩ hj wf2;simp only at hj;refine dcU ziI.eq_1 ?_;by_cases U:j<l.length
   .have y:((l.length:Int)-1-(j:Int)).toNat=l.length-1-j:=by omega
    have u:l.length-1-j<l.length:=by omega
    have Q:((l.drop (l.length-j)).reverse).length=j:=by simp;omega
    have F:(l.drop (l.length-(j+1))).reverse=(l.drop (l.length-j)).reverse++[l[l.length-1-j]]:=by rw[show l.length-(j+1)=l.length-1-j by omega,List.drop_eq_getElem_cons u,Wz,show l.length-1-j+1=l.length-j by omega]
    generalize S:(l.drop (l.length-j)).reverse=D at *;have H:List.take (r++D).length (Xa encN (r++D++P))=Xa encN (r++D):=by rw[Wf (l₁:=r++D),List.take_left' (by simp)]
    have L:(r++D).length=r.length+j:=by rw[We,Q]
    have N:r.length<=1000:=by have:=zil r;omega
    have M:l.length<=1000:=by have:=zil l;omega
    refine Gw8 @dT @uf I y (gmp u) @zy @zG H ?_;intros;refine⟨⟨by simp,by omega⟩,(j+1,[]),by simp only;omega,by simp only;omega,?_⟩;simp only[F];exact(Ent.tab [(0,0,0),(1,1,1),(2,2,0)] [] rfl Qp Qp)
   .have z:j=l.length:=by omega
    subst z;simp only[Nat.sub_self,List.drop_zero];refine Gw1 @dF ?_;intros;have v:=zuB l;refine⟨(out++[Nd.mk ⟨m,g,lb⟩ c l],r++l.reverse,P),⟨?_,?_⟩,?_,(Ent.tab [(0,0,0),(1,1,0)] [] rfl Ql Ql)⟩
    .simp only[WC,List.reverse_reverse,zrd];rw[<-Wc];rw[<-b];simp
    .simp only[We,Wi,Wj,zed,v];omega
    .simp only[zed,v,za0,zc6];omega
 .rw[show rest=[]from Wn (by omega),WA,zcj,Wm]at b;subst b;refine Gw1 @dF ?_;intros;unfold ziK;refine Gw1 @zlR.eq_1 ?_;intros;exact⟨_,zvC (l:=out) trivial rfl (by omega),rfl⟩
end Go.Ab
namespace Go.Ab
open Go.RowKit Go.Proofs Go.Maps Go.Sort Go.Shelf
section
variable {H:AH}{nx:Nat}
theorem zxU(r:Nat):zS Z9 zac [.mp r 0] H nx (λv D x=>(v,D,x)=(.fn (.func zB) [.it nx],H.set nx 0 (.row 1 [[.mp r 0]] 0),nx+1)):=by
 intro w L ι C rel J
 obtain⟨u,s,I⟩:∃u,C=#[u]/\VR w (Lt L ι H) ι u (.mp r 0):=by
  rcases C with ⟨l⟩
  cases J with
  |cons o d=>cases d;exact⟨_,rfl,o⟩
 subst s
 cases I with
 |mp _ _ _ m q p=>
  have key:=callsIn_wide.1 (AnyZI.keys_in zyV Fence.wide 5 trivial rfl (some m.block) w);refine Calls.mono key λe P ⟨F,K⟩=>?_
  subst K;generalize zce.t 23=y at *;have g:¬maxLen+3<=maxLen:=by omega
  have z:Chg w ι H nx 0 0 ⟨w.heap.size,0,maxLen+3,1⟩ (w.alloc (.cells #[.map (some m.block)] y)) :=
   ⟨rfl,rfl,rfl,by simp,λb n _=>Below.heap_alloc w _ b n,λ_=>.inr (Wg _),λN A=>(by rw[rel.freshI]at A;cases A),λM O d=>(by rw[rel.freshI]at d;cases d)⟩
  have n:(w.alloc (.cells #[.map (some m.block)] y)).heap[w.heap.size]?=some (.cells #[.map (some m.block)] y):=World.alloc_heap_new w _;refine⟨_,ι.put nx 0 0 ⟨w.heap.size,0,maxLen+3,1⟩,H.set nx 0 (.row 1 [[.mp r 0]] 0),nx+1,_,F,z.step (rel.sok 1) rel (Wp _) (Wh _) ⟨rfl,λi c k=>?_,λh=>absurd h g,λ_=>⟨Nat.succ_pos 0,_,n,rfl,by simp[zui]⟩,λi c j a k B=>?_⟩,Wh _,?_,rfl⟩
  .match i with
   |0=>cases k;rfl
   |i+1=>cases k
  .match i with
   |0=>
    cases k
    match j with
    |0=>cases B;refine⟨.map (some m.block),?_,λh=>absurd h g,z.vr (rel.sok 1) rel (.mp _ _ _ _ q p)⟩;unfold zd0;rw[if_neg g];simp only[n,WD];rfl
    |j+1=>cases B
   |i+1=>cases k
  .refine .fn _ _ _ _ rfl λi v a o d=>?_
   match i with
   |0=>cases o;cases d;exact .it _ nx ⟨w.heap.size,0,maxLen+3,1⟩ (Inj.put_same _ _ _ _ _) (.inr rfl)
   |i+1=>cases d
end
def insI(x:Int):List Int->List Int
 |[]=>[x]
 |y::r=>bif decide (x<=y)then x::y::r else y::insI x r
def znD:List Int->List Int
 |[]=>[]
 |x::r=>insI x (znD r)
theorem zsu(x:Int):∀l:List Int,(insI x l).Perm (x::l)
 |[]=>.refl _
 |
  y::r=>by
  rw[insI];cases decide (x<=y)
  .exact((zsu x r).cons y).trans (.swap x y r)
  .exact .refl _
theorem zec:∀l:List Int,(znD l).Perm l
 |[]=>.refl _
 |x::r=>(zsu x _).trans ((zec r).cons x)
theorem zsA(x:Int):∀l:List Int,l.Pairwise (·<=·)->(insI x l).Pairwise (·<=·)
 |[],_=>by simp[insI]
 |
  y::r,h=>by
  rw[insI];rw[Wk]at h
  cases hd:decide (x<=y)with
  |true=>
   have b:x<=y:=of_decide_eq_true hd;refine Wk.2 ⟨λz c=>?_,Wk.2 h⟩;rcases List.mem_cons.1 c with rfl|c
   .exact b
   .exact Int.le_trans b (h.1 z c)
  |false=>
   have b:¬x<=y:=of_decide_eq_false hd;refine Wk.2 ⟨λz c=>?_,zsA x r h.2⟩;rcases List.mem_cons.1 ((zsu x r).mem_iff.1 c)with rfl|c
   .omega
   .exact h.1 z c
theorem zmU:∀l:List Int,(znD l).Pairwise (·<=·)
 |[]=>.nil
 |x::r=>zsA x _ (zmU r)
theorem zw4{l m:List Int}(h:l.Perm m)(d:l.Pairwise (·<=·))(e:m.Pairwise (·<=·)):l=m :=
 List.Perm.eq_of_pairwise (λ_ _ _ _ b c=>Int.le_antisymm b c) d e h
theorem zna{l m:List Int}(h:l.Perm m):l.mergeSort (λx y=>decide (x<=y))=znD m:=by refine zw4 ((List.mergeSort_perm _ _).trans (h.trans (zec m).symm)) ?_ (zmU m);have:=List.pairwise_mergeSort (le:=λx y:Int=>decide (x<=y)) (λa b c d e=>by simp only[decide_eq_true_eq]at *;exact Int.le_trans d e) (λa b=>by simp only[Bool.or_eq_true,decide_eq_true_eq];exact Int.le_total a b) l;exact this.imp λh=>of_decide_eq_true h
def entI:List (List AV)->Option (List (Int×Int))
 |[]=>some []
 |
  c::r=>match c with
  |
   [.int .i64 k,_,.int .i64 b]=>match entI r with
   |some l=>some ((k,b)::l)
   |none=>none
  |_=>none
theorem zyl:∀ {d:List (List AV)}{l:List (Int×Int)},entI d=some l->l.length=d.length/\∀(i:Nat)(p:Int×Int),l[i]?=some p->∃v,d[i]?=some [.int .i64 p.1,v,.int .i64 p.2]
 |[],l,h=>by cases h;exact⟨rfl,λi p h=>by simp at h⟩
 |
  c::r,l,h=>by
  unfold entI at h;split at h
  .rename_i k v b;split at h
   .rename_i n m;cases h;obtain⟨g,j⟩:=zyl m;refine⟨by simp[g],λi p e=>?_⟩
    match i with
    |0=>cases e;exact⟨v,rfl⟩
    |i+1=>exact j i p e
   .cases h
  .cases h
section
variable {w:World}{L:Nat->Prop}{ι:Inj}{H:AH}{nx:Nat}
theorem zFh(rel:RelH w L ι H nx){r:Nat}{l:Loc}{c:Int}{u S:AV}{F:List (List AV)}{g:List (Int×Int)}(P:ι r 0 0=some l)(k:l.cap=maxLen+1)(Q:H.get r 0=some (.row 3 ([.int .i64 c,u,S]::F) 0))(t:entI F=some g) :
  ∃d clock,w.heap[l.block]?=some (.map d clock)/\c=(clock:Int)/\d.toList.map (λe=>e.key)=g.map (λp=>encZ p.1)/\d.toList.map (λe=>(e.born:Int))=g.map (·.2)/\∀p∈g,InR .i64 p.1:=by
 obtain⟨T,o,ok⟩:=rel.row _ _ _ _ _ Q;rw[P]at o;cases o;obtain⟨d,clock,O,z,x⟩:=ok.map k;obtain⟨I,m⟩:=zyl t;have j:d.size=g.length:=by simp at z;omega
 have one:∀(i:Nat)(p:Int×Int),g[i]?=some p->∃e,d[i]?=some e/\e.key=encZ p.1/\(e.born:Int)=p.2/\InR .i64 p.1:=by
  intro i p b;obtain⟨v,J⟩:=m i p b;have n:i<d.size:=by rw[j];exact(WE.1 b).1
  obtain⟨v1,C,q⟩:=x (i+1) 0 _ (.int .i64 p.1) (by simpa using J) rfl;obtain⟨U,D,A⟩:=x (i+1) 2 _ (.int .i64 p.2) (by simpa using J) rfl;simp only[zdL,Wq n,Option.map_some,WF]at C D;refine⟨d[i],Wq n,?_,?_,?_⟩
  .rw[C];generalize p.1=y at q⊢;cases q;rfl
  .rw[<-D]at A;generalize p.2=y at A⊢;cases A;rfl
  .generalize p.1=y at q⊢;cases q;assumption
 refine⟨d,clock,O,?_,?_,?_,λp R=>?_⟩
 .obtain⟨v,B,K⟩:=x 0 0 _ (.int .i64 c) rfl rfl;simp only[zdL,WF]at B;rw[<-B]at K;cases K;rfl
 .apply WG;intro i;rw[Wd,Wd,Wr]
  cases b:g[i]? with
  |none=>rw[WH (by rw[j];exact WI.1 b)];rfl
  |some p=>obtain⟨e,s,M,_⟩:=one i p b;rw[s];simp[M]
 .apply WG;intro i;rw[Wd,Wd,Wr]
  cases b:g[i]? with
  |none=>rw[WH (by rw[j];exact WI.1 b)];rfl
  |some p=>obtain⟨e,s,_,N,_⟩:=one i p b;rw[s];simp[N]
 .obtain⟨i,b,rfl⟩:=List.mem_iff_getElem.1 R;obtain⟨_,_,_,_,h⟩:=one i _ (List.getElem?_eq_getElem b);exact h
theorem zKb(rel:RelH w L ι H nx){u:World}{e:TypeId}{v:Value}{n:Nat}{y:List Int}(K:y.length=n)(B:u.ownsRow w.heap.size e 1 v n (y.map encZ))(o:Below w.heap.size w u)(Q:∀z∈y,InR .i64 z):
  ∃x,Step w L ι H nx u x (H.set nx 0 (.row 1 (y.map λk=>[.int .i64 k]) 0)) (nx+1)/\VR u (Lt L x (H.set nx 0 (.row 1 (y.map λk=>[.int .i64 k]) 0))) x v (.own nx 0 0 0 n):=by
 obtain⟨hlen,⟨rfl,rfl⟩|⟨g,cap,cur,rfl,P,s,N,p,U,O⟩⟩:=B
 .obtain rfl:y=[]:=Wn K;have D:Chg w ι H nx 0 0 ⟨0,0,0,1⟩ u:=⟨o.os,o.tape,o.output,o.size,λb q _=>o.block b q,λh=>by simp at h,λR A=>(by rw[rel.freshI]at A;cases A),λM S p=>(by rw[rel.freshI]at p;cases p)⟩;refine⟨_,D.step (rel.sok 1) rel (Wp _) (Wh _) (.mk' rfl (Wg _) (Wo _) (λk d=>by simp at d) (λh=>by simp at h) (λk C d=>by simp at d) (λk C j a d _=>by simp at d)),?_⟩;exact .own _ nx 0 0 0 0 _ 0 _ (Inj.put_same _ _ _ _ _) (Wo _) (Wg _) (Wg _) (λh=>by omega)
 .have D:Chg w ι H nx 0 0 ⟨g,0,cap,1⟩ u:=⟨o.os,o.tape,o.output,o.size,λb q _=>o.block b q,λ_=>.inr P,λR A=>(by rw[rel.freshI]at A;cases A),λM S p=>(by rw[rel.freshI]at p;cases p)⟩;have m:∀k,k<cap->u.cell? ⟨g,k,none⟩=cur[k]? := λk d=>by simp only[World.cell?,s,WJ,WK,if_false]
  refine⟨_,D.step (rel.sok 1) rel (Wp _) (Wh _) (.mk' rfl (by simp;omega) p (λk d=>?_) (λ_=>?_) (λk C d=>?_) (λk C j a d J=>?_)),.own _ nx 0 0 0 n _ cap _ (Inj.put_same _ _ _ _ _) p N (by simp) (λ_=>by simp)⟩
  .simp only[Nat.zero_add,Ws]at d⊢;rw[m k d];refine⟨by rw[Wq (by omega)];rfl,by simp[World.frozen?,s]⟩
  .intro c T W V I;rw[s]at I;cases I;exact .inl rfl
  .rw[Wd]at d;obtain⟨z,_,rfl⟩:=WL.1 d;rfl
  .rw[Wd]at d;obtain⟨z,t,rfl⟩:=WL.1 d
   match j with
   |0=>
    cases J;have F:k<n:=by rw[<-K];exact(WE.1 t).1
    refine⟨encZ z,?_,rfl,.int _ _ _ (Q z (List.mem_of_getElem? t))⟩;simp only[Nat.zero_add,Ws,Nat.add_zero];rw[m k (by omega)];have:=congrArg (λ(l:List Value)=>l[k]?) O;simp only[Ws,List.getElem?_take_of_lt F,Wd,t,Option.map_some,Wr]at this;exact this
   |j+1=>cases J
theorem zru{α β:Type}{f:α->β}:∀{l:List α},(l.map f).Nodup->l.Nodup
 |[],_=>.nil
 |
  a::l,h=>by
  rw[List.map_cons,Wt]at h;exact Wt.2 ⟨λb=>h.1 (Wu b),zru h.2⟩
theorem zEI{k:IntKind}{n:Int}(h:InR k n):(Lit.int k n).wf=true:=by unfold Lit.wf;simpa [InR]using h
theorem ztT{r rb:Nat}{c:Int}{u u':AV}{es:List (List AV)}{ps:List (Int×Int)}(hb:H.get rb 0=some (.row 1 [[.mp r 0]] 0))(hm:H.get r 0=some (.row 3 ([.int .i64 c,u,u']::es) 0))(hes:entI es=some ps)(hk:(ps.map (·.1)).Nodup)(A:(ps.map (·.2)).Nodup)(hcl:∀p∈ps,p.2<c)(hlen:ps.length<=1000000) :
  zS Z9 zci [.fn (.func zB) [.it rb]] H nx (λv H' nx'=>(v,H',nx')=(.own nx 0 0 0 ps.length,H.set nx 0 (.row 1 ((znD (ps.map (·.1))).map λk=>[.int .i64 k]) 0),nx+1)):=by
 intro w L ι vs rel hv
 obtain⟨mv,hvs,hmv⟩:∃mv,vs=#[mv]/\VR w (Lt L ι H) ι mv (.fn (.func zB) [.it rb]):=by
  rcases vs with ⟨l⟩
  cases hv with
  |cons h1 h2=>cases h2;exact⟨_,rfl,h1⟩
 subst hvs
 cases hmv with
 |fn _ _ cs _ hs hcv=>
  obtain⟨pv,rfl⟩:∃pv,cs=#[pv]:=by
   rcases cs with ⟨l⟩
   match l,hs with
   |[pv],_=>exact⟨pv,rfl⟩
  have q:=hcv 0 pv (.it rb) rfl rfl
  cases q with
  |it _ _ lb hlb hcb=>
   obtain⟨lb',y,Z⟩:=rel.row _ _ _ _ _ hb;rw[hlb]at y;cases y;have U:¬lb.cap<=maxLen:=by omega
   obtain⟨_,o,ho,ho2,ho3⟩:=Z.spec U;obtain⟨mv,h4,_,h5⟩:=Z.hold 0 _ 0 (.mp r 0) rfl rfl;unfold zd0 at h4;rw[if_neg U,ho]at h4
   cases h5 with
   |mp _ _ _ lm hlm hcm=>
    obtain⟨cells,te,fz,rfl⟩:∃cells te fz,o=.cells cells te fz:=by cases o<;>first|exact⟨_,_,_,rfl⟩|(simp[zui]at ho3;omega)|(simp[vlen]at ho2;done)
    simp only[WD,zdL]at h4;have B:w.cell? ⟨lb.block,0,none⟩=some (.map (some lm.block)):=by simp only[World.cell?,ho,WJ,WK,if_false];exact h4
    obtain⟨g,clock,T,rfl,s,P,C⟩:=zFh rel hlm hcm hm hes;have J:g.size=ps.length:=by have:=congrArg List.length s;simpa using this
    have hmb':lm.block<w.heap.size:=(WM.1 T).1;have S:lb.block<w.heap.size:=(WM.1 ho).1;let R:Value->Option (DataW Unit×List MemPlace):=λ_=>some (.nil,[])
    have Q:Tryz.prog.underlying (zce.t 26)=some (.int .i64):=zyV.t26
    have d:∀x∈g.toList,Xd Z9 (zce.t 26) R x=some (.int .i64 (intOf ((keyOf Z9 (zce.t 26) x.key).getD (.bool false))),.nil)/\∃p∈ps,x.key=encZ p.1:=by
     intro x K;have:x.key∈ps.map λp=>encZ p.1:=by rw[<-s];exact Wu K
     obtain⟨p,q,h⟩:=Wv.1 this;refine⟨?_,p,q,h.symm⟩;have hko:=keyOf_int_mk Q (zEI (C p q));unfold Xd;rw[<-h,hko];rfl
    have F:Xh Z9 (zce.t 26) R g clock:=⟨by unfold maxLen;omega,⟨λx K=>?_,?_,?_⟩,λx K=>⟨_,(d x K).1⟩⟩
    rotate_left
    .have:(x.born:Int)∈ps.map (·.2):=by rw[<-P];exact Wu K
     obtain⟨p,q,h⟩:=Wv.1 this;have:=hcl p q;omega
    .rw[<-P]at A;rw[show(g.toList.map λe=>(e.born:Int))=(g.toList.map (·.born)).map (λn:Nat=>(n:Int)) by simp[Ww]]at A;exact zru A
    .rw[s];rw[show(ps.map λp=>encZ p.1)=(ps.map (·.1)).map encZ by simp[Ww]];exact List.Pairwise.map _ (λa b hab e=>hab (encZ_inj e)) hk
    have V:w.ownsMap Z9 (zce.t 26) R lm.block g.size (.map ((g.toList.map (Xc Z9 (zce.t 26) R)).foldr Xb [])):=⟨g,clock,T,F,Wg _,rfl⟩
    have D:(intKeys (Xe (H:=Unit) ((g.toList.map (Xc Z9 (zce.t 26) R)).foldr Xb []))).Perm (ps.map (·.1)):=by
     show((List.foldr Xb [] _).map λp=>intOf p.1).Perm _;refine((Xf _).map _).trans ?_;refine List.Perm.of_eq ?_;have:(g.toList.map λe=>e.key).map (λv=>match v with |.int _ n=>n|_=>0)=ps.map (·.1):=by rw[s];simp[Ww]
     rw[<-this,Xg,Xg];refine List.map_congr_left λx K=>?_
     obtain⟨h1,p,q,h⟩:=d x K;simp only[Function.comp];rw[Xi h1,h,keyOf_int_mk Q (zEI (C p q))];rfl
    have m:Maps.size (Xe (H:=Unit) ((g.toList.map (Xc Z9 (zce.t 26) R)).foldr Xb []))=ps.length:=by rw[Maps.size_eq,(Xf _).length_eq,Wx,Array.length_toList,J]
    have Y:=AnyZI.keys_gives (ρ:=zce) { zyV with } Fence.wide 2 trivial rfl (by omega) lb.block lm.block g.size _ w S B V
    have M:AnyZI.SortsIn Z9 zpP Fence.wide 4 :=
     ⟨λblk off cap ss W hH O J=>callsIn_wide.2 (AnyM.slices_Sort_int zwr blk off cap ss W hH O J),λp cap W=>callsIn_wide.2 (AnyM.slices_Sort_int_none zwr p cap W)⟩
    have cS:=AnyZI.sorted_in zEf Fence.wide 5 trivial trivial trivial trivial rfl (by omega) M zxP zB #[.pointer (some ⟨lb.block,0,none⟩)] trivial zwP _ _ (by rw[m];unfold maxLen;omega) (by rw[m];omega) _ Y;refine Calls.mono (callsIn_wide.1 cS) λe w' ⟨v,ss,he,I,j,_,N⟩=>?_
    have X:ss.Perm (ps.map (·.1)):=I.trans D;rw[zna X]at j;have hl:ss.length=ps.length:=by rw[X.length_eq,Wx]
    rw[hl]at j;have hsl:(znD (ps.map (·.1))).length=ps.length:=by rw[(zec _).length_eq,Wx]
    obtain⟨ι',st,hvr⟩:=zKb rel hsl j N (λz hz=>by
     obtain⟨p,q,rfl⟩:=Wv.1 ((zec _).mem_iff.1 hz)
     exact C p q)
    exact⟨v,ι',_,_,_,he,st,Wh _,hvr,rfl⟩
end
end Go.Ab
namespace Go.Ab
open Go.RowKit Go.Proofs
theorem zIJ:zM Z9 zaC (qRo [])=some ((zqo 5 72 [.int .i64 0,.int .i64 0,.int .i64 0,.nilsl,.nilsl]).strip,[.tmp 2],8):=by kernel_rfl
theorem zIc:zM Z9 zO (qRo [])=some ((zqo 5 56 [.int .i64 0,.int .u32 0,.int .i64 0,.int .i64 0,.nilsl]).strip,[.tmp 2],8):=by kernel_rfl
theorem zKR:zM Z9 z6 (qRo [])=some ((zqo 1 8 [.int .i64 0]).strip,[.tmp 2],8):=by kernel_rfl
def nodB:List Int->Bool
 |[]=>true
 |x::r=> !(r.any λy=>decide (y=x))&&nodB r
theorem zAi:∀{l:List Int},nodB l=true->l.Nodup
 |[],_=>.nil
 |
  x::r,h=>by
  simp only[nodB,WN,Bool.not_eq_true',List.any_eq_false,decide_eq_true_eq]at h;exact Wt.2 ⟨λb=>h.1 x b rfl,zAi h.2⟩
def zpy(b:Nat)(args:List AV)(H:AH)(nx:Nat):Option (AV×AH×Nat) :=
 match args with
 |[x]=>bif zDx b x H then some (.own nx 0 0 0 0,H.set nx 0 (.row b [] 0),nx+1)else none
 |_=>none
def zEH(args:List AV)(H:AH)(nx:Nat):Option (AV×AH×Nat) :=
 match args with
 |[.mp r 0]=>some (.fn (.func zB) [.it nx],H.set nx 0 (.row 1 [[.mp r 0]] 0),nx+1)
 |_=>none
def zym(args:List AV)(H:AH)(nx:Nat):Option (AV×AH×Nat) :=
 match args with
 |[.fn (
     .func g) [.it b]]=>bif Wa g zB then
   match H.get b 0 with
   |
    some (.row 1 [[.mp r 0]] 0)=>match H.get r 0 with
    |
     some (.row 3 ([.int .i64 c,_,_]::es) 0)=>match entI es with
     |
      some ps=>bif nodB (ps.map (·.1))&&(nodB (ps.map (·.2))&&((ps.all λp=>decide (p.2<c))&&Nat.ble ps.length 1000000))then
       some (.own nx 0 0 0 ps.length,H.set nx 0 (.row 1 ((znD (ps.map (·.1))).map λk=>[.int .i64 k]) 0),nx+1)
      else none
     |none=>none
    |_=>none
   |_=>none
  else none
 |_=>none
def zDS:zb2:=λf args H nx=>
 bif Wa f zac then zEH args H nx
 else bif Wa f zci then zym args H nx
 else bif Wa f zaC then zpy 5 args H nx
 else bif Wa f zO then zpy 5 args H nx
 else bif Wa f z6 then zpy 1 args H nx
 else none
theorem zoX{f d bytes:Nat}{z:List AV}(g:zM Z9 f (qRo [])=some ((zqo d bytes z).strip,[.tmp 2],8)){args:List AV}{H:AH}{nx:Nat}{r:AV×AH×Nat}(h:zpy d args H nx=some r):
  zS Z9 f args H nx (λv e c=>(v,e,c)=r):=by
 unfold zpy at h;split at h
 .rename_i x
  cases b:zDx d x H with
  |false=>rw[b]at h;cases h
  |true=>rw[b]at h;cases h;exact zwq g (by decide) b
 .cases h
theorem zfa:zDS.Sound Z9:=by
 intro f args H nx r h;unfold zDS at h
 cases d:Wa f zac with
 |true=>
  rw[d]at h;obtain rfl:=zm d;simp only[cond_true]at h;unfold zEH at h;split at h
  .cases h;exact zxU _
  .cases h
 |false=>
 rw[d]at h
 cases e:Wa f zci with
 |true=>
  rw[e]at h;obtain rfl:=zm e;simp only[cond_true,cond_false]at h;unfold zym at h;split at h
  .rename_i g v
   cases o:Wa g zB with
   |false=>rw[o]at h;cases h
   |true=>
    rw[o]at h;obtain rfl:=zm o;simp only[cond_true]at h;split at h
    .rename_i r p;split at h
     .rename_i c u w t q;split at h
      .rename_i s n;generalize b:(nodB (s.map (·.1))&&_)=cond at h
       cases cond with
       |false=>cases h
       |true=>cases h;simp only[WN,List.all_eq_true,decide_eq_true_eq]at b;exact ztT p q n (zAi b.1) (zAi b.2.1) b.2.2.1 (bleT b.2.2.2)
      .cases h
     .cases h
    .cases h
  .cases h
 |false=>
 rw[e]at h
 cases j:Wa f zaC with
 |true=>rw[j]at h;obtain rfl:=zm j;exact zoX zIJ h
 |false=>
 rw[j]at h
 cases k:Wa f zO with
 |true=>rw[k]at h;obtain rfl:=zm k;exact zoX zIc h
 |false=>
 rw[k]at h
 cases m:Wa f z6 with
 |true=>rw[m]at h;obtain rfl:=zm m;exact zoX zKR h
 |false=>rw[m]at h;cases h
end Go.Ab
namespace Go.Ab
def q36:FuncId->Nat->List Nat:=qTabK [(zrX,([],[0],[])),
 (zoV,([],[153131183434107391],[(8,[1]),(17,[12])])),
 (zdR,([],[639],[])),
 (zmp,([],[4127],[])),
 (zne,([],[39],[(3,[14])])),
 (zjU,([],[4175],[(6,[20])])),
 (znC,([],[20769187743700468513022123643584511],[])),
 (zny,([],[162259279247065020637433926156287],[])),
 (zpo,([],[591484760677544919167],[])),
 (zdC,([12,14,18,20,28,32,34,36,43,45,47,50,66,78],[255],[(9,[9,25])])),
 (zbf,([],[568332671],[])),
 (ze1,([],[2417999287491809886999039],[])),
 (zqj,([],[1050543],[])),
 (ztM,([],[4159],[])),
 (zbb,([],[131635],[])),
 (zgD,([],[137716893951],[(15,[1,2])])),
 (zer,([],[985163492243583],[])),
 (zk1,([],[1151],[])),
 (zkk,([],[2418003825158137522946175],[])),
 (zzs,([],[7],[])),
 (zAo,([],[18033092365263871],[])),
 (zqN,([],[34735],[])),
 (zyQ,([],[16543],[])),
 (zDi,([],[19],[])),
 (zqe,([],[34735],[])),
 (zxI,([],[131231],[])),
 (zyF,([],[4198431],[])),
 (zxH,([],[67244047],[])),
 (zuC,([],[67109951],[])),
 (zlB,([],[524863],[])),
 (ze6,([],[17180000503],[])),
 (zno,([],[2111],[])),
 (zdH,([],[33818751],[])),
 (zfC,([],[17716773063],[])),
 (zwp,([],[528415],[])),
 (zrN,([],[4127],[])),
 (ziQ,([],[2148532687],[])),
 (zCp,([],[5],[])),
 (zGH,([],[5],[])),
 (zAm,([],[5],[])),
 (zcm,([],[4636591142270639],[])),
 (zbd,([],[4533489117377705399028447],[])),
 (zP,([],[16785383],[(6,[9])])),
 (zfx,([],[69793220735],[])),
 (zaG,([],[8396471],[])),
 (zgT,([],[576478346637019383],[])),
 (zdU,([],[2417925426205621976301599],[])),
 (zj7,([],[4611721211406190543],[])),
 (zdW,([],[19],[])),
 (zoW,([],[7],[])),
 (zpi,([],[154742504910672625680777343],[])),
 (zpF,([],[19360524294128575204755323],[])),
 (zoQ,([],[65567],[])),
 (zoO,([],[15],[])),
 (zX,([],[19],[])),
 (zd3,([],[5],[])),
 (zax,([],[17596514574653],[])),
 (z6,([],[21],[])),
 (zaC,([],[21],[])),
 (zoM,([],[3615],[])),
 (zrM,([],[121332966943],[])),
 (zO,([],[21],[])),
 (za6,([],[7183],[])),
 (zr6,([],[137443270975],[(8,[10])])),
 (zds,([],[154742504946702430897184751],[])),
 (zgq,([],[1073743991],[])),
 (zfX,([],[32927],[])),
 (zku,([],[576497036187140159],[])),
 (zxo,([],[34426982519],[])),
 (zx9,([],[131343],[])),
 (zx8,([],[17179902207],[])),
 (zyW,([],[2199027580983],[])),
 (zyR,([],[4503634255579251],[])),
 (zzY,([],[543],[])),
 (zE7,([],[139586718751],[])),
 (zCk,([],[2199027458207],[])),
 (zi7,([],[2149581295],[])),
 (zh6,([],[1082523791],[])),
 (zjE,([],[140741817401855],[])),
 (zh5,([],[274877923571],[])),
 (zlo,([],[9345848867383],[])),
 (zeN,([],[17732730991],[])),
 (za8,([],[71],[])),
 (zaH,([],[7],[])),
 (zdT,([],[1082523791],[])),
 (zff,([],[7696599156671],[(9,[5])])),
 (zbE,([],[5444517870735015490971866452025900261023],[(18,[10]),(19,[6,8])])),
 (zaP,([],[2101171],[])),
 (zQ,([],[1180861854287308271583],[])),
 (zbi,([],[155],[])),
 (zZ,([],[5],[])),
 (zY,([],[8421351],[])),
 (znn,([],[7],[])),
 (zib,([],[132151],[])),
 (zlC,([],[93],[])),
 (zfM,([],[151],[])),
 (zaM,([],[31],[])),
 (ziV,([],[5],[])),
 (zeV,([],[66483],[])),
 (zgO,([],[143],[])),
 (zbw,([],[30767],[])),
 (zmn,([],[15],[])),
 (zcp,([],[66483],[])),
 (ziJ,([],[10384593871817177683247510831234831],[])),
 (ztV,([],[5],[])),
 (zfs,([],[504373101],[])),
 (zhl,([],[70368752566775],[])),
 (zkq,([],[8589936759],[])),
 (zd7,([],[34493964791],[])),
 (zfy,([],[162259277131445106534407549223927],[])),
 (zg5,([],[2099103],[])),
 (zeR,([],[5],[])),
 (zfj,([],[562949953425311],[])),
 (zbg,([],[1127],[])),
 (zxY,([],[4616189618057552319],[])),
 (zyN,([],[140879222276159],[])),
 (zc2,([],[7],[])),
 (zad,([],[19],[])),
 (zaS,([],[19],[])),
 (zf3,([],[11],[])),
 (zeZ,([],[2589],[])),
 (za1,([],[18032061663346911],[])),
 (ze4,([],[81208866883799183159208249057267],[])),
 (zcZ,([],[14367],[])),
 (zb9,([],[2295],[])),
 (zd9,([],[70800343807],[])),
 (zd6,([],[4310819007],[])),
 (zaw,([],[19],[])),
 (zgQ,([],[15],[])),
 (zjm,([],[2305844110935750607],[])),
 (zfv,([],[276315827],[])),
 (zaj,([],[21],[])),
 (zg6,([],[17179873267],[])),
 (zbJ,([],[51],[])),
 (zu,([],[47],[])),
 (zbV,([],[545391503],[])),
 (zhf,([],[4198583],[])),
 (zeF,([],[1298074215238169961055195466694927],[])),
 (zhn,([],[31],[])),
 (zaL,([],[8864946749727],[])),
 (zfI,([],[1073746119],[])),
 (zh8,([],[1074268103],[])),
 (zfF,([],[8804682991559],[])),
 (zgJ,([],[20829169751433159],[])),
 (zf4,([],[8391],[])),
 (zdN,([],[83087207854311395603287443752634311],[])),
 (zuo,([],[19],[])),
 (zfm,([],[19023213622105999119],[])),
 (zhF,([],[22458641409078797123448399039441150152463],[])),
 (zqP,([],[277],[])),
 (zqZ,([],[16661],[])),
 (zgA,([],[65619],[])),
 (zfU,([],[23],[])),
 (zdu,([],[604465220153940708952047],[])),
 (zai,([],[66483],[])),
 (zam,([],[66483],[])),
 (zfK,([],[5],[])),
 (ziW,([],[5],[])),
 (zbH,([],[3946589],[])),
 (za2,([],[262735],[])),
 (zea,([],[138563092727],[])),
 (zcc,([],[17023135],[])),
 (zbG,([],[525],[])),
 (zcD,([],[17597437313095],[])),
 (zay,([],[3615],[])),
 (zaN,([],[66483],[])),
 (zci,([],[13],[])),
 (zac,([],[7],[])),
 (zR,([],[19],[])),
 (zgS,([],[15],[])),
 (zao,([],[7],[])),
 (zif,([],[4503668346913551],[])),
 (zlh,([],[5],[])),
 (zmg,([],[5],[])),
 (zfk,([],[71],[])),
 (zjg,([],[1055],[])),
 (zsY,([],[5],[])),
 (zfO,([],[1162750726242719],[])),
 (zaZ,([],[537399539],[])),
 (zch,([],[11],[])),
 (znF,([],[5],[])),
 (zB,([],[8363],[])),
 (zak,([],[66483],[])),
 (zja,([],[262927],[])),
 (zjh,([],[23],[]))]
def stmV(op nx b:Int)(e:AV):List AV:=[.int .i64 op,.int .i64 0,.int .i64 0,.int .i64 nx,.int .i64 b,.int .u32 0,e,.nilsl]
def znE:AV:=.agg [.int .u32 0,slL 2 [[.int .u32 0,slL 8 [stmV 6 1 0 .nilsl]],[.int .u32 0,slL 8 [stmV 7 2 3 (slL 5 [[.int .i64 2,.int .u32 0,.int .i64 1,.int .i64 0,.nilsl]])]],[.int .u32 0,slL 8 [stmV 6 1 0 .nilsl]],[.int .u32 0,slL 8 [stmV 10 0 0 .nilsl]]]]
end Go.Ab
