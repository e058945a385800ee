/-
  Part 12 of the proof: how the calls of this program run, over values instead of memory, and what each function computes.
-/
import Derived.Shelf.SortM.Plain
import Derived.Test.YtihlaappclhhaaaGreatJk
set_option maxRecDepth 100000
set_option linter.unusedVariables false
set_option linter.unusedSimpArgs false
set_option linter.unnecessarySimpa false
set_option linter.unusedSectionVars false
open Go.Ab.Ent renaming tabB->Xa
open Go.Ab.AV renaming int->Xb,undef->Xm
open Nat renaming reduceBEq->Xc,reduceAdd->Xd,reduceLeDiff->Xe,beq->Xh,ble->Xi,min_eq_left->Xj,mul_one->Xk,add_zero->Xl,reduceSub->Xo,reduceLT->Xp
open BitVec renaming ofInt->Xf
open List.Nodup renaming count->Xg,length_le_of_subset->Xn
open Go.Proofs.Tryz renaming prog->Z9
open Nat renaming le_refl→Wa,lt_or_ge→Wp,zero_le→WB,zero_add→WD,div_mul_le_self→WI,le_of_ble_eq_true→WJ,eq_zero_or_pos→WL
open Or renaming inl→Wc,inr→We
open List renaming length_map→Wd,getElem?_eq_getElem→Wf,getD_eq_getElem?_getD→Wg,length_cons→Wh,map_append→Wi,length_take→Wj,append_nil→Wk,replicate→Wl,length_append→Wm,mem_singleton→Wn,mem_cons→Wo,take_length→Wq,pairwise_cons→Wr,map_cons→Ws,getElem?_map→Wt,drop_eq_getElem_cons→Wu,length_singleton→Wv,take_of_length_le→Ww,nodup_cons→Wy,map_set→Wz,take_add_one→WE,map_nil→WF,nodup_append→WG,mem_append→WH,filter_append→WO,getElem_append_left→WP,take_append_drop→WQ,drop_of_length_le→WR,map_replicate→WS,take_append_of_le_length→WU,ext_getElem→WV,length_range→WW,getElem_map→WX,getElem_range→WY,length_drop→WZ
open Int renaming le_trans→Wx,tdiv_eq_ediv_of_nonneg→WA,natCast_nonneg→WK
open Option.some renaming injEq→WC
open Array renaming getElem?_modify→WM
open Option renaming map_eq_some_iff→WN
namespace Go.Ab
open Go.RowKit Go.Proofs Go.Maps Go.Sort Go.Shelf
def insI(x:Int):List Int->List Int
 |[]=>[x]
 |y::r=>bif decide (x<=y)then x::y::r else y::insI x r
def zfF:List Int->List Int
 |[]=>[]
 |x::r=>insI x (zfF r)
theorem zvo(x:Int):∀l:List Int,(insI x l).Perm (x::l)
 |[]=>.refl _
 |
  y::r=>by
  rw[insI];cases decide (x<=y)
  .exact((zvo x r).cons y).trans (.swap x y r)
  .exact .refl _
theorem zdy:∀l:List Int,(zfF l).Perm l
 |[]=>.refl _
 |x::r=>(zvo x _).trans ((zdy r).cons x)
theorem zvv(x:Int):∀l:List Int,l.Pairwise (·<=·)->(insI x l).Pairwise (·<=·)
 |[],_=>by simp[insI]
 |
  y::r,h=>by
  rw[insI];rw[Wr]at h
  cases hd:decide (x<=y)with
  |true=>
   have b:x<=y:=of_decide_eq_true hd;refine Wr.2 ⟨λz c=>?_,Wr.2 h⟩;rcases Wo.1 c with rfl|c
   .exact b
   .exact Wx b (h.1 z c)
  |false=>
   have b:¬x<=y:=of_decide_eq_false hd;refine Wr.2 ⟨λz c=>?_,zvv x r h.2⟩;rcases Wo.1 ((zvo x r).mem_iff.1 c)with rfl|c
   .omega
   .exact h.1 z c
theorem zg1:∀l:List Int,(zfF l).Pairwise (·<=·)
 |[]=>.nil
 |x::r=>zvv x _ (zg1 r)
theorem zAd{l m:List Int}(h:l.Perm m)(d:l.Pairwise (·<=·))(e:m.Pairwise (·<=·)):l=m :=
 List.Perm.eq_of_pairwise (λ_ _ _ _ b c=>Int.le_antisymm b c) d e h
theorem zpJ{l m:List Int}(h:l.Perm m):l.mergeSort (λx y=>decide (x<=y))=zfF m:=by refine zAd ((List.mergeSort_perm _ _).trans (h.trans (zdy m).symm)) ?_ (zg1 m);have:=List.pairwise_mergeSort (le:=λx y:Int=>decide (x<=y)) (λa b c d e=>by simp only[decide_eq_true_eq]at *;exact Wx d e) (λa b=>by simp only[Bool.or_eq_true,decide_eq_true_eq];exact Int.le_total a b) l;exact this.imp λh=>of_decide_eq_true h
def entI:List (List AV)->Option (List (Int×Int))
 |[]=>some []
 |
  c::r=>match c with
  |
   [.int .i64 k,_,.int .i64 b]=>match entI r with
   |some l=>some ((k,b)::l)
   |none=>none
  |_=>none
section
variable {w:World}{L:Nat->Prop}{ι:Inj}{H:AH}{nx:Nat}
theorem zpf{α β:Type}{f:α->β}:∀{l:List α},(l.map f).Nodup->l.Nodup
 |[],_=>.nil
 |
  a::l,h=>by
  rw[Ws,Wy]at h;exact Wy.2 ⟨λb=>h.1 (List.mem_map_of_mem b),zpf h.2⟩
end
end Go.Ab
namespace Go.Ab
open Go.RowKit Go.Proofs
def cW(n:Int):List AV:=[.int .u32 n]
def rW(d:Array Int):List (List AV):=d.toList.map cW
theorem zjm{d}:(rW d).length=d.size:=by simp[rW]
theorem zbz{d}{i}(h:i<d.size):(rW d).getD i []=[.int .u32 d[i]!]:=by unfold rW;rw[Wg,Wt,Array.getElem?_toList,Array.getElem?_eq_getElem h,getElem!_pos d i h];rfl
theorem zLx{d}{i}{x}:(rW d).set i [.int .u32 x]=rW (d.setIfInBounds i x):=by unfold rW;rw[Array.toList_setIfInBounds,Wz];rfl
theorem zik{d}{i j}:((rW d).set i [.int .u32 d[j]!]).set j [.int .u32 d[i]!]=rW (Sort.swp d i j):=by rw[zLx,zLx];rfl
theorem zcH{d:Array Int}{i j:Nat}:(Sort.swp d i j).size=d.size:=by simp[Sort.swp]
theorem ze4{ρ}{d}{g}:AObj.ren ρ (.row 1 (rW d) g)=.row 1 (rW d) g:=by simp only[AObj.ren,rW];rw[zgm (zK λ_=>rfl)]
end Go.Ab
namespace Go.Ab
open Go.RowKit Go.Proofs Go.Sort
theorem zJf(x):zw Z9 zeY [.int .u32 x] (·=.bool false):=by
 refine fn_x zrh rfl ?_;refine dcU zks.eq_1 ?_
 (repeat first|simp(disch:=try exact dis1) only[evD,Xc,Xd,Xe,zkX,ne_eq,not_true_eq_false,decide_false]|with_reducible first|intro _|refine aJ ?_)
 exact bzO
theorem zf4(x y):zw Z9 zW [.int .u32 x,.int .u32 y] (·=.bool (Sort.ltInt x y)):=by refine fn_x zsQ rfl ?_;refine dcU zl5.eq_1 ?_;refine Gw0 ?_;intros;refine zg (ze (zJf x) rfl) ?_;refine Gw1 @zlU.eq_1 ?_;intros;exact bzO
theorem Qd{p q:Prop}(k:q)(h:Im q p:=by(repeat first|simp(disch:=try exact dis1) only[evD,Nat.reduceBEq,Nat.reduceAdd,Nat.reduceLeDiff,dT,dF]|((with_reducible apply Im.i);intro _)|((with_reducible apply Im.a);omega));exact Im.r):p:=h k
theorem zu3(d)(g a b:Nat)(y:a<=b)(I:b<=d.size)(J:d.size<=1000000):
  z7 Z9 zbc [.own 0 0 g 0 d.size,.int .i64 a,.int .i64 b] [(0,.row 1 (rW d) g)] 1
   (λv H D=>v=.tup []/\H=[(0,.row 1 (rW (insertionSort ltInt d a b)) g)]/\D=1):=by
 refine zS (fn_x zf8 rfl ?_);refine dcU zcE.eq_1 ?_;have F:=hBig;refine Gw0 ?_;intros
 refine zc (λx:Nat×Array Int=>([(0,.own 0 0 g 0 d.size),(1,.int .i64 a),(2,.int .i64 b),(6,.int .i64 x.1)],[(0,.row 1 (rW x.2) g)])) 1
  (λx=>a+1<=x.1/\x.1<=b+1/\x.2.size=d.size/\insOuter ltInt a b x.1 x.2=insertionSort ltInt d a b) (λx=>b+1-x.1) (a+1,d) ⟨Wa _,by omega,rfl,rfl⟩ (Xa [(0,0,0)] [] rfl rfl rfl Qn Qn) ?_
 rintro⟨i,e⟩ ⟨u,w,p,h⟩ wf;simp only at u w p h;refine dcU zb5.eq_1 ?_;by_cases s:i<b
 .rw[insOuter_go ltInt a b i e s]at h;refine Gw1 @dT ?_;intros
  refine zc (λx:Nat×Array Int=>([(0,.own 0 0 g 0 d.size),(1,.int .i64 a),(2,.int .i64 b),(6,.int .i64 i),(7,.int .i64 x.1)],[(0,.row 1 (rW x.2) g)])) 1
   (λx=>a<=x.1/\x.1<=i/\x.2.size=d.size/\insInner ltInt a x.1 x.2=insInner ltInt a i e) (λx=>x.1) (i,e) ⟨by omega,Wa _,p,rfl⟩ (Xa [(0,0,0)] [] rfl rfl rfl Qn Qn) ?_
  rintro⟨j,f⟩ ⟨B,C,k,c⟩ wf2;simp only at B C k c;refine dcU zb8.eq_1 ?_;by_cases A:a<j
  .have m:((j:Int)-1).toNat=j-1:=by omega
   have n:=zbz (d:=f) (i:=j) (by omega);have o:=zbz (d:=f) (i:=j-1) (by omega);have t:=zjm (d:=f);refine Gw7 @dT @dF t k m n o ?_;intros;refine zF (ze (zf4 _ _) rfl) ?_
   cases q:ltInt f[j]! f[j-1]! with
   |true=>
    rw[insInner_go ltInt a j f A q]at c;refine Gw8 @dT @dF t k m n o @m9S ?_;intros;all_goals rw[zik]
    all_goals exact⟨(j-1,swp f j (j-1)),⟨by omega,by omega,by rw[zcH];exact k,c⟩,by omega,(Xa [(0,0,0)] [] rfl rfl rfl Qn Qn)⟩
   |false=>rw[insInner_stop ltInt a j f (We q)]at c;refine Qd ?_;intros;refine dcU zaQ.eq_1 ?_;refine Qd ?_;intros;exact⟨(i+1,f),⟨by omega,by omega,k,by rw[c];exact h⟩,by omega,(Xa [(0,0,0)] [] rfl rfl rfl Qn Qn)⟩
  .rw[insInner_stop ltInt a j f (Wc (by omega))]at c;refine Qd ?_;intros;refine dcU zaQ.eq_1 ?_;refine Qd ?_;intros;exact⟨(i+1,f),⟨by omega,by omega,k,by rw[c];exact h⟩,by omega,(Xa [(0,0,0)] [] rfl rfl rfl Qn Qn)⟩
 .rw[insOuter_stop ltInt a b i e s]at h;refine Gw2 @dF @zcw.eq_1 ?_;intros;refine⟨.tup [],[(0,.row 1 (rW (insertionSort ltInt d a b)) g)],1,?_,rfl,rfl,rfl⟩;rw[<-h];exact(Xa [(0,0,0)] [] rfl rfl rfl Qn Qn)
theorem zwK(d)(g w c F:Nat)(D:w<=c)(L:F+c<=d.size)(M:d.size<=1000000):
  z7 Z9 zai [.own 0 0 g 0 d.size,.int .i64 w,.int .i64 c,.int .i64 F] [(0,.row 1 (rW d) g)] 1
   (λv H I=>v=.tup []/\H=[(0,.row 1 (rW (siftDown ltInt c F w d)) g)]/\I=1):=by
 refine zS (fn_x zid rfl ?_);refine dcU zdQ.eq_1 ?_;have K:=hBig;refine Gw0 ?_;intros
 refine zc (λx:Nat×Array Int=>([(0,.own 0 0 g 0 d.size),(2,.int .i64 c),(3,.int .i64 F),(8,.int .i64 x.1)],[(0,.row 1 (rW x.2) g)])) 1
  (λx=>x.1<=c/\x.2.size=d.size/\siftDown ltInt c F x.1 x.2=siftDown ltInt c F w d) (λx=>c-x.1) (w,d) ⟨D,rfl,rfl⟩ (Xa [(0,0,0)] [] rfl rfl rfl Qn Qn) ?_
 rintro⟨r,e⟩ ⟨J,j,m⟩ wf;simp only at J j m;have u:=zjm (d:=e);have k:siftDown ltInt c F r e=e->zLB 1 (λv H I=>v=.tup []/\H=[(0,.row 1 (rW (siftDown ltInt c F w d)) g)]/\I=1) (.tup []) [(0,.row 1 (rW e) g)] 1:=λh=>by refine⟨.tup [],[(0,.row 1 (rW (siftDown ltInt c F w d)) g)],1,?_,rfl,rfl,rfl⟩;rw[<-m,h];exact(Xa [(0,0,0)] [] rfl rfl rfl Qn Qn)
 refine dcU zdc.eq_1 ?_;by_cases A:2*r+1<c
 .have s:=zbz (d:=e) (i:=F+r) (by omega);have t:=zbz (d:=e) (i:=F+(2*r+1)) (by omega);have n:((F:Int)+(r:Int)).toNat=F+r:=by omega
  have o:((F:Int)+(2*(r:Int)+1)).toNat=F+(2*r+1):=by omega
  have p:((F:Int)+(2*(r:Int)+1+1)).toNat=F+(2*r+2):=by omega
  have q:((F:Int)+(2*(r:Int)+1)+1).toNat=F+(2*r+2):=by omega
  by_cases B:2*r+2<c
  .have y:=zbz (d:=e) (i:=F+(2*r+2)) (by omega);refine Gw11 @dT @dF u j n o p q s t y ?_;intros;refine zF (ze (zf4 _ _) rfl) ?_
   cases C:ltInt e[F+(2*r+1)]! e[F+(2*r+2)]! with
   |true=>
    refine Gw11 @dT @dF u j n o p q s t y ?_;intros;refine zF (ze (zf4 _ _) rfl) ?_
    cases b:ltInt e[F+r]! e[F+(2*r+2)]! with
    |true=>
     rw[sd_right_go ltInt e B C b]at m;refine Gw12 @dT @dF u j n o p q s t y @m9S ?_;intros;all_goals rw[zik]
     all_goals exact⟨(2*r+2,swp e (F+r) (F+(2*r+2))),⟨by omega,by rw[zcH];exact j,m⟩,by omega,(Xa [(0,0,0)] [] rfl rfl rfl Qn Qn)⟩
    |false=>refine Gw3 @dT @dF @zaw.eq_1 ?_;intros;exact k (sd_right_stop ltInt e B C b)
   |false=>
    refine Gw11 @dT @dF u j n o p q s t y ?_;intros;refine zF (ze (zf4 _ _) rfl) ?_
    cases b:ltInt e[F+r]! e[F+(2*r+1)]! with
    |true=>
     rw[sd_left_go ltInt e A (λ_=>C) b]at m;refine Gw12 @dT @dF u j n o p q s t y @m9S ?_;intros;all_goals rw[zik]
     all_goals exact⟨(2*r+1,swp e (F+r) (F+(2*r+1))),⟨by omega,by rw[zcH];exact j,m⟩,by omega,(Xa [(0,0,0)] [] rfl rfl rfl Qn Qn)⟩
    |false=>refine Gw3 @dT @dF @zaw.eq_1 ?_;intros;exact k (sd_left_stop ltInt e A (λ_=>C) b)
  ·(refine Gw10 @dT @dF u j n o p q s t ?_;intros);refine zF (ze (zf4 _ _) rfl) ?_
   cases b:ltInt e[F+r]! e[F+(2*r+1)]! with
   |true=>
    rw[sd_left_go ltInt e A (λh=>absurd h B) b]at m;refine Gw11 @dT @dF u j n o p q s t @m9S ?_;intros;all_goals rw[zik]
    all_goals exact⟨(2*r+1,swp e (F+r) (F+(2*r+1))),⟨by omega,by rw[zcH];exact j,m⟩,by omega,(Xa [(0,0,0)] [] rfl rfl rfl Qn Qn)⟩
   |false=>refine Gw3 @dT @dF @zaw.eq_1 ?_;intros;exact k (sd_left_stop ltInt e A (λh=>absurd h B) b)
 ·(refine Gw3 @dT @dF @zaw.eq_1 ?_;intros);exact k (sd_end ltInt e (by omega))
theorem zDw(d)(g a b:Nat)(s:a<=b)(J:b<=d.size)(K:d.size<=1000000):
  z7 Z9 zbY [.own 0 0 g 0 d.size,.int .i64 a,.int .i64 b] [(0,.row 1 (rW d) g)] 1
   (λv H j=>v=.tup []/\H=[(0,.row 1 (rW (heapSort ltInt d a b)) g)]/\j=1):=by
 refine zS (fn_x zic rfl ?_);refine dcU zdN.eq_1 ?_;have I:=hBig;have c:(b:Int)-(a:Int)=((b-a:Nat):Int):=by omega
 have h:=half_start s;rw[c]at h;refine Gw2 c h ?_;intros
 refine zc (λx:Nat×Array Int=>([(0,.own 0 0 g 0 d.size),(6,.int .i64 a),(7,.int .i64 0),(8,.int .i64 (b-a:Nat)),(9,.int .i64 ((x.1:Int)-1))],[(0,.row 1 (rW x.2) g)])) 1
  (λx=>x.1<=(b-a-1) / 2+1/\x.2.size=d.size/\heapBuild ltInt (b-a) a x.1 x.2=heapBuild ltInt (b-a) a ((b-a-1) / 2+1) d) (λx=>x.1) ((b-a-1) / 2+1,d) ⟨Wa _,rfl,rfl⟩ (Xa [(0,0,0)] [] rfl rfl rfl Qn Qn) ?_
 rintro⟨k,e⟩ ⟨C,o,q⟩ wf;simp only at C o q;refine dcU zdd.eq_1 ?_;have t:=zjm (d:=e)
 cases k with
 |succ k=>
  have n:=size_siftDown ltInt (b-a) a (b-a) k e (by omega)
  have m:z7 Z9 zai [.own 0 0 g 0 e.size,.int .i64 k,.int .i64 (b-a:Nat),.int .i64 a] [(0,.row 1 (rW e) g)] 1
    (λv H j=>v=.tup []/\H=[(0,.row 1 (rW (siftDown ltInt (b-a) a k e)) g)]/\j=1):=zwK e g k (b-a) a (by omega) (by omega) (by omega)
  rw[o]at m;have p:(((k+1:Nat):Int)-1)=(k:Int):=by omega
  refine Gw5 @dT @dF p t o ?_;intros;refine zx [(0,0,0)] 1 _ (m) rfl rfl fin9 fin9 ?_;rintro v H j ⟨rfl,rfl,rfl⟩;refine Gw3 @dT @dF @ze4 ?_;intros;exact⟨(k,siftDown ltInt (b-a) a k e),⟨by simp only;omega,by simp only;omega,by simp only;rw[<-q];rfl⟩,by simp only;omega,(Xa [(0,0,0)] [] rfl rfl rfl Qn Qn)⟩
 |zero=>
  refine Qd ?_;intros;refine dcU zc2.eq_1 ?_;refine Qd ?_;intros
  refine zc (λx:Nat×Array Int=>([(0,.own 0 0 g 0 d.size),(6,.int .i64 a),(7,.int .i64 0),(10,.int .i64 ((x.1:Int)-1))],[(0,.row 1 (rW x.2) g)])) 1
   (λx=>x.1<=b-a/\x.2.size=d.size/\heapPop ltInt a x.1 x.2=heapSort ltInt d a b) (λx=>x.1) (b-a,e) ⟨Wa _,o,by simp only;rw[heapSort,<-q];rfl⟩ (Xa [(0,0,0)] [] rfl rfl rfl Qn Qn) ?_
  rintro⟨k,f⟩ ⟨F,u,w⟩ wf2;simp only at F u w;refine dcU zde.eq_1 ?_;have t:=zjm (d:=f)
  cases k with
  |succ k=>
   have p:(((k+1:Nat):Int)-1)=(k:Int):=by omega
   have y:((a:Int)+(k:Int)).toNat=a+k:=by omega
   have A:=zbz (d:=f) (i:=a) (by omega);have B:=zbz (d:=f) (i:=a+k) (by omega)
   have m:z7 Z9 zai [.own 0 0 g 0 (swp f a (a+k)).size,.int .i64 (0:Nat),.int .i64 k,.int .i64 a] [(0,.row 1 (rW (swp f a (a+k))) g)] 1
     (λv H j=>v=.tup []/\H=[(0,.row 1 (rW (siftDown ltInt k a 0 (swp f a (a+k)))) g)]/\j=1):=zwK (swp f a (a+k)) g 0 k a (by omega) (by rw[zcH];omega) (by rw[zcH];omega)
   have n:=size_siftDown ltInt k a k 0 (swp f a (a+k)) (by omega);rw[zcH]at n;rw[zcH,u]at m;have D:((0:Nat):Int)=0:=rfl;rw[D]at m;refine Gw9 @dT @dF p t u y A B @m9S ?_;intros;all_goals rw[zik]
   all_goals refine zx [(0,0,0)] 1 _ (m) rfl rfl fin9 fin9 ?_
   all_goals rintro v H j ⟨rfl,rfl,rfl⟩
   all_goals(refine Gw3 @dT @dF @ze4 ?_;intros;try with_reducible exact trivial)
   all_goals exact⟨(k,siftDown ltInt k a 0 (swp f a (a+k))),⟨by simp only;omega,by simp only;omega,by simp only;rw[<-w];rfl⟩,by simp only;omega,(Xa [(0,0,0)] [] rfl rfl rfl Qn Qn)⟩
  |zero=>refine Gw3 @dT @dF @zdM.eq_1 ?_;intros;refine⟨.tup [],[(0,.row 1 (rW (heapSort ltInt d a b)) g)],1,?_,rfl,rfl,rfl⟩;rw[<-w];exact(Xa [(0,0,0)] [] rfl rfl rfl Qn Qn)
theorem zvX(d)(g a b:Nat)(s:a<b)(y:b<=d.size)(A:d.size<=1000000):
  z7 Z9 zbo [.own 0 0 g 0 d.size,.int .i64 a,.int .i64 b] [(0,.row 1 (rW d) g)] 1
   (λv H u=>v=.tup []/\H=[(0,.row 1 (rW (reverseRange d a b)) g)]/\u=1):=by
 refine zS (fn_x zgj rfl ?_);refine dcU zcU.eq_1 ?_;have w:=hBig;refine Gw0 ?_;intros;have m:(b:Int)-1=((b-1:Nat):Int):=by omega
 rw[m]
 refine zc (λx:Nat×Nat×Array Int=>([(0,.own 0 0 g 0 d.size),(6,.int .i64 x.1),(7,.int .i64 x.2.1)],[(0,.row 1 (rW x.2.2) g)])) 1
  (λx=>x.1<=x.2.1+1/\x.2.1<b/\x.2.2.size=d.size/\reverseLoop x.1 x.2.1 x.2.2=reverseRange d a b) (λx=>x.2.1) (a,b-1,d) ⟨by simp only;omega,by simp only;omega,rfl,rfl⟩ (Xa [(0,0,0)] [] rfl rfl rfl Qn Qn) ?_
 rintro⟨i,j,e⟩ ⟨p,q,k,c⟩ wf;simp only at p q k c;refine dcU zcn.eq_1 ?_;have t:=zjm (d:=e);by_cases h:i<j
 .rw[reverseLoop,if_pos h]at c;have n:=zbz (d:=e) (i:=i) (by omega);have o:=zbz (d:=e) (i:=j) (by omega);refine Gw7 @dT @dF t k n o @m9S ?_;intros;all_goals rw[zik]
  all_goals exact⟨(i+1,j-1,swp e i j),⟨by simp only;omega,by simp only;omega,by simp only;rw[zcH];exact k,c⟩,by simp only;omega,(Xa [(0,0,0)] [] rfl rfl rfl Qn Qn)⟩
 .rw[reverseLoop,if_neg h]at c;refine Gw3 @dT @dF @zcN.eq_1 ?_;intros;refine⟨.tup [],[(0,.row 1 (rW (reverseRange d a b)) g)],1,?_,rfl,rfl,rfl⟩;rw[<-c];exact(Xa [(0,0,0)] [] rfl rfl rfl Qn Qn)
theorem ztm(d)(g a b m:Nat)(N:a<=m)(P:m<b)(V:b<=d.size)(W:d.size<=1000000):
  z7 Z9 za1 [.own 0 0 g 0 d.size,.int .i64 a,.int .i64 b,.int .i64 m] [(0,.row 1 (rW d) g)] 1
   (λv H R=>v=.int .i64 (partitionEqual ltInt d a b m).1/\H=[(0,.row 1 (rW (partitionEqual ltInt d a b m).2) g)]/\R=1):=by
 refine zS (fn_x zfz rfl ?_);refine dcU zcr.eq_1 ?_;have U:=hBig;have q:=zjm (d:=d);have D:=zbz (d:=d) (i:=a) (by omega);have F:=zbz (d:=d) (i:=m) (by omega);refine Gw6 @dT @dF q D F @m9S ?_;intros;all_goals rw[zik]
 have K:(b:Int)-1=((b-1:Nat):Int):=by omega
 rw[K]
 refine zc (λx:Nat×Nat×Array Int=>([(0,.own 0 0 g 0 d.size),(1,.int .i64 a),(9,.int .i64 x.1),(10,.int .i64 x.2.1)],[(0,.row 1 (rW x.2.2) g)])) 1
  (λx=>a<x.1/\x.1<=x.2.1+1/\x.2.1<b/\x.2.2.size=d.size/\partEqLoop ltInt a x.1 x.2.1 x.2.2=partitionEqual ltInt d a b m) (λx=>x.2.1+1-x.1) (a+1,b-1,swp d a m)
  ⟨by simp only;omega,by simp only;omega,by simp only;omega,zcH,rfl⟩ (Xa [(0,0,0)] [] rfl rfl rfl Qn Qn) ?_
 rintro⟨i,j,e⟩ ⟨L,J,M,s,B⟩ wf;simp only at L J M s B;clear D F q;have q:=zjm (d:=e);have I:=zbz (d:=e) (i:=a) (by omega);unfold zbO;refine Gw0 ?_;intros
 refine zc (λx:Nat=>([(0,.own 0 0 g 0 d.size),(1,.int .i64 a),(9,.int .i64 x),(10,.int .i64 j)],[(0,.row 1 (rW e) g)])) 1
  (λx=>i<=x/\x<=j+1/\scanUp (λx=> !ltInt e[a]! x) e j x=scanUp (λx=> !ltInt e[a]! x) e j i) (λx=>j+1-x) i ⟨Wa _,J,rfl⟩ (Xa [(0,0,0)] [] rfl rfl rfl Qn Qn) ?_
 rintro c ⟨X,Q,u⟩ S;refine dcU zbV.eq_1 ?_;by_cases h:c<=j
 case' pos=>
  have y:=zbz (d:=e) (i:=c) (by omega);refine Gw6 @dT @dF q s I y ?_;intros;refine zF (ze (zf4 _ _) rfl) ?_;cases p:ltInt e[a]! e[c]!;case false=>rw[scanUp_go (λx=> !ltInt e[a]! x) e j c h (by simp only[p];rfl)]at u;refine Qd ?_;intros;exact⟨c+1,⟨by omega,by omega,u⟩,by omega,(Xa [(0,0,0)] [] rfl rfl rfl Qn Qn)⟩
  have n:c=scanUp (λx=> !ltInt e[a]! x) e j i:=(scanUp_end (λx=> !ltInt e[a]! x) e j c (We (by simp only[p];rfl))).symm.trans u;clear p y;refine Qd ?_;intros
 case' neg=>have n:c=scanUp (λx=> !ltInt e[a]! x) e j i:=(scanUp_end (λx=> !ltInt e[a]! x) e j c (Wc h)).symm.trans u;refine Qd ?_;intros
 all_goals
  clear h u;unfold zbU;refine Gw0 ?_;intros
  refine zc (λx:Nat=>([(0,.own 0 0 g 0 d.size),(1,.int .i64 a),(9,.int .i64 c),(10,.int .i64 x)],[(0,.row 1 (rW e) g)])) 1
   (λx=>x<=j/\c<=x+1/\scanDown (λx=>ltInt e[a]! x) e c x=scanDown (λx=>ltInt e[a]! x) e c j) (λx=>x) j ⟨Wa _,Q,rfl⟩ (Xa [(0,0,0)] [] rfl rfl rfl Qn Qn) ?_
  rintro k ⟨Y,Z,w⟩ T;refine dcU zbT.eq_1 ?_;by_cases h:c<=k
  case' pos=>
   have A:=zbz (d:=e) (i:=k) (by omega);refine Gw6 @dT @dF q s I A ?_;intros;refine zF (ze (zf4 _ _) rfl) ?_;cases p:ltInt e[a]! e[k]!;case true=>rw[scanDown_go (λx=>ltInt e[a]! x) e c k h (by omega) p]at w;refine Qd ?_;intros;exact⟨k-1,⟨by omega,by omega,w⟩,by omega,(Xa [(0,0,0)] [] rfl rfl rfl Qn Qn)⟩
   have o:k=scanDown (λx=>ltInt e[a]! x) e c j:=(scanDown_end (λx=>ltInt e[a]! x) e c k (We p)).symm.trans w;clear p A;refine Qd ?_;intros
  case' neg=>have o:k=scanDown (λx=>ltInt e[a]! x) e c j:=(scanDown_end (λx=>ltInt e[a]! x) e c k (Wc h)).symm.trans w;refine Qd ?_;intros
 all_goals
  clear h w;refine dcU zbP.eq_1 ?_;by_cases t:k<c
  .have C:=partEq_break ltInt a i j e n o t;refine Qd ?_;intros;unfold zbS;refine Gw1 @zcq.eq_1 ?_;intros;refine⟨.int .i64 (partitionEqual ltInt d a b m).1,[(0,.row 1 (rW (partitionEqual ltInt d a b m).2) g)],1,?_,rfl,rfl,rfl⟩;rw[<-B,C];exact(Xa [(0,0,0)] [] rfl rfl rfl Qn Qn)
  .have O:=scans_lt ltInt a i j e (by omega) n o (by omega);rw[partEq_go ltInt a i j e n o t]at B;have y:=zbz (d:=e) (i:=c) (by omega);have A:=zbz (d:=e) (i:=k) (by omega);refine Gw7 @dT @dF q s y A @m9S ?_;intros;all_goals rw[zik]
   all_goals exact⟨(c+1,k-1,swp e c k),⟨by simp only;omega,by simp only;omega,by simp only;omega,by simp only;rw[zcH];exact s,B⟩,by simp only;omega,(Xa [(0,0,0)] [] rfl rfl rfl Qn Qn)⟩
set_option maxHeartbeats 4000000 in
theorem zBl(d)(g a b A:Nat)(Y:a<=A)(Z:A<b)(hb:b<=d.size)(hs:d.size<=1000000):
  z7 Z9 zbK [.own 0 0 g 0 d.size,.int .i64 a,.int .i64 b,.int .i64 A] [(0,.row 1 (rW d) g)] 1
   (λv H nx=>v=.tup [.int .i64 (partition ltInt d a b A).1,.bool (partition ltInt d a b A).2.1]/\H=[(0,.row 1 (rW (partition ltInt d a b A).2.2) g)]/\nx=1):=by
 refine zS (fn_x zhf rfl ?_);refine dcU zdH.eq_1 ?_;have hB:=hBig;have s:=zjm (d:=d);have O:=zbz (d:=d) (i:=a) (by omega);have P:=zbz (d:=d) (i:=A) (by omega);refine Gw6 @dT @dF s O P @m9S ?_;intros;all_goals rw[zik]
 have V:(b:Int)-1=((b-1:Nat):Int):=by omega
 rw[V];generalize M:swp d a A=e;have p:e.size=d.size:=by rw[<-M];exact zcH
 clear O P s;have s:=zjm (d:=e);have B:=zbz (d:=e) (i:=a) (by omega)
 refine zc (λx:Nat=>([(0,.own 0 0 g 0 d.size),(1,.int .i64 a),(10,.int .i64 x),(11,.int .i64 (b-1:Nat))],[(0,.row 1 (rW e) g)])) 1
  (λx=>a+1<=x/\x<=b-1+1/\scanUp (λx=>ltInt x e[a]!) e (b-1) x=scanUp (λx=>ltInt x e[a]!) e (b-1) (a+1)) (λx=>b-1+1-x) (a+1) ⟨Wa _,by omega,rfl⟩ (Xa [(0,0,0)] [] rfl rfl rfl Qn Qn) ?_
 rintro c ⟨S,N,u⟩ K;refine dcU zcX.eq_1 ?_;by_cases k:c<=b-1
 case' pos=>
  have y:=zbz (d:=e) (i:=c) (by omega);refine Gw6 @dT @dF s p B y ?_;intros;refine zF (ze (zf4 _ _) rfl) ?_;cases o:ltInt e[c]! e[a]!;case true=>rw[scanUp_go (λx=>ltInt x e[a]!) e (b-1) c k o]at u;refine Qd ?_;intros;exact⟨c+1,⟨by omega,by omega,u⟩,by omega,(Xa [(0,0,0)] [] rfl rfl rfl Qn Qn)⟩
  have m:c=scanUp (λx=>ltInt x e[a]!) e (b-1) (a+1):=(scanUp_end (λx=>ltInt x e[a]!) e (b-1) c (We o)).symm.trans u;clear o y;refine Qd ?_;intros
 case' neg=>have m:c=scanUp (λx=>ltInt x e[a]!) e (b-1) (a+1):=(scanUp_end (λx=>ltInt x e[a]!) e (b-1) c (Wc k)).symm.trans u;refine Qd ?_;intros
 all_goals
  clear k u;unfold zcP;refine Gw0 ?_;intros
  refine zc (λx:Nat=>([(0,.own 0 0 g 0 d.size),(1,.int .i64 a),(10,.int .i64 c),(11,.int .i64 x)],[(0,.row 1 (rW e) g)])) 1
   (λx=>x<=b-1/\c<=x+1/\scanDown (λx=> !ltInt x e[a]!) e c x=scanDown (λx=> !ltInt x e[a]!) e c (b-1)) (λx=>x) (b-1) ⟨Wa _,N,rfl⟩ (Xa [(0,0,0)] [] rfl rfl rfl Qn Qn) ?_
  rintro h ⟨T,U,w⟩ L;refine dcU zcY.eq_1 ?_;by_cases k:c<=h
  case' pos=>
   have t:=zbz (d:=e) (i:=h) (by omega);refine Gw6 @dT @dF s p B t ?_;intros;refine zF (ze (zf4 _ _) rfl) ?_;cases o:ltInt e[h]! e[a]!;case false=>rw[scanDown_go (λx=> !ltInt x e[a]!) e c h k (by omega) (by simp only[o];rfl)]at w;refine Qd ?_;intros;exact⟨h-1,⟨by omega,by omega,w⟩,by omega,(Xa [(0,0,0)] [] rfl rfl rfl Qn Qn)⟩
   have n:h=scanDown (λx=> !ltInt x e[a]!) e c (b-1):=(scanDown_end (λx=> !ltInt x e[a]!) e c h (We (by simp only[o];rfl))).symm.trans w;clear o t;refine Qd ?_;intros
  case' neg=>have n:h=scanDown (λx=> !ltInt x e[a]!) e c (b-1):=(scanDown_end (λx=> !ltInt x e[a]!) e c h (Wc k)).symm.trans w;refine Qd ?_;intros
 all_goals
  clear k w K L;refine dcU zcS.eq_1 ?_;have t:=zbz (d:=e) (i:=h) (by omega);by_cases q:h<c
  .have C:=part_first_break ltInt d a b A rfl rfl M.symm m n q;refine Gw8 @dT @dF s p B t @m9S @zbE.eq_1 ?_;intros;all_goals rw[zik]
   all_goals rw[C]
   all_goals exact⟨_,_,1,(Xa [(0,0,0)] [] rfl rfl rfl Qn Qn),rfl,rfl,rfl⟩
  have J:=part_scans_lt ltInt (a:=a) (a+1) (b-1) e (by omega) m n (by omega);have I:=part_first_go ltInt d a b A rfl rfl M.symm m n q;have y:=zbz (d:=e) (i:=c) (by omega);rw[I];refine Gw7 @dT @dF s p y t @m9S ?_;intros;all_goals rw[zik]
  clear y t
  refine zc (λx:Nat×Nat×Array Int=>([(0,.own 0 0 g 0 d.size),(1,.int .i64 a),(10,.int .i64 x.1),(11,.int .i64 x.2.1)],[(0,.row 1 (rW x.2.2) g)])) 1
   (λx=>a<x.1/\x.1<=x.2.1+1/\x.2.1<b/\x.2.2.size=d.size/\partLoop ltInt a x.1 x.2.1 x.2.2=partLoop ltInt a (c+1) (h-1) (swp e c h)) (λx=>x.2.1+1-x.1) (c+1,h-1,swp e c h)
   ⟨by simp only;omega,by simp only;omega,by simp only;omega,by simp only;rw[zcH];exact p,rfl⟩ (Xa [(0,0,0)] [] rfl rfl rfl Qn Qn) ?_
  clear I m n q J T U S N B s p M;generalize partLoop ltInt a (c+1) (h-1) (swp e c h)=R;clear c h e;rintro⟨i,j,e⟩ ⟨W,Q,X,D,F⟩ wf;simp only at W Q X D F;have s:=zjm (d:=e);have B:=zbz (d:=e) (i:=a) (by omega);unfold zc0;refine Gw0 ?_;intros
  refine zc (λx:Nat=>([(0,.own 0 0 g 0 d.size),(1,.int .i64 a),(10,.int .i64 x),(11,.int .i64 j)],[(0,.row 1 (rW e) g)])) 1
   (λx=>i<=x/\x<=j+1/\scanUp (λx=>ltInt x e[a]!) e j x=scanUp (λx=>ltInt x e[a]!) e j i) (λx=>j+1-x) i ⟨Wa _,Q,rfl⟩ (Xa [(0,0,0)] [] rfl rfl rfl Qn Qn) ?_
  rintro c ⟨S,N,u⟩ K;refine dcU zcQ.eq_1 ?_;by_cases k:c<=j
  case' pos=>
   have y:=zbz (d:=e) (i:=c) (by omega);refine Gw6 @dT @dF s D B y ?_;intros;refine zF (ze (zf4 _ _) rfl) ?_;cases o:ltInt e[c]! e[a]!;case true=>rw[scanUp_go (λx=>ltInt x e[a]!) e j c k o]at u;refine Qd ?_;intros;exact⟨c+1,⟨by omega,by omega,u⟩,by omega,(Xa [(0,0,0)] [] rfl rfl rfl Qn Qn)⟩
   have m:c=scanUp (λx=>ltInt x e[a]!) e j i:=(scanUp_end (λx=>ltInt x e[a]!) e j c (We o)).symm.trans u;clear o y;refine Qd ?_;intros
  case' neg=>have m:c=scanUp (λx=>ltInt x e[a]!) e j i:=(scanUp_end (λx=>ltInt x e[a]!) e j c (Wc k)).symm.trans u;refine Qd ?_;intros
 all_goals
  clear k u;unfold zcM;refine Gw0 ?_;intros
  refine zc (λx:Nat=>([(0,.own 0 0 g 0 d.size),(1,.int .i64 a),(10,.int .i64 c),(11,.int .i64 x)],[(0,.row 1 (rW e) g)])) 1
   (λx=>x<=j/\c<=x+1/\scanDown (λx=> !ltInt x e[a]!) e c x=scanDown (λx=> !ltInt x e[a]!) e c j) (λx=>x) j ⟨Wa _,N,rfl⟩ (Xa [(0,0,0)] [] rfl rfl rfl Qn Qn) ?_
  rintro h ⟨T,U,w⟩ L;refine dcU zcO.eq_1 ?_;by_cases k:c<=h
  case' pos=>
   have t:=zbz (d:=e) (i:=h) (by omega);refine Gw6 @dT @dF s D B t ?_;intros;refine zF (ze (zf4 _ _) rfl) ?_;cases o:ltInt e[h]! e[a]!;case false=>rw[scanDown_go (λx=> !ltInt x e[a]!) e c h k (by omega) (by simp only[o];rfl)]at w;refine Qd ?_;intros;exact⟨h-1,⟨by omega,by omega,w⟩,by omega,(Xa [(0,0,0)] [] rfl rfl rfl Qn Qn)⟩
   have n:h=scanDown (λx=> !ltInt x e[a]!) e c j:=(scanDown_end (λx=> !ltInt x e[a]!) e c h (We (by simp only[o];rfl))).symm.trans w;clear o t;refine Qd ?_;intros
  case' neg=>have n:h=scanDown (λx=> !ltInt x e[a]!) e c j:=(scanDown_end (λx=> !ltInt x e[a]!) e c h (Wc k)).symm.trans w;refine Qd ?_;intros
 all_goals
  clear k w;refine dcU zcR.eq_1 ?_;have t:=zbz (d:=e) (i:=h) (by omega);by_cases q:h<c
  .have C:=part_break ltInt a i j e m n q;rw[C]at F;refine Qd ?_;intros;refine dcU zcW.eq_1 ?_;refine Gw8 @dT @dF s D B t @m9S @zbE.eq_1 ?_;intros;all_goals rw[zik]
   all_goals rw[<-F]
   all_goals exact⟨_,_,1,(Xa [(0,0,0)] [] rfl rfl rfl Qn Qn),rfl,rfl,rfl⟩
  .have J:=part_scans_lt ltInt (a:=a) i j e (by omega) m n (by omega);rw[part_go ltInt a i j e m n q]at F;have y:=zbz (d:=e) (i:=c) (by omega);refine Gw7 @dT @dF s D y t @m9S ?_;intros;all_goals rw[zik]
   all_goals exact⟨(c+1,h-1,swp e c h),⟨by simp only;omega,by simp only;omega,by simp only;omega,by simp only;rw[zcH];exact D,F⟩,by simp only;omega,(Xa [(0,0,0)] [] rfl rfl rfl Qn Qn)⟩
theorem zn8{ρ}{k}{s}{g}:AObj.ren ρ (.row 1 [[.int k s]] g)=.row 1 [[.int k s]] g:=by simp[AObj.ren,AV.ren]
def swH(d:Array Int)(g:Nat)(s:Nat):AH:=[(0,.row 1 (rW d) g),(1,.row 1 [[.int .i64 s]] 0)]
theorem zvQ(d)(g a b s:Nat)(p:a<d.size)(q:b<d.size)(u:d.size<=1000000)(m:s<=1000):
  z7 Z9 zaG [.own 0 0 g 0 d.size,.int .i64 a,.int .i64 b,.ptr 1 0 0 0 0] (swH d g s) 2
   (λv H n=>∃x y c:Nat,((x=a/\y=b)\/(x=b/\y=a))/\c<=s+1/\v=.tup [.int .i64 x,.int .i64 y]/\H=swH d g c/\n=2):=by
 refine zS (fn_x zi2 rfl ?_);unfold zef swH;conv in Z8 _ _=>reduce
 have o:=hBig;have k:=zjm (d:=d);have h:=zbz (d:=d) (i:=a) (by omega);have j:=zbz (d:=d) (i:=b) (by omega);refine Gw5 @dT @dF k h j ?_;intros;refine zF (ze (zf4 _ _) rfl) ?_;cases t:ltInt d[b]! d[a]!
 ·(refine Gw3 @dT @dF @zcl.eq_1 ?_;intros);exact⟨_,_,2,(Xa [(0,0,0),(1,1,0)] [] rfl rfl rfl Qn Qn),a,b,s,.inl ⟨rfl,rfl⟩,by omega,rfl,rfl,rfl⟩
 ·(refine Gw3 @dT @dF @zcl.eq_1 ?_;intros);have e:(s:Int)+1=((s+1:Nat):Int):=by omega
  rw[e];exact⟨_,_,2,(Xa [(0,0,0),(1,1,0)] [] rfl rfl rfl Qn Qn),b,a,s+1,.inr ⟨rfl,rfl⟩,by omega,rfl,rfl,rfl⟩
theorem Qo{p:Prop}(h:p:=by(try simp only[evWB,Nat.reduceBEq,Nat.reduceAdd,Nat.reduceSub,Nat.reduceLeDiff,Nat.reduceLT,implies_true,swH])<;>exact fin6):p:=h
theorem ut:type_of% @swH.eq_1:=@swH.eq_1
theorem zvZ(d)(g a b c s:Nat)(q:a<d.size)(t:b<d.size)(u:c<d.size)(h:d.size<=1000000)(A:s<=900):
  z7 Z9 zbm [.own 0 0 g 0 d.size,.int .i64 a,.int .i64 b,.int .i64 c,.ptr 1 0 0 0 0] (swH d g s) 2
   (λv H e=>∃x m:Nat,(x=a\/x=b\/x=c)/\m<=s+3/\v=.int .i64 x/\H=swH d g m/\e=2):=by
 refine zS (fn_x ziW rfl ?_);refine dcU zek.eq_1 ?_;have M:=hBig;have n:=zvQ d g a b s q t h (by omega);refine Gw1 @ut ?_;intros;refine zx [(0,0,0),(1,1,0)] 2 _ (n) rfl rfl Qo Qo ?_;rintro v H e ⟨x,y,F,C,w,rfl,rfl,rfl⟩;have o:=zvQ d g y c F (by omega) u h (by omega);refine Gw3 @ut @ze4 @zn8 ?_;intros;refine zx [(0,0,0),(1,1,0)] 2 _ (o) rfl rfl Qo Qo ?_;rintro v H e ⟨K,O,I,D,j,rfl,rfl,rfl⟩;have p:=zvQ d g x K I (by omega) (by omega) h (by omega);refine Gw3 @ut @ze4 @zn8 ?_;intros;refine zx [(0,0,0),(1,1,0)] 2 _ (p) rfl rfl Qo Qo ?_;rintro v H e ⟨N,L,J,k,B,rfl,rfl,rfl⟩;refine Gw4 @ut @ze4 @zn8 @zeg.eq_1 ?_;intros;exact⟨_,_,2,(Xa [(0,0,0),(1,1,0)] [] rfl rfl rfl Qn Qn),L,J,by omega,by omega,rfl,rfl,rfl⟩
theorem ziz(d)(g a s:Nat)(q:1<=a)(t:a+1<d.size)(m:d.size<=1000000)(b:s<=900):
  z7 Z9 zaf [.own 0 0 g 0 d.size,.int .i64 a,.ptr 1 0 0 0 0] (swH d g s) 2
   (λv H c=>∃x e:Nat,(a<=x+1/\x<=a+1)/\e<=s+3/\v=.int .i64 x/\H=swH d g e/\c=2):=by
 refine zS (fn_x zfx rfl ?_);refine dcU zco.eq_1 ?_;have p:=hBig;have k:=zvZ d g (a-1) a (a+1) s (by omega) (by omega) (by omega) m b;have h:(a:Int)-1=((a-1:Nat):Int):=by omega
 have j:(a:Int)+1=((a+1:Nat):Int):=by omega
 refine Gw3 @ut h j ?_;intros;refine zx [(0,0,0),(1,1,0)] 2 _ (k) rfl rfl Qo Qo ?_;rintro v H c ⟨x,o,u,n,rfl,rfl,rfl⟩;refine Gw4 @ut @ze4 @zn8 @zcp.eq_1 ?_;intros;exact⟨_,_,2,(Xa [(0,0,0),(1,1,0)] [] rfl rfl rfl Qn Qn),x,o,by omega,by omega,rfl,rfl,rfl⟩
theorem Qp{p:Prop}(h:p:=by(try simp only[evWB,Nat.reduceBEq,Nat.reduceAdd,Nat.reduceSub,Nat.reduceLeDiff,Nat.reduceLT,implies_true,swH,Int.natCast_zero,Int.cast_ofNat_Int])<;>exact fin6):p:=h
set_option maxHeartbeats 1000000 in
theorem zxg(d)(g a b:Nat)(L:a<b)(Z:b<=d.size)(k:d.size<=1000000):
  z7 Z9 zby [.own 0 0 g 0 d.size,.int .i64 a,.int .i64 b] [(0,.row 1 (rW d) g)] 1
   (λv H j=>∃p h:Nat,a<=p/\p<b/\h<=2/\v=.tup [.int .i64 p,.int .i64 h]/\H=[(0,.row 1 (rW d) g)]/\j=1):=by
 refine zS (fn_x zgR rfl ?_);refine dcU zdi.eq_1 ?_;have Y:=hBig;have e:(b:Int)-(a:Int)=((b-a:Nat):Int):=by omega
 have o:((b-a:Nat):Int).tdiv 4=(((b-a) / 4:Nat):Int):=by rw[WA (by omega)];omega
 have B:(b-a) / 4*4<=b-a:=WI _ _;have C:8<=b-a->2<=(b-a) / 4:=λh=>by omega
 generalize (b-a) / 4=q at o B C;have t:(a:Int)+(q:Int)*1=((a+q:Nat):Int):=by omega
 have n:(a:Int)+(q:Int)*2=((a+q*2:Nat):Int):=by omega
 have u:(a:Int)+(q:Int)*3=((a+q*3:Nat):Int):=by omega
 rcases Wp (b-a) 8 with K|K
 .obtain⟨p,y,c,A⟩:∃p,p=a+q*2/\a<=p/\p<b:=⟨_,rfl,by omega,by omega⟩;rw[<-y]at n;refine Gw8 e o t n u @dT @dF @zal.eq_1 ?_;intros;exact⟨_,_,1,(Xa [(0,0,0)] [] rfl rfl rfl Qn Qn),p,1,c,A,by omega,rfl,rfl,rfl⟩
 rcases Wp (b-a) 50 with x|x
 case' inl=>have w:=zvZ d g (a+q) (a+q*2) (a+q*3) 0 (by omega) (by omega) (by omega) k (by omega);refine Gw7 e o t n u @dT @dF ?_;intros;refine zx [(0,0,0),(1,1,0)] 2 _ (w) rfl rfl Qp Qp ?_;rintro v H j ⟨p,s,y,m,rfl,rfl,rfl⟩
 case' inr=>have w:=ziz d g (a+q) 0 (by omega) (by omega) k (by omega);refine Gw7 e o t n u @dT @dF ?_;intros;refine zx [(0,0,0),(1,1,0)] 2 _ (w) rfl rfl Qp Qp ?_;rintro v H j ⟨S,V,M,m,rfl,rfl,rfl⟩;have F:=ziz d g (a+q*2) V (by omega) (by omega) k (by omega);refine Gw3 @ut @ze4 @zn8 ?_;intros;refine zx [(0,0,0),(1,1,0)] 2 _ (F) rfl rfl Qo Qo ?_;rintro v H j ⟨T,W,N,P,rfl,rfl,rfl⟩;have I:=ziz d g (a+q*3) W (by omega) (by omega) k (by omega);refine Gw3 @ut @ze4 @zn8 ?_;intros;refine zx [(0,0,0),(1,1,0)] 2 _ (I) rfl rfl Qo Qo ?_;rintro v H j ⟨U,X,O,Q,rfl,rfl,rfl⟩;have J:=zvZ d g S T U X (by omega) (by omega) (by omega) k (by omega);refine Gw3 @ut @ze4 @zn8 ?_;intros;refine zx [(0,0,0),(1,1,0)] 2 _ (J) rfl rfl Qo Qo ?_;rintro v H j ⟨p,s,y,m,rfl,rfl,rfl⟩
 all_goals
  have c:a<=p/\p<b:=by omega
  refine Gw3 @ut @ze4 @zn8 ?_;intros;by_cases R:s=0
  .subst R;refine Gw3 @dT @dF @zal.eq_1 ?_;intros;exact⟨_,_,1,(Xa [(0,0,0)] [] rfl rfl rfl Qn Qn),p,1,c.1,c.2,by omega,rfl,rfl,rfl⟩
  by_cases D:s=12
  .subst D;refine Gw3 @dT @dF @zal.eq_1 ?_;intros;exact⟨_,_,1,(Xa [(0,0,0)] [] rfl rfl rfl Qn Qn),p,2,c.1,c.2,by omega,rfl,rfl,rfl⟩
  refine Gw3 @dT @dF @zal.eq_1 ?_;intros;exact⟨_,_,1,(Xa [(0,0,0)] [] rfl rfl rfl Qn Qn),p,0,c.1,c.2,by omega,rfl,rfl,rfl⟩
set_option maxHeartbeats 4000000 in
theorem zno(d)(g a b:Nat)(Z:a<b)(hb:b<=d.size)(hs:d.size<=1000000):
  z7 Z9 zaD [.own 0 0 g 0 d.size,.int .i64 a,.int .i64 b] [(0,.row 1 (rW d) g)] 1
   (λv H nx=>v=.bool (partialInsertionSort ltInt d a b).2/\H=[(0,.row 1 (rW (partialInsertionSort ltInt d a b).1) g)]/\nx=1):=by
 refine zS (fn_x zee rfl ?_);refine dcU zbA.eq_1 ?_;have hB:=hBig;refine Qd ?_;intros
 refine zc (λx:Nat×Nat×Array Int=>([(0,.own 0 0 g 0 d.size),(1,.int .i64 a),(2,.int .i64 b),(7,.int .i64 x.2.1),(8,.int .i64 x.1)],[(0,.row 1 (rW x.2.2) g)])) 1
  (λx=>x.1<=5/\a+1<=x.2.1/\x.2.1<=b/\x.2.2.size=d.size/\partialIns ltInt a b (5-x.1) x.2.1 x.2.2=partialInsertionSort ltInt d a b) (λx=>5-x.1) (0,a+1,d)
  ⟨by simp only;omega,by simp only;omega,by simp only;omega,rfl,rfl⟩ (Xa [(0,0,0)] [] rfl rfl rfl Qn Qn) ?_
 generalize partialInsertionSort ltInt d a b=R;rintro⟨s,i,e⟩ ⟨X,Y,V,O,c⟩ wf;simp only at X Y V O c;refine dcU zbf.eq_1 ?_;have q:=zjm (d:=e);by_cases B:s<5
 case neg=>
  obtain rfl:s=5:=by omega
  rw[pi_end]at c;refine Qd ?_;intros;unfold zbh;refine Gw1 @zae.eq_1 ?_;intros;rw[<-c];exact⟨_,_,1,(Xa [(0,0,0)] [] rfl rfl rfl Qn Qn),rfl,rfl,rfl⟩
 refine Qd ?_;intros
 refine zc (λx:Nat=>([(0,.own 0 0 g 0 d.size),(1,.int .i64 a),(2,.int .i64 b),(7,.int .i64 x),(8,.int .i64 s)],[(0,.row 1 (rW e) g)])) 1
  (λx=>i<=x/\x<=b/\scanSorted ltInt e b x=scanSorted ltInt e b i) (λx=>b-x) i ⟨Wa _,V,rfl⟩ (Xa [(0,0,0)] [] rfl rfl rfl Qn Qn) ?_
 rintro k ⟨k1,k2,u⟩ T;refine dcU zba.eq_1 ?_;by_cases M:k<b
 case neg=>
  obtain rfl:k=b:=by omega
  rw[scanSorted_stop ltInt e k k (Wc M)]at u;rw[pi_true ltInt a k s i e B u.symm]at c;refine Qd ?_;intros;refine dcU zas.eq_1 ?_;refine Gw3 @dT @dF @zae.eq_1 ?_;intros;rw[<-c];exact⟨_,_,1,(Xa [(0,0,0)] [] rfl rfl rfl Qn Qn),rfl,rfl,rfl⟩
 have U:((k:Int)-1).toNat=k-1:=by omega
 have Q:=zbz (d:=e) (i:=k) (by omega);have A:=zbz (d:=e) (i:=k-1) (by omega);refine Gw7 @dT @dF q O U Q A ?_;intros;refine zF (ze (zf4 _ _) rfl) ?_;cases p:ltInt e[k]! e[k-1]!;case false=>rw[scanSorted_go ltInt e b k M p]at u;refine Qd ?_;intros;exact⟨k+1,⟨by omega,by omega,u⟩,by omega,(Xa [(0,0,0)] [] rfl rfl rfl Qn Qn)⟩
 rw[scanSorted_stop ltInt e b k (We p)]at u;refine Qd ?_;intros;refine dcU zas.eq_1 ?_;by_cases J:b-a<50
 .rw[pi_short ltInt a b s i e B (by rw[<-u];omega) J]at c;refine Gw3 @dT @dF @zae.eq_1 ?_;intros;rw[<-c];exact⟨_,_,1,(Xa [(0,0,0)] [] rfl rfl rfl Qn Qn),rfl,rfl,rfl⟩
 rw[pi_go ltInt a b s i k e B u.symm (by omega) J]at c;have n:(swp e k (k-1)).size=d.size:=by rw[zcH];exact O
 refine Gw8 @dT @dF q O U Q A @m9S ?_;intros;all_goals rw[zik]
 clear q Q A p u wf T;generalize swp e k (k-1)=y at c n;have P:((k:Int)-1)=((k-1:Nat):Int):=by omega
 by_cases S:2<=k-a
 case' neg=>
  have m:fixDown ltInt a k y=y:=by unfold fixDown;rw[if_neg (by omega)]
  rw[m]at c;have w:=n;clear m n;generalize y=f at c w⊢;refine Qd ?_;intros
 case' pos=>
  have m:fixDown ltInt a k y=shiftDown ltInt (k-1) y:=by unfold fixDown;rw[if_pos S]
  refine Gw3 @dT @dF P ?_;intros
  refine zc (λx:Nat×Array Int=>([(0,.own 0 0 g 0 d.size),(1,.int .i64 a),(2,.int .i64 b),(7,.int .i64 k),(8,.int .i64 s),(9,.int .i64 x.1)],[(0,.row 1 (rW x.2) g)])) 1
   (λx=>x.1<=k-1/\x.2.size=d.size/\shiftDown ltInt x.1 x.2=shiftDown ltInt (k-1) y) (λx=>x.1) (k-1,y) ⟨Wa _,n,rfl⟩ (Xa [(0,0,0)] [] rfl rfl rfl Qn Qn) ?_
  rintro⟨j,f⟩ ⟨W,w,C⟩ wf3;simp only at W w C;refine dcU zbb.eq_1 ?_;by_cases L:1<=j
  case' pos=>
   have D:((j:Int)-1).toNat=j-1:=by omega
   have q:=zjm (d:=f);have F:=zbz (d:=f) (i:=j) (by omega);have h:=zbz (d:=f) (i:=j-1) (by omega);refine Gw7 @dT @dF q w D F h ?_;intros;refine zF (ze (zf4 _ _) rfl) ?_;cases p:ltInt f[j]! f[j-1]!
   case true=>
    rw[shiftDown_go ltInt j f L p]at C;refine Gw8 @dT @dF q w D F h @m9S ?_;intros;all_goals rw[zik]
    all_goals exact⟨(j-1,swp f j (j-1)),⟨by simp only;omega,by simp only;rw[zcH];exact w,C⟩,by simp only;omega,(Xa [(0,0,0)] [] rfl rfl rfl Qn Qn)⟩
   rw[shiftDown_stop ltInt j f (We p),<-m]at C;clear p q F h D;refine Qd ?_;intros
  case' neg=>rw[shiftDown_stop ltInt j f (Wc (by omega)),<-m]at C;refine Qd ?_;intros
  all_goals clear L m n wf3 W
  all_goals rw[<-C]at c
  all_goals clear C
 all_goals
  refine dcU zbj.eq_1 ?_;rcases Wp (b-k) 2 with K|K
  .have t:fixUp ltInt b k f=f:=by unfold fixUp;rw[if_neg (by omega)]
   rw[t]at c;first
   |(exfalso;omega)
   |(
     refine Qd ?_;intros;refine dcU zav.eq_1 ?_;refine Qd ?_;intros
     exact⟨(s+1,k,f),⟨by simp only;omega,by simp only;omega,by simp only;omega,w,c⟩,by simp only;omega,(Xa [(0,0,0)] [] rfl rfl rfl Qn Qn)⟩)
  have t:fixUp ltInt b k f=shiftUp ltInt b (k+1) f:=by unfold fixUp;rw[if_pos K]
  refine Qd ?_;intros
  refine zc (λx:Nat×Array Int=>([(0,.own 0 0 g 0 d.size),(1,.int .i64 a),(2,.int .i64 b),(7,.int .i64 k),(8,.int .i64 s),(10,.int .i64 x.1)],[(0,.row 1 (rW x.2) g)])) 1
   (λx=>k+1<=x.1/\x.1<=b/\x.2.size=d.size/\shiftUp ltInt b x.1 x.2=shiftUp ltInt b (k+1) f) (λx=>b-x.1) (k+1,f) ⟨Wa _,by simp only;omega,w,rfl⟩ (Xa [(0,0,0)] [] rfl rfl rfl Qn Qn) ?_
  rintro⟨j,o⟩ ⟨n1,n2,N,I⟩ wf4;simp only at n1 n2 N I;refine dcU zbe.eq_1 ?_;by_cases L:j<b
  case' pos=>
   have D:((j:Int)-1).toNat=j-1:=by omega
   have q:=zjm (d:=o);have F:=zbz (d:=o) (i:=j) (by omega);have h:=zbz (d:=o) (i:=j-1) (by omega);refine Gw7 @dT @dF q N D F h ?_;intros;refine zF (ze (zf4 _ _) rfl) ?_;cases p:ltInt o[j]! o[j-1]!
   case true=>
    rw[shiftUp_go ltInt b j o L p]at I;refine Gw8 @dT @dF q N D F h @m9S ?_;intros;all_goals rw[zik]
    all_goals exact⟨(j+1,swp o j (j-1)),⟨by simp only;omega,by simp only;omega,by simp only;rw[zcH];exact N,I⟩,by simp only;omega,(Xa [(0,0,0)] [] rfl rfl rfl Qn Qn)⟩
   rw[shiftUp_stop ltInt b j o (We p),<-t]at I;refine Qd ?_;intros
  case' neg=>rw[shiftUp_stop ltInt b j o (Wc L),<-t]at I;refine Qd ?_;intros
  all_goals rw[<-I]at c
  all_goals refine dcU zav.eq_1 ?_
  all_goals(refine Qd ?_;intros;try with_reducible exact trivial)
  all_goals exact⟨(s+1,k,o),⟨by simp only;omega,by simp only;omega,by simp only;omega,N,c⟩,by simp only;omega,(Xa [(0,0,0)] [] rfl rfl rfl Qn Qn)⟩
theorem znT{n}(b:0<=n)(c:n<=18446744073709551615):IntKind.u64.wrap n=n:=IntWalk.u64_in n ⟨b,c⟩
theorem zMo{n}(b:0<=n)(c:n<=255):IntKind.u8.wrap n=n:=IntWalk.u8_in n ⟨b,c⟩
def lenB(n:Nat):Nat:=zyv len8 n
theorem zKU:(List.range 256).all (λn=>Xi (lenB n) 8&&(Xh n 0||Xi (2 ^ lenB n) (2*n)))=true:=by kernel_rfl
theorem zzk{n}(h:n<256):lenB n<=8/\(1<=n->2 ^ lenB n<=2*n):=by
 have:=List.all_eq_true.1 zKU n (List.mem_range.2 h);rw[Bool.and_eq_true,Bool.or_eq_true]at this;refine⟨WJ this.1,λc=>?_⟩;rcases this.2 with b|b
 .have:=Nat.eq_of_beq_eq_true b;omega
 .exact WJ b
theorem zGy:ByteArray.size len8=256:=by decide
theorem zKP(n:Nat)(c:n<256):zw Z9 ziG [.int .u64 n] (·=.int .i64 (lenB n)):=by
 refine fn_x zsl rfl ?_;unfold zlz;have e:=hBig;have d:((n:Int)).toNat=n:=rfl;have b:=(zzk c).1;unfold lenB at b⊢
 (repeat first|simp(disch:=try exact dis1) only[evD,Xc,Xd,Xe,dT,dF,zMo,zGy,Int.toNat_natCast,Int.zero_add,zlV]|with_reducible first|intro _|refine aJ ?_)
 exact izO
theorem zLE(n:Nat)(b:n<256):zw Z9 zh4 [.int .u64 n] (·=.int .i64 (lenB n)):=by refine fn_x zuD rfl ?_;refine dcU zou.eq_1 ?_;refine Gw0 ?_;intros;refine zg (ze (zKP n b) rfl) ?_;refine Gw1 @zon.eq_1 ?_;intros;exact izO
theorem zFF(n:Nat)(b:n<256):zw Z9 zer [.int .i64 n] (·=.int .u64 ((2 ^ lenB n:Nat):Int)):=by
 refine fn_x zni rfl ?_;refine dcU zgX.eq_1 ?_;have j:=(zzk b).1;have e:(2:Nat) ^ lenB n<=2 ^ 8:=Nat.pow_le_pow_right (by omega) j;have c:(1:Int)*2 ^ (min (lenB n) IntKind.u64.bits)=((2 ^ lenB n:Nat):Int):=by have g:min (lenB n) IntKind.u64.bits=lenB n:=Xj (by have:IntKind.u64.bits=64:=rfl;omega);rw[g,Int.one_mul];simp
 have h:(((2:Nat) ^ lenB n:Nat):Int)<=256:=by exact_mod_cast e
 have d:IntKind.u64.wrap (((2:Nat) ^ lenB n:Nat):Int)=(((2:Nat) ^ lenB n:Nat):Int):=znT (WK _) (Wx h (by decide));refine Gw1 @znT ?_;intros;refine zg (ze (zLE n b) rfl) ?_;refine Gw4 @znT c d @zg3.eq_1 ?_;intros;exact izO
theorem zMt(x):z7 Z9 zeS [.ptr 0 0 0 0 0] [(0,.row 1 [[.int .u64 x]] 0)] 1
  (λv H c=>∃y:Int,InR .u64 y/\v=.int .u64 y/\H=[(0,.row 1 [[.int .u64 y]] 0)]/\c=1):=by
 refine zS (fn_x znE rfl ?_);refine dcU zht.eq_1 ?_;refine Gw1 @zhP.eq_1 ?_;intros;rename_i b;exact⟨_,_,1,(Xa [(0,0,0)] [] rfl rfl rfl Qn Qn),_,b,rfl,rfl,rfl⟩
theorem zI1(y)(m)(d:1<=m)(e:m<=512):
  ∃o:Nat,o<m/\IntKind.u64.wrap ((Xf IntKind.u64.bits y &&& Xf IntKind.u64.bits ((m:Int)-1)).toNat:Int)=(o:Int):=by
 have c:(Xf IntKind.u64.bits ((m:Int)-1)).toNat=m-1:=by rw[BitVec.toNat_ofInt];have:(2 ^ IntKind.u64.bits:Nat)=18446744073709551616:=rfl;rw[this];omega
 have b:(Xf IntKind.u64.bits y &&& Xf IntKind.u64.bits ((m:Int)-1)).toNat<=m-1:=by rw[BitVec.toNat_and,c];exact Nat.and_le_right
 exact⟨_,by omega,znT (WK _) (by omega)⟩
set_option maxHeartbeats 1000000 in
theorem zuQ(d)(g a b:Nat)(U:a<=b)(Y:b<=d.size)(hs:d.size<=250):
  z7 Z9 za9 [.own 0 0 g 0 d.size,.int .i64 a,.int .i64 b] [(0,.row 1 (rW d) g)] 1
   (λv H Q=>∃D,PermIn a b d D/\v=.tup []/\H=[(0,.row 1 (rW D) g)]/\Q=1):=by
 refine zS (fn_x zf2 rfl ?_);refine dcU zcz.eq_1 ?_;have X:=hBig;have c:(b:Int)-(a:Int)=((b-a:Nat):Int):=by omega
 have s:((b-a:Nat):Int).tdiv 4=(((b-a) / 4:Nat):Int):=by rw[WA (by omega)];omega
 have C:(b-a) / 4*4<=b-a:=WI _ _;have t:8<=b-a->2<=(b-a) / 4:=λh=>by omega
 generalize (b-a) / 4=q at s C t;rcases Wp (b-a) 8 with M|M
 ·(refine Gw4 c @dT @dF @za3.eq_1 ?_;intros);exact⟨_,_,1,(Xa [(0,0,0)] [] rfl rfl rfl Qn Qn),d,permIn_refl _ _ _,rfl,rfl,rfl⟩
 have O:=zFF (b-a) (by omega);have A:=(zzk (n:=b-a) (by omega)).2 (by omega);have p:1<=2 ^ lenB (b-a):=Nat.one_le_two_pow;generalize 2 ^ lenB (b-a)=m at O A p;have W:=t M;have I:(a:Int)+(q:Int)*2-1=((a+q*2-1:Nat):Int):=by omega
 have J:(a:Int)+(q:Int)*2+1=((a+q*2+1:Nat):Int):=by omega
 refine Gw6 c s I @dT @dF @znT ?_;intros;refine zg (ze O rfl) ?_;refine Gw5 c s I @dT @dF ?_;intros
 refine zc (λx:Nat×Int×Array Int=>([(0,.own 0 0 g 0 d.size),(1,.int .i64 a),(6,.int .i64 (b-a:Nat)),(7,.ptr 1 0 0 0 0),(8,.int .u64 m),(9,.int .i64 x.1)],[(0,.row 1 (rW x.2.2) g),(1,.row 1 [[.int .u64 x.2.1]] 0)])) 2
  (λx=>a+q*2-1<=x.1/\x.1<=a+q*2+2/\x.2.2.size=d.size/\PermIn a b d x.2.2) (λx=>a+q*2+2-x.1) (a+q*2-1,((b-a:Nat):Int),d)
  ⟨Wa _,by simp only;omega,rfl,permIn_refl _ _ _⟩ (Xa [(0,0,0),(1,1,0)] [] rfl rfl rfl Qn Qn) ?_
 rintro⟨i,r,e⟩ ⟨S,T,k,u⟩ wf;simp only at S T k u;refine dcU zb9.eq_1 ?_;have N:=zjm (d:=e);by_cases Z:i<=a+q*2+1
 ·(refine Gw5 c s J @dT @dF ?_;intros);refine zx [(0,1,0)] 1 _ (zMt r) rfl rfl fin9 fin9 ?_;rintro v H Q ⟨y,hy,rfl,rfl,rfl⟩;obtain⟨o,ho,w⟩:=zI1 y m p (by omega)
  obtain⟨j,V,B⟩:∃j,j<b-a/\(o<b-a/\j=o\/¬o<b-a/\j=o-(b-a)):=by
   by_cases h:o<b-a
   .exact⟨o,h,.inl ⟨h,rfl⟩⟩
   .exact⟨o-(b-a),by omega,.inr ⟨h,rfl⟩⟩
  have K:=zbz (d:=e) (i:=i) (by omega);have L:=zbz (d:=e) (i:=a+j) (by omega);have F:((a:Int)+(j:Int)).toNat=a+j:=by omega
  have P:=swp_permIn e a b i (a+j) (by omega) (by omega) (by omega) (by omega) (by omega);refine Gw4 @ze4 @zn8 @znT w ?_;intros;rcases B with ⟨h,rfl⟩|⟨h,rfl⟩
  ·(refine Gw9 c @dT @dF N k K L F @m9S ?_;intros);all_goals rw[zik]
   all_goals exact⟨(i+1,y,swp e i (a+j)),⟨by simp only;omega,by simp only;omega,by simp only;rw[zcH];exact k,permIn_trans _ _ _ _ _ u P⟩,by simp only;omega,(Xa [(0,0,0),(1,1,0)] [] rfl rfl rfl Qn Qn)⟩
  .have R:(o:Int)-((b-a:Nat):Int)=((o-(b-a):Nat):Int):=by omega
   refine Gw10 c R @dT @dF N k K L F @m9S ?_;intros;all_goals rw[zik]
   all_goals exact⟨(i+1,y,swp e i (a+(o-(b-a)))),⟨by simp only;omega,by simp only;omega,by simp only;rw[zcH];exact k,permIn_trans _ _ _ _ _ u P⟩,by simp only;omega,(Xa [(0,0,0),(1,1,0)] [] rfl rfl rfl Qn Qn)⟩
 ·(refine Gw6 c s J @dT @dF @za3.eq_1 ?_;intros);exact⟨_,_,1,(Xa [(0,0,0)] [] rfl rfl rfl Qn Qn),e,u,rfl,rfl,rfl⟩
def PInv(a0 c:Nat)(d:Array Int)(a b:Nat)(e:Array Int):Prop :=
 a<=b/\b<=d.size/\b-a<=c-a0/\e.size=d.size/\Below ltInt a b e/\∀R,PermIn a b e R->SortedIn ltInt a b R->PermIn a0 c d R/\SortedIn ltInt a0 c R
theorem PInv.perm{a0 b0}{d0}{a b}{e e1}(h:PInv a0 b0 d0 a b e)(c:PermIn a b e e1):PInv a0 b0 d0 a b e1:=by obtain⟨d,g,j,k,m,n⟩:=h;exact⟨d,g,j,by rw[c.1];exact k,m.perm (by omega) c,λR o p=>n R (permIn_trans _ _ _ _ _ c o) p⟩
theorem Qq{p:Prop}(h:p:=by(try simp only[evWB,Nat.reduceBEq,Nat.reduceAdd,Nat.reduceSub,Nat.reduceLeDiff,Nat.reduceLT,implies_true,Int.natCast_one])<;>exact fin2):p:=h
set_option maxHeartbeats 4000000 in
theorem zE4:∀(N:Nat)(d:Array Int)(g a b k:Nat),b-a<N->a<=b->b<=d.size->d.size<=250->k<=1000->Below ltInt a b d ->
  z7 Z9 zaz [.own 0 0 g 0 d.size,.int .i64 a,.int .i64 b,.int .i64 k] [(0,.row 1 (rW d) g)] 1
   (λv H w=>∃d',(PermIn a b d d'/\SortedIn ltInt a b d')/\v=.tup []/\H=[(0,.row 1 (rW d') g)]/\w=1):=by
 intro N
 induction N with
 |zero=>intro d g a b k h;omega
 |succ N ih=>
 intro d g a0 S X hN T hb0 hs V hB0;refine zS (fn_x ziq rfl ?_);refine dcU zd5.eq_1 ?_;have hB:=hBig;refine Qd ?_;intros
 refine zc (λx:Nat×Nat×Nat×Bool×Bool×Array Int=>([(0,.own 0 0 g 0 d.size),(1,.int .i64 x.1),(2,.int .i64 x.2.1),(3,.int .i64 x.2.2.1),(8,.bool x.2.2.2.1),(9,.bool x.2.2.2.2.1)],[(0,.row 1 (rW x.2.2.2.2.2) g)])) 1
  (λx=>x.2.2.1<=1000/\PInv a0 S d x.1 x.2.1 x.2.2.2.2.2) (λx=>x.2.1-x.1) (a0,S,X,true,true,d) ⟨V,T,hb0,Wa _,rfl,hB0,λR y A=>⟨y,A⟩⟩ (Xa [(0,0,0)] [] rfl rfl rfl Qn Qn) ?_
 rintro⟨a,b,k,Q,wp,e⟩ ⟨D,c⟩ wf;simp only at D c;refine dcU zdq.eq_1 ?_;have q:(b:Int)-(a:Int)=((b-a:Nat):Int):=by have:=c.1;omega
 have hbd:a<=b/\b<=250:=by have:=c.1;have:=c.2.1;omega
 by_cases h12:b-a<=12
 .obtain⟨O,i2,i3,u,i5,I⟩:=c;have h:=zu3 e g a b O (by omega) (by omega);have t:=insertionSort_holds swo_ltInt e a b O (by omega);rw[u]at h;refine Gw3 q @dT @dF ?_;intros;refine zx [(0,0,0)] 1 _ (h) rfl rfl fin9 fin9 ?_;rintro v H w ⟨rfl,rfl,rfl⟩;refine Gw2 @ze4 @zaY.eq_1 ?_;intros;exact⟨_,_,1,(Xa [(0,0,0)] [] rfl rfl rfl Qn Qn),_,I _ t.1 t.2,rfl,rfl,rfl⟩
 by_cases hz:k=0
 .obtain⟨O,i2,i3,u,i5,I⟩:=c;have h:=zDw e g a b O (by omega) (by omega);have t:=heapSort_holds swo_ltInt e a b O (by omega);rw[u]at h;refine Gw3 q @dT @dF ?_;intros;refine zx [(0,0,0)] 1 _ (h) rfl rfl fin9 fin9 ?_;rintro v H w ⟨rfl,rfl,rfl⟩;refine Gw2 @ze4 @zaY.eq_1 ?_;intros;exact⟨_,_,1,(Xa [(0,0,0)] [] rfl rfl rfl Qn Qn),_,I _ t.1 t.2,rfl,rfl,rfl⟩
 refine Gw3 q @dT @dF ?_;intros
 refine znA (λx:Nat×Array Int=>([(0,.own 0 0 g 0 d.size),(1,.int .i64 a),(2,.int .i64 b),(3,.int .i64 x.1),(8,.bool Q),(9,.bool wp),(10,.int .i64 (b-a:Nat))],[(0,.row 1 (rW x.2) g)])) 1
  (λx=>x.1<=1000/\PInv a0 S d a b x.2) ?_ ?_
 .cases Q with
  |true=>refine Qd ?_;intros;exact⟨(k,e),⟨D,c⟩,(Xa [(0,0,0)] [] rfl rfl rfl Qn Qn)⟩
  |false=>
   have h:=zuQ e g a b c.1 (by rw[c.2.2.2.1];exact c.2.1) (by rw[c.2.2.2.1];exact hs);rw[c.2.2.2.1]at h;have el:(k:Int)-1=((k-1:Nat):Int):=by omega
   refine Qd ?_;intros;refine zx [(0,0,0)] 1 _ (h) rfl rfl fin9 fin9 ?_;rintro v H w ⟨B,t,rfl,rfl,rfl⟩;refine Gw2 @ze4 el ?_;intros;exact⟨(k-1,B),⟨by simp only;omega,c.perm t⟩,(Xa [(0,0,0)] [] rfl rfl rfl Qn Qn)⟩
 clear c hz D wf;rintro⟨J,B⟩ ⟨s,c⟩ wf;simp only at s c;refine dcU zds.eq_1 ?_;have M:=zxg B g a b (by omega) (by rw[c.2.2.2.1];exact c.2.1) (by rw[c.2.2.2.1];omega);rw[c.2.2.2.1]at M;refine Qd ?_;intros;refine zx [(0,0,0)] 1 _ (M) rfl rfl fin9 fin9 ?_;rintro v H w ⟨p,h,n,o,U,rfl,rfl,rfl⟩;refine Gw1 @ze4 ?_;intros
 refine znA (λx:Nat×Nat×Array Int=>([(0,.own 0 0 g 0 d.size),(1,.int .i64 a),(2,.int .i64 b),(3,.int .i64 J),(8,.bool Q),(9,.bool wp),(10,.int .i64 (b-a:Nat)),(11,.int .i64 x.1),(12,.int .i64 x.2.1)],[(0,.row 1 (rW x.2.2) g)])) 1
  (λx=>a<=x.1/\x.1<b/\x.2.1<=2/\PInv a0 S d a b x.2.2) ?_ ?_
 .by_cases A:h=2
  .subst A;have hr:=zvX B g a b (by omega) (by rw[c.2.2.2.1];exact c.2.1) (by rw[c.2.2.2.1];omega);rw[c.2.2.2.1]at hr;have t:=reverseRange_holds B a b c.1 (by rw[c.2.2.2.1];exact c.2.1);have ep:(b:Int)-1-((p:Int)-(a:Int))=((b-1-(p-a):Nat):Int):=by omega
   have hB2:=c.2.1;refine Qd ?_;intros;refine zx [(0,0,0)] 1 _ (hr) rfl rfl fin9 fin9 ?_;rintro v H w ⟨rfl,rfl,rfl⟩;refine Gw2 @ze4 ep ?_;intros;exact⟨(b-1-(p-a),1,reverseRange B a b),⟨by simp only;omega,by simp only;omega,by simp only;omega,c.perm t⟩,(Xa [(0,0,0)] [] rfl rfl rfl Qq Qq)⟩
  ·(refine Qd ?_;intros);exact⟨(p,h,B),⟨n,o,U,c⟩,(Xa [(0,0,0)] [] rfl rfl rfl Qn Qn)⟩
 clear c M n o U wf p h;rintro⟨p,h,C⟩ ⟨n,o,U,c⟩ wf;simp only at n o U c;refine dcU zdu.eq_1 ?_;refine Gw0 ?_;intros
 refine znA (λx:Array Int=>([(0,.own 0 0 g 0 d.size),(1,.int .i64 a),(2,.int .i64 b),(3,.int .i64 J),(8,.bool Q),(9,.bool wp),(10,.int .i64 (b-a:Nat)),(11,.int .i64 p)],[(0,.row 1 (rW x) g)])) 1
  (λx=>PInv a0 S d a b x) ?_ ?_
 .have h3:=zno C g a b (by omega) (by rw[c.2.2.2.1];exact c.2.1) (by rw[c.2.2.2.1];omega);rw[c.2.2.2.1]at h3;have t:=partialInsertionSort_holds swo_ltInt C a b (by omega) (by rw[c.2.2.2.1];exact c.2.1) c.2.2.2.2.1
  cases Q with
  |false=>refine Qd ?_;intros;exact⟨C,c,(Xa [(0,0,0)] [] rfl rfl rfl Qn Qn)⟩
  |true=>
  cases wp with
  |false=>refine Qd ?_;intros;exact⟨C,c,(Xa [(0,0,0)] [] rfl rfl rfl Qn Qn)⟩
  |true=>
  by_cases y:h=1
  .subst y;refine Qd ?_;intros;refine zx [(0,0,0)] 1 _ (h3) rfl rfl fin9 fin9 ?_;rintro v H w ⟨rfl,rfl,rfl⟩;cases hpi:(partialInsertionSort ltInt C a b).2
   ·(refine Gw1 @ze4 ?_;intros);exact⟨(partialInsertionSort ltInt C a b).1,c.perm t.1,(Xa [(0,0,0)] [] rfl rfl rfl Qn Qn)⟩
   ·(refine Gw2 @ze4 @zaY.eq_1 ?_;intros);exact⟨_,_,1,(Xa [(0,0,0)] [] rfl rfl rfl Qn Qn),_,c.2.2.2.2.2 _ t.1 (t.2 hpi),rfl,rfl,rfl⟩
  ·(refine Qd ?_;intros);exact⟨C,c,(Xa [(0,0,0)] [] rfl rfl rfl Qn Qn)⟩
 clear c U wf h;rintro m c wf;refine dcU zdt.eq_1 ?_;obtain⟨O,i2,i3,u,i5,I⟩:=c;have hl:=zjm (d:=m);have gp:=zbz (d:=m) (i:=p) (by omega);rcases WL a with ha|ha
 case' inr=>
  have ea:((a:Int)-1).toNat=a-1:=by omega
  have ga:=zbz (d:=m) (i:=a-1) (by omega);refine Gw7 @dT @dF hl u ea ga gp ?_;intros;refine zF (ze (zf4 _ _) rfl) ?_;cases M:ltInt m[a-1]! m[p]!;case false=>have W:=ztm m g a b p n o (by omega) (by omega);obtain⟨r1,r2,P,Z,r5⟩:=round_eq swo_ltInt (partitionEqual_holds ltInt) ha n o (by omega) i5 M (Prod.eta (partitionEqual ltInt m a b p)).symm;rw[u]at W;refine Qd ?_;intros;refine zx [(0,0,0)] 1 _ (W) rfl rfl fin9 fin9 ?_;rintro v H w ⟨rfl,rfl,rfl⟩;refine Gw1 @ze4 ?_;intros;exact⟨((partitionEqual ltInt m a b p).1,b,J,Q,wp,(partitionEqual ltInt m a b p).2),⟨s,r2,i2,by simp only;omega,by simp only;omega,Z,λR y A=>by obtain⟨K,Y⟩:=r5 R y A;exact I R K Y⟩,by simp only;omega,(Xa [(0,0,0)] [] rfl rfl rfl Qn Qn)⟩
  clear M;refine Qd ?_;intros
 case' inl=>refine Qd ?_;intros
 all_goals
  have F:=zBl m g a b p n o (by omega) (by omega);rw[u]at F;refine zx [(0,0,0)] 1 _ (F) rfl rfl fin9 fin9 ?_;rintro v H w ⟨rfl,rfl,rfl⟩;obtain⟨r1,r2,P,Z,r5,r6,r7⟩:=round_part swo_ltInt (partition_holds ltInt) n o (by omega) i5 (show partition ltInt m a b p=((partition ltInt m a b p).1,(partition ltInt m a b p).2.1,(partition ltInt m a b p).2.2)from rfl);clear F;generalize (partition ltInt m a b p).2.2=d4 at P Z r5 r6 r7⊢;generalize (partition ltInt m a b p).2.1=ap at⊢;generalize (partition ltInt m a b p).1=j at r1 r2 Z r5 r6 r7⊢;have e8:((b-a:Nat):Int).tdiv 8=(((b-a) / 8:Nat):Int):=by rw[WA (by omega)];omega
  have h8:(b-a) / 8<=b-a:=Nat.div_le_self _ _;generalize (b-a) / 8=q8 at e8 h8;rcases Wp (j-a) (b-j)with hlr|hlr
  .have h:=ih d4 g a j J (by omega) r1 (by omega) (by omega) s Z;rw[P,u]at h;refine Gw4 @ze4 e8 @dT @dF ?_;intros;refine zx [(0,0,0)] 1 _ (h) rfl rfl fin9 fin9 ?_;rintro v H w ⟨L,⟨K,Y⟩,rfl,rfl,rfl⟩;obtain⟨s1,s2⟩:=r6 L K Y;have em:(j:Int)+1=((j+1:Nat):Int):=by omega
   refine Gw2 @ze4 em ?_;intros;exact⟨(j+1,b,J,decide ((q8:Int)<=(j:Int)-(a:Int)),ap,L),⟨s,by simp only;omega,i2,by simp only;omega,by rw[K.1,P];exact u,s1,λR y A=>by obtain⟨t1,t2⟩:=s2 R y A;exact I R t1 t2⟩,by simp only;omega,(Xa [(0,0,0)] [] rfl rfl rfl Qn Qn)⟩
  .have h:=ih d4 g (j+1) b J (by omega) (by omega) (by omega) (by omega) s r5;rw[P,u]at h;have em:(j:Int)+1=((j+1:Nat):Int):=by omega
   refine Gw5 @ze4 e8 em @dT @dF ?_;intros;refine zx [(0,0,0)] 1 _ (h) rfl rfl fin9 fin9 ?_;rintro v H w ⟨L,⟨K,Y⟩,rfl,rfl,rfl⟩;obtain⟨s1,s2⟩:=r7 L K Y;refine Gw1 @ze4 ?_;intros;exact⟨(a,j,J,decide ((q8:Int)<=(b:Int)-(j:Int)),ap,L),⟨s,r1,by simp only;omega,by simp only;omega,by rw[K.1,P];exact u,s1,λR y A=>by obtain⟨t1,t2⟩:=s2 R y A;exact I R t1 t2⟩,by simp only;omega,(Xa [(0,0,0)] [] rfl rfl rfl Qn Qn)⟩
theorem zAs{zs}{d'}(b:PermIn 0 zs.length zs.toArray d')(c:SortedIn ltInt 0 zs.length d'):d'.toList=zfF zs:=by
 have d:zs.toArray.size=zs.length:=by simp
 have:=sorted_unique_holds swo_ltInt (λx y b c=>by simp only[ltInt,decide_eq_false_iff_not]at b c;omega) zs.toArray d' (by rw[d];exact b) (by rw[d];exact c);rw[this]
 have e:(λx y:Int=> !ltInt y x)=λx y=>decide (x<=y):=by
  funext x y;simp only[ltInt];by_cases h:y<x
  .have:¬x<=y:=by omega
   simp[h,this]
  .have:x<=y:=by omega
   simp[h,this]
 rw[e];exact zpJ (.refl _)
theorem zKX(zs)(g)(o:zs.length<=250):
  z7 Z9 zc8 [.own 0 0 g 0 zs.length] [(0,.row 1 (zs.map cW) g)] 1
   (λv H b=>v=.tup []/\H=[(0,.row 1 ((zfF zs).map cW) g)]/\b=1):=by
 refine zS (fn_x zka rfl ?_);refine dcU ze2.eq_1 ?_;have p:=hBig;have q:=(zzk (n:=zs.length) (by omega)).1;have h:=zE4 (zs.length+1) zs.toArray g 0 zs.length (lenB zs.length) (by omega) (WB _) (by simp) (by simpa using o) (by omega) (Wc rfl);have d:rW zs.toArray=zs.map cW:=by simp[rW]
 rw[d,List.size_toArray]at h;refine Gw1 @znT ?_;intros;refine zg (ze (zLE zs.length (by omega)) rfl) ?_;refine Gw0 ?_;intros;refine zx [(0,0,0)] 1 _ (h) rfl rfl (Gin6_1 @Int.natCast_zero) (Gin6_1 @Int.natCast_zero) ?_;rintro v H b ⟨c,⟨k,m⟩,rfl,rfl,rfl⟩;have e:=zAs k m;have j:rW c=(zfF zs).map cW:=by unfold rW;rw[e]
 refine Gw2 @ze4 @ze6.eq_1 ?_;intros;rw[j];exact⟨_,_,1,(Xa [(0,0,0)] [] rfl rfl rfl Qn Qn),rfl,rfl,rfl⟩
end Go.Ab
namespace Go.Ab
open Go.RowKit Go.Proofs Go.Sort Go.Shelf
theorem zG2{α:Type}[Inhabited α]{w:World}{b blk off:Nat}{j:α->Value}{d:Array α}(h:FzOk w b):FzOk (putRow j w blk off d) b:=by
 intro c e u s g;unfold putRow mapBlock at g;simp only[WM]at g;by_cases n:blk=b
 .subst n;rw[if_pos rfl]at g
  cases m:w.heap[blk]? with
  |none=>rw[m]at g;cases g
  |some o=>
   rw[m]at g
   cases o with
   |cells p q f0=>
    obtain⟨v,t⟩:=f0;simp only[Option.map_some,onCells,WC,Obj.cells.injEq,Prod.mk.injEq]at g;obtain⟨rfl,rfl,rfl,rfl⟩:=g;rcases h p q _ _ m with k|k
    .exact .inl k
    .exact .inr (by unfold putCells;simpa using k)
   |_=>simp[onCells]at g
 .rw[if_neg n]at g;exact h c e u s g
section
variable {w:World}{L:Nat->Prop}{ι:Inj}{H:AH}{nx:Nat}
theorem zAB{r q g:Nat}{zs:List Int}(F:H.get r q=some (.row 1 (zs.map λn=>[.int .i64 n]) g))(hlen:zs.length<=1000000):
  z7 Z9 zfv [.own r q g 0 zs.length] H nx (λv H' nx'=>(v,H',nx')=(.tup [],H.set r q (.row 1 ((zfF zs).map λn=>[.int .i64 n]) g),nx)):=by
 intro w L ι vs rel hv
 obtain⟨mv,hvs,hmv⟩:∃mv,vs=#[mv]/\VR w (Lt L ι H) ι mv (.own r q g 0 zs.length):=by
  rcases vs with ⟨l⟩
  cases hv with
  |cons s t=>cases t;exact⟨_,rfl,s⟩
 subst hvs;have C:(zfF zs).length=zs.length:=(zdy zs).length_eq
 cases hmv with
 |own _ _ _ _ _ _ a c l J d hn hc N=>
  obtain⟨l',S,ok⟩:=rel.row _ _ _ _ _ F;rw[J]at S;cases S;have y:∀l0,ι r q g=some l0->l0=l:=λl0 V=>by rw[J]at V;cases V;rfl
  have U:l.sz=1:=ok.hsz;have nil:∀{M:Nat->Prop}{ι':Inj}{A:World},VR A M ι' (.tuple #[]) (.tup []):=.tup _ _ _ rfl (λi v a h=>by simp at h);rcases WL zs.length with V|o
  .obtain rfl:zs=[]:=List.eq_nil_of_length_eq_zero V;refine(AnyM.slices_Sort_int_none zH7 a c w).mono λe A ⟨he,p⟩=>?_
   subst p;have X:Chg A ι H r q g l A:=⟨rfl,rfl,rfl,Wa _,λ_ _ _=>rfl,λo=>.inl ⟨1,_,g,l,F,J,o,rfl⟩,y,λY l2 t=>rel.gen r q _ _ _ F Y l2 t⟩;refine⟨_,_,_,_,_,he,X.step (.inl ⟨_,_,F⟩) rel (rel.idx _ _ _ _ J) (Wa _) (.mk' ok.hsz (ok.plain d).len d (ok.plain d).there (ok.plain d).fz (λi c h=>by simp[zfF]at h) (λi c' j a s t=>by simp[zfF]at s)),Wa _,nil,rfl⟩
  .obtain rfl:=N (by omega);have T:l.off+0*l.sz=l.off:=by omega
   rw[T];have u:0<l.cap*l.sz:=by rw[U];omega
   have m:=ok.blk_lt u;have D:∀{W:List Int}{j:Nat},j<W.length->(W.toArray)[j]! = W.getD j 0:=λ{W j} h=>by simp[h,List.getD]
   have P:∀j,j<zs.length->w.cell? ⟨l.block,l.off+j,none⟩=some (.int .i64 (zs.getD j 0))/\InR .i64 (zs.getD j 0):=by
    intro j K;have e:zs.getD j 0=zs[j]:=by simp[List.getD,K]
    obtain⟨v,s,_,t⟩:=ok.holds d j [.int .i64 zs[j]] 0 (.int .i64 zs[j]) (by rw[Wt,Wf K];rfl) rfl
    cases t with
    |int _ _ _ h3=>rw[e];simp only[Xk,Xl]at s;exact⟨s,h3⟩
   have hH:Holds (Value.int .i64) w l.block l.off zs.toArray:=λj K=>by
    have Q:j<zs.length:=by simpa using K
    rw[D Q];exact⟨(P j Q).1,((ok.plain d).there j (by have:=(ok.plain d).len;simp only[Wd]at this;omega)).2⟩
   refine(AnyM.slices_Sort_int zH7 l.block l.off c zs w hH m (by omega)).mono λe A ⟨he,n,os,p⟩=>?_
   rw[zpJ (List.Perm.refl zs)]at p;have x:∀j,j<zs.length->A.cell? ⟨l.block,l.off+j,none⟩=some (.int .i64 ((zfF zs).getD j 0)):=λj K=>by rw[p,cell?_grow _ _ _ (by simpa using m),putRow_ahead,cell?_ahead,cell?_putRow _ _ _ _ zs.toArray _ hH (by simpa using C) j (by simpa [C]using K),D (by omega)]
   have B:∀a:Addr,a.block<w.heap.size->(a.block≠l.block\/a.off<l.off\/l.off+zs.length<=a.off)->A.cell? a=w.cell? a:=λa N hx=>by rw[p,cell?_grow _ _ _ (by simpa using N),putRow_ahead,cell?_ahead,cell?_putRow_other _ _ _ _ _ _ (by simpa [C]using hx)]
   have O:∀a:Addr,a.block<w.heap.size->A.frozen? a=w.frozen? a:=λa N=>by rw[p,frozen?_grow _ _ _ (by simpa using N),putRow_ahead,frozen?_ahead,frozen?_putRow]
   have I:∀b,b<w.heap.size->b≠l.block->A.heap[b]?=w.heap[b]? := λb Z hne=>by rw[p,heap_grow_old _ _ (by simpa using Z)];simp only[putRow,mapBlock,heap_ahead,WM];rw[if_neg (Ne.symm hne)]
   have X:Chg w ι H r q g l A:=⟨by rw[p];rfl,by rw[p];rfl,by rw[p];rfl,by rw[p];simp,λb Z hn=>I b Z (λhbe=>hn ⟨1,_,g,l,F,J,u,hbe.symm⟩),λo=>.inl ⟨1,_,g,l,F,J,o,rfl⟩,y,λY l2 t=>rel.gen r q _ _ _ F Y l2 t⟩;have hfz:FzOk A l.block:=by have s:FzOk (putRow (Value.int .i64) (Sort.ahead w n) l.block l.off (zfF zs).toArray) l.block:=zG2 (((ok.plain d).fz (by rw[<-U];exact u)).of_heap rfl);rw[p];exact s.of_heap (heap_grow_old _ _ (by simpa using m))
   refine⟨_,_,_,_,_,he,X.step (.inl ⟨_,_,F⟩) rel (rel.idx _ _ _ _ J) (Wa _) (.mk' ok.hsz (by have:=(ok.plain d).len;simp only[Wd]at this⊢;omega) d (λk R=>?_) (λ_=>hfz) (λi c h=>?_) (λi c' j a s t=>?_)),Wa _,nil,rfl⟩
   .rw[O _ m];refine⟨?_,((ok.plain d).there k R).2⟩;by_cases hk2:k<zs.length
    .rw[x k hk2];rfl
    .rw[B _ m (.inr (.inr (by simp only;omega)))];exact((ok.plain d).there k R).1
   .rw[Wt]at h;obtain⟨z,_,rfl⟩:=WN.1 h;rfl
   .rw[Wt]at s;obtain⟨z,hz,rfl⟩:=WN.1 s
    match j with
    |0=>
     cases t;have hi:i<zs.length:=by rw[<-C];exact(List.getElem?_eq_some_iff.1 hz).1
     refine⟨.int .i64 z,?_,rfl,.int _ _ _ ?_⟩
     .simp only[Xk,Xl];rw[x i hi,Wg,hz];rfl
     .obtain⟨k,R,hke⟩:=List.mem_iff_getElem.1 ((zdy zs).mem_iff.1 (List.mem_of_getElem? hz));have:=(P k R).2;simp only[List.getD,Wf R,Option.getD_some]at this;rw[hke]at this;exact this
    |j+1=>cases t
end
end Go.Ab
namespace Go.Ab
open Go.RowKit Go.Proofs
def filR(p:Nat->Bool)(n:Nat):List Nat:=(List.range n).filter p
theorem zDV{p}{n}(h:p n=true):filR p (n+1)=filR p n++[n]:=by unfold filR;rw[List.range_succ,WO];simp[h]
theorem zEZ{p}{n}(h:p n=false):filR p (n+1)=filR p n:=by unfold filR;rw[List.range_succ,WO];simp[h]
theorem zHi{p}{n}:(filR p n).length<=n:=by unfold filR;exact Nat.le_trans (List.length_filter_le _ _) (by simp)
theorem zzp{H H2}{σ}{D}{t}{r q g}{l m}(c:D r q)(e:H.get r q=some (.row 1 ((l++m).map cI) g))(d:l.length<=big):
  Vw H H2 σ D t (.own r q g 0 l.length) (za l):=by
 refine .frz t r q g 0 l.length 1 ((l++m).map cI) _ c e d (by simp) (λi j b h=>?_);obtain rfl:j=0:=by omega
 rw[WD,zk (show i<(l++m).length by simp;omega),zk b,WP b];exact .int _ _ _
def zgi(l:List Int)(j:Nat):Bool:=j == 0||(l.getD j 0 != l.getD (j-1) 0)
def zak(l:List Int)(n:Nat):List Int:=(filR (zgi l) n).map (λj=>l.getD j 0)
def zbG(l:List Int):List Int:=zak l l.length
theorem zyx{l}{n}:(zak l n).length<=n:=by unfold zak;rw[Wd];exact zHi
theorem zpY{l}{j}(b:j<l.length)(h:zgi l j=true):zak l (j+1)=zak l j++[l[j]]:=by unfold zak;rw[zDV h,Wi];simp[Wg,b]
theorem zpi{l}{j}(h:zgi l j=false):zak l (j+1)=zak l j:=by unfold zak;rw[zEZ h]
theorem zp8{l}{n}(c:n<=l.length)(h:∀j,j<n->zgi l j=true):zak l n=l.take n:=by
 induction n with
 |zero=>rfl
 |succ n ih=>rw[zpY (by omega) (h n (by omega)),ih (by omega) (λj b=>h j (by omega)),WE,Wf (by omega)];rfl
theorem zgl{l}{j}(c:1<=j)(b:j<l.length):zgi l j=(l[j] != l[j-1]):=by unfold zgi;rw[Wg,Wg,Wf b,Wf (show j-1<l.length by omega)];simp;omega
def curI(K l:List Int):List Int:=K++l.drop K.length
theorem zu7{K l}(h:K.length<=l.length):(curI K l).length=l.length:=by simp[curI];omega
theorem zD9{K l}{j}(h:K.length<=j)(b:j<l.length):(curI K l)[j]?=some l[j]:=by unfold curI;rw[List.getElem?_append_right h,List.getElem?_drop,show K.length+(j-K.length)=j by omega,Wf b]
theorem zz4{K l}{j}(h:K.length<=j)(b:j<l.length):((curI K l).map cI).getD j []=[.int .i64 l[j]]:=by simp[Wg,zD9 h b]
theorem zE0{K l}{v}(h:K.length<l.length):(curI K l).set K.length v=curI (K++[v]) l:=by unfold curI;rw[List.set_append_right _ _ (Wa _),Nat.sub_self,Wu h,List.set_cons_zero];simp
theorem zIR{K l}{v}(h:K.length<l.length):((curI K l).map cI).set K.length [.int .i64 v]=(curI (K++[v]) l).map cI:=by rw[<-zE0 h,Wz]
theorem zAm{l}{n}(h:n<=l.length):curI (l.take n) l=l:=by unfold curI;rw[Wj,Xj h,WQ]
theorem zy7(l)(g)(hl:l.length<=100000000000):
  z7 Z9 zd0 [.own 0 0 g 0 l.length] [(0,.row 1 (l.map cI) g)] 1
   (λv H Z=>∃m,v=.own 0 0 g 0 (zbG l).length/\H=[(0,.row 1 ((zbG l++m).map cI) g)]/\Z=1):=by
 refine zS (fn_x zmb rfl ?_);refine dcU zgf.eq_1 ?_;have hB:=hBig;have s:∀K m,(∀j,j<l.length->zgi l j=true)->K=(4,Xm)->m=0->zbG l=l:=λK m h _ _=>by unfold zbG;rw[zp8 (Wa _) h,Wq]
 refine Gw0 ?_;intros;(refine zz (λh=>?_) (λh=>?_))<;>(try simp only[dcd]at h)
 ·(refine Gw1 @zcc.eq_1 ?_;intros)
  have b:∀j,j<l.length->zgi l j=true:=λj T=>by
   have:j=0:=by omega
   subst this;rfl
  have e:=s (4,.undef) 0 b rfl rfl;refine⟨.own 0 0 g 0 l.length,[(0,.row 1 ((l++[]).map cI) g)],1,?_,[],by rw[e],by rw[e],rfl⟩;rw[Wk];exact(Xa [(0,0,0)] [] rfl rfl rfl Qn Qn)
 refine Gw0 ?_;intros;refine zc (λi:Nat=>([(0,.own 0 0 g 0 l.length),(3,.int .i64 i)],[(0,.row 1 (l.map cI) g)])) 1 (λi=>1<=i/\i<=l.length/\∀j,j<i->zgi l j=true) (λi=>l.length-i) 1 ⟨by omega,by omega,λj T=>(by rw[show j=0 by omega];rfl)⟩ (Xa [(0,0,0)] [] rfl rfl rfl Qn Qn) ?_;intro i ⟨x,X,b⟩ wf;refine dcU ze9.eq_1 ?_;refine Gw0 ?_;intros;(refine zz (λP=>?_) (λP=>?_))<;>(try simp only[dcd]at P)
 .have n:i<l.length:=by omega
  have y:i-1<l.length:=by omega
  have U:((i:Int)-1).toNat=i-1:=by omega
  refine Gw3 (gmp n) U (gmp y) ?_;intros;(refine zz (λQ=>?_) (λQ=>?_))<;>(try simp only[dcd]at Q)
  .have o:zgi l i=false:=by rw[zgl x n];simp;omega
   have J:zak l i=l.take i:=zp8 (by omega) b;have A:zak l (i+1)=l.take i:=by rw[zpi o,J]
   have k:(zak l (i+1)).length=i:=by rw[A,Wj];omega
   have c:curI (zak l (i+1)) l=l:=by rw[A,zAm (by omega)]
   have C:((l.length:Int)-i).toNat=l.length-i:=by omega
   refine Gw1 C ?_;intros
   refine zc (λa:Nat=>([(0,.own 0 0 g 0 l.length),(3,.int .i64 (zak l (i+a)).length),(4,.own 0 0 g i (l.length-i)),(5,.int .i64 a)],[(0,.row 1 ((curI (zak l (i+a)) l).map cI) g)])) 1
    (λa=>1<=a/\i+a<=l.length/\(zak l (i+a)).length<i+a) (λa=>l.length-(i+a)) 1 ⟨by omega,by omega,by omega⟩ (Xa [(0,0,0)] [] rfl rfl rfl (Gin2_2 c k) (Gin2_2 c k)) ?_
   intro a ⟨V,W,D⟩ wf;refine dcU zeX.eq_1 ?_;refine Gw0 ?_;intros;(refine zz (λR=>?_) (λR=>?_))<;>(try simp only[dcd]at R)
   .have d:i+a<l.length:=by omega
    have t:i+a-1<l.length:=by omega
    have M:i+((a:Int)-1).toNat=i+a-1:=by omega
    have N:=zz4 (K:=zak l (i+a)) (l:=l) (by omega) d;have O:=zz4 (K:=zak l (i+a)) (l:=l) (by omega) t;have u:=zu7 (K:=zak l (i+a)) (l:=l) (by omega);refine Gw3 M N O ?_;intros;(refine zz (λS=>?_) (λS=>?_))<;>(try simp only[dcd]at S)
    .have L:zgi l (i+a)=true:=by rw[zgl (by omega) d];simp;omega
     have q:=zpY d L;have B:=zIR (K:=zak l (i+a)) (l:=l) (v:=l[i+a]) (by omega);rw[<-q]at B;have p:(zak l (i+a+1)).length=(zak l (i+a)).length+1:=by rw[q];simp
     refine Gw4 M N O B ?_;intros;exact⟨a+1,⟨by omega,by omega,by rw[show i+(a+1)=i+a+1 by omega,p];omega⟩,by omega,(Xa [(0,0,0)] [] rfl rfl rfl (Gin2_2 (show i+(a+1)=i+a+1 by omega) p) (Gin2_2 (show i+(a+1)=i+a+1 by omega) p))⟩
    .have L:zgi l (i+a)=false:=by rw[zgl (by omega) d];simp;omega
     have q:=zpi L;refine Gw0 ?_;intros;exact⟨a+1,⟨by omega,by omega,by rw[show i+(a+1)=i+a+1 by omega,q];omega⟩,by omega,(Xa [(0,0,0)] [] rfl rfl rfl (Gin2_2 (show i+(a+1)=i+a+1 by omega) q) (Gin2_2 (show i+(a+1)=i+a+1 by omega) q))⟩
   .have F:i+a=l.length:=by omega
    rw[F]at D⊢;have Y:((l.length:Int)-(zak l l.length).length).toNat=l.length-(zak l l.length).length:=by omega
    have u:=zu7 (K:=zak l l.length) (l:=l) (by omega);have w:((curI (zak l l.length) l).map cI).take (zak l l.length).length++Wl (l.length-(zak l l.length).length) [Xb .i64 0]++((curI (zak l l.length) l).map cI).drop ((zak l l.length).length+(l.length-(zak l l.length).length))=(zak l l.length++Wl (l.length-(zak l l.length).length) 0).map cI:=by rw[WR (by rw[Wd,u];omega),Wk,<-List.map_take,Wi,WS];congr 2;unfold curI;rw[WU (Wa _),Wq]
    refine dcU ze8.eq_1 ?_;refine Gw3 @zcc.eq_1 Y w ?_;intros;refine⟨.own 0 0 g 0 (zbG l).length,[(0,.row 1 ((zbG l++Wl (l.length-(zak l l.length).length) 0).map cI) g)],1,?_,_,rfl,rfl,rfl⟩;exact(Xa [(0,0,0)] [] rfl rfl rfl (Gin2_1 @zbG.eq_1) (Gin2_1 @zbG.eq_1))
  .have o:zgi l i=true:=by rw[zgl x n];simp;omega
   refine dcU zeW.eq_1 ?_;refine Gw0 ?_;intros;refine⟨i+1,⟨by omega,by omega,λj T=>?_⟩,by omega,(Xa [(0,0,0)] [] rfl rfl rfl Qn Qn)⟩;by_cases I:j=i
   .subst I;exact o
   .exact b j (by omega)
 .obtain rfl:i=l.length:=by omega
  unfold zeZ;have e:=s (4,.undef) 0 b rfl rfl;refine Gw1 @zcc.eq_1 ?_;intros;refine⟨.own 0 0 g 0 l.length,[(0,.row 1 ((l++[]).map cI) g)],1,?_,[],by rw[e],by rw[e],rfl⟩;rw[Wk];exact(Xa [(0,0,0)] [] rfl rfl rfl Qn Qn)
structure SetS(c:Int)(ps:List (Int×Int)):Prop where
 keys:(ps.map (·.1)).Nodup
 borns:(ps.map (·.2)).Nodup
 lt:∀p∈ps,p.2<c
 top:c<=1000000
 len:ps.length<=1000000
theorem zEK{c b:List (Int×Int)}(e:b.Nodup)(g:c.Nodup)(j:∀p∈b,p∈c)(k:∀p∈c,p∈b):b.Perm c :=
 List.perm_iff_count.2 λa=>by
  by_cases d:a∈c
  .rw[Xg e,Xg g,if_pos d,if_pos (k a d)]
  .rw[Xg e,Xg g,if_neg d,if_neg (λh=>d (j a h))]
theorem Qr{p:Prop}(h:p:=by(try simp only[evWB,Nat.reduceBEq,Nat.reduceAdd,Nat.reduceSub,Nat.reduceLeDiff,Nat.reduceLT,implies_true,zd,List.length_append,List.length_singleton,List.map_append,List.map_cons,List.map_nil])<;>exact fin8):p:=h
theorem zCD(c)(ps)(u:SetS c ps):z7 Z9 zgP [.mp 0 0] [(0,.row 3 ((setM c ps).map cm) 0)] 1
  (λv H nx=>v=za (zfF (ps.map (·.1)))/\H=[(0,.row 3 ((setM c ps).map cm) 0)]/\nx=1):=by
 refine zS (fn_x zqj rfl ?_);refine dcU zjt.eq_1 ?_;have N:=hBig;have K:=u.top;have J:=u.len;refine Gw3 @evM @zd @zB1 ?_;intros
 refine zc (λsel:List (Int×Int)=>([(3,.own 1 0 0 0 sel.length),(6,.it 2)],[(0,.row 3 ((setM c ps).map cm) 0),(1,.row 1 (sel.map λp=>cI p.1) 0),(2,.row 1 ([.mp 0 0]::[.int .i64 c]::[.int .i64 c]::sel.map λp=>[.int .i64 p.2]) 0)])) 3
  (λsel=>sel.Nodup/\∀p∈sel,p∈ps) (λsel=>ps.length-sel.length) [] ⟨List.nodup_nil,λp h=>by cases h⟩ (Xa [(0,0,0),(1,2,0),(2,3,0)] [] rfl rfl rfl (Gin8_1 @zd) (Gin8_1 @zd)) ?_
 rintro sel ⟨m,d⟩ wf;have F:ps.Nodup:=zpf u.keys;have L:sel.length<=ps.length:=Xn m d;refine dcU zhw.eq_1 ?_;refine Gw0 ?_;intros;refine zEY (ps:=ps) (sel:=sel) (c:=c) rfl rfl (by omega) u.lt u.borns d (λw=>?_) (λp D A=>?_)
 .have k:=zEK m F d w;have s:=k.length_eq;refine Gw0 ?_;intros;have t:zfF (sel.map (·.1))=zfF (ps.map (·.1)):=zAd (((zdy _).trans (k.map _)).trans (zdy _).symm) (zg1 _) (zg1 _);have C:(sel.map λp=>cI p.1)=(sel.map (·.1)).map λn=>[Xb .i64 n]:=by rw[List.map_map];rfl
  rw[C];refine dcU zh6.eq_1 ?_;refine Gw0 ?_;intros;have B:=zAB (H:=[(0,.row 3 ((setM c ps).map cm) 0),(1,.row 1 ((sel.map (·.1)).map λn=>[Xb .i64 n]) 0),(2,.row 1 ([.mp 0 0]::[.int .i64 c]::[.int .i64 c]::sel.map λp=>[.int .i64 p.2]) 0)]) (nx:=3) (r:=1) (q:=0) (g:=0) (zs:=sel.map (·.1)) rfl (by rw[Wd];omega);rw[Wd]at B;refine zyu B ?_;rintro _ _ _ o;simp only[Prod.mk.injEq]at o;obtain⟨rfl,rfl,rfl⟩:=o;have y:sel.length=(zfF (ps.map (·.1))).length:=by rw[(zdy _).length_eq,Wd];exact s
  rw[t,y];generalize zfF (ps.map (·.1))=M at y⊢;refine Gw1 @zjS.eq_1 ?_;intros;exact⟨za M,[(0,.row 3 ((setM c ps).map cm) 0)],1,(Xa [(0,0,0)] [1] rfl rfl rfl (Gin8_1 @zd) (Gin8_1 @zd)),rfl,rfl,rfl⟩
 .have x:=λ(H:AH) (nx:Nat) (hr) (hm)=>zEH (H:=H) (nx:=nx) (r:=2) (rm:=0) (qm:=0) (c:=c) (since:=c) (sel:=sel) (p:=p) hr hm u.borns D
  refine Gw0 ?_;intros;rw[x _ _ rfl rfl];refine Gw0 ?_;intros;refine⟨sel++[p],⟨?_,?_⟩,?_,(Xa [(0,0,0),(1,1,1),(2,2,0)] [] rfl rfl rfl Qr Qr)⟩
  .rw[WG];exact⟨m,by simp,λa j b I e=>A (by rw[Wn]at I;rw[<-I,<-e];exact j)⟩
  .intro a j;rcases WH.1 j with j|j
   .exact d a j
   .rw[Wn]at j;rw[j];exact D
  .have:sel.length<ps.length:=by
    have:=Xn (Wy.2 ⟨A,m⟩) (show ∀a∈p::sel,a∈ps from λa j=>by
     rcases Wo.1 j with rfl|j
     .exact D
     .exact d a j)
    simp only[Wh]at this;omega
   rw[Wm,Wv];omega
def famS(n:Nat)(S:Nat->Int×List (Int×Int)):AObj:=.fam 3 (fi cm n (λi=>setM (S i).1 (S i).2) (λ_=>0))
abbrev MS:=Int×List (Int×Int)
def MS.keys(s:MS):List Int:=s.2.map (·.1)
def MS.ok(s:MS):Prop:=SetS s.1 s.2
def add1(s:MS)(v:Int):MS:=if v∈s.keys then s else(s.1+1,s.2++[(v,s.1)])
def addL(s:MS)(l:List Int):MS:=l.foldl add1 s
theorem zvW{s}{v}:(add1 s v).keys=if v∈s.keys then s.keys else s.keys++[v]:=by
 unfold add1;split
 .rfl
 .simp[MS.keys]
theorem zD8{s}{v}:s.2.length<=(add1 s v).2.length/\(add1 s v).1<=s.1+1/\(add1 s v).2.length<=s.2.length+1:=by
 unfold add1;split
 .exact⟨Wa _,by omega,by omega⟩
 .exact⟨by simp,by simp,by simp⟩
theorem SetS.add{c}{ps}(h:SetS c ps){v}(m:v∉ps.map (·.1))(o:c<1000000)(n:ps.length<1000000):SetS (c+1) (ps++[(v,c)]):=by
 refine⟨?_,?_,λp d=>?_,by omega,by simp;omega⟩
 .rw[Wi,WG];exact⟨h.keys,by simp,λa j b g e=>m (by simp only[Ws,WF,Wn]at g;rw[<-g,<-e];exact j)⟩
 .rw[Wi,WG];refine⟨h.borns,by simp,λa j b g e=>?_⟩;simp only[Ws,WF,Wn]at g;obtain⟨p,d,k⟩:=List.mem_map.1 j;have:=h.lt p d;omega
 .rcases WH.1 d with d|d
  .have:=h.lt p d;omega
  .rw[Wn]at d;rw[d];simp only;omega
theorem zM0{s}{v}(h:s.ok)(c:s.1<1000000)(b:s.2.length<1000000):(add1 s v).ok:=by
 unfold add1;split
 .exact h
 .rename_i d;exact SetS.add h d c b
theorem zeJ:∀{l:List Int}{s:MS},s.2.length<=(addL s l).2.length/\(addL s l).1<=s.1+l.length/\(addL s l).2.length<=s.2.length+l.length
 |[],s=>⟨Wa _,by simp[addL],by simp[addL]⟩
 |
  v::l,s=>by
  have b:=zD8 (s:=s) (v:=v);have c:=zeJ (l:=l) (s:=add1 s v);show s.2.length<=(addL (add1 s v) l).2.length/\(addL (add1 s v) l).1<=s.1+_/\(addL (add1 s v) l).2.length<=_;simp only[Wh];exact⟨by omega,by omega,by omega⟩
theorem znw:∀{l:List Int}{s:MS},s.ok->s.1+l.length<=1000000->s.2.length+l.length<=1000000->(addL s l).ok
 |[],s,h,_,_=>h
 |
  v::l,s,h,h1,h2=>by
  simp only[Wh]at h1 h2;have b:=zD8 (s:=s) (v:=v);exact znw (l:=l) (zM0 h (by omega) (by omega)) (by omega) (by omega)
theorem zlM{y}:∀{l:List Int}{s:MS},y∈(addL s l).keys↔y∈s.keys\/y∈l
 |[],s=>by simp[addL]
 |
  v::l,s=>by
  show y∈(addL (add1 s v) l).keys↔_;rw[zlM,zvW];split
  .rename_i h;constructor
   .rintro(b|b)
    .exact .inl b
    .exact .inr (List.mem_cons_of_mem _ b)
   .rintro(b|b)
    .exact .inl b
    .rcases Wo.1 b with rfl|b
     .exact .inl h
     .exact .inr b
  .rw[WH,Wn,Wo,or_assoc]
theorem zku{s:MS}{l:List Int}{i:Nat}(h:i<l.length):addL s (l.take (i+1))=add1 (addL s (l.take i)) l[i]:=by unfold addL;rw[WE,Wf h,List.foldl_append];rfl
theorem zgs{p}{ps}:(enL (ps++[p])).map cm=(enL ps).map cm++[[.int .i64 p.1,.bool true,.int .i64 p.2]]:=by simp[enL,cm]
theorem zFj(s:MS)(l:List Int)(B:s.ok)(u:s.1+l.length<=1000000)(w:s.2.length+l.length<=1000000):z7 Z9 zhr [.mp 0 0,za l] [(0,.row 3 ((setM s.1 s.2).map cm) 0)] 1
  (λv H q=>v=.bool (decide (s.2.length<(addL s l).2.length))/\H=[(0,.row 3 ((setM (addL s l).1 (addL s l).2).map cm) 0)]/\q=1):=by
 refine zS (fn_x zrR rfl ?_);refine dcU zkn.eq_1 ?_;have x:=hBig;refine Gw1 @ua ?_;intros
 refine zc (λi:Nat=>([(0,.mp 0 0),(5,.bool (decide (s.2.length<(addL s (l.take i)).2.length))),(8,za l),(9,.int .i64 l.length),(10,.int .i64 i)],[(0,.row 3 ((setM (addL s (l.take i)).1 (addL s (l.take i)).2).map cm) 0)])) 1
  (λi=>i<=l.length) (λi=>l.length-i) 0 (WB _) (by rw[List.take_zero,show addL s []=s from rfl,dF (Nat.lt_irrefl _)];exact(Xa [(0,0,0)] [] rfl rfl rfl (Gin6_2 @zd @ua) (Gin6_2 @zd @ua))) ?_
 rintro i y wf;refine dcU zim.eq_1 ?_;by_cases o:i<l.length
 .have g:=zk (f:=cI) (d:=[]) o;have m:=zeJ (l:=l.take i) (s:=s);rw[Wj]at m;have b:=zku (s:=s) o;generalize addL s (l.take i)=t at m b⊢;obtain⟨c,e⟩:=t;simp only at m b⊢;by_cases h:l[i]∈e.map (·.1)
  .obtain⟨j,A,p,n⟩:=zft h;have k:add1 (c,e) l[i]=(c,e):=if_pos h;rw[k]at b;refine Gw5 @dT g @ua @zd n ?_;intros;exact⟨i+1,by omega,by omega,(Xa [(0,0,0)] [] rfl rfl rfl (Gin6_3 @zd @ua b) (Gin6_3 @zd @ua b))⟩
  .have n:=zeb h;have k:add1 (c,e) l[i]=(c+1,e++[(l[i],c)]):=if_neg h;rw[k]at b;refine Gw5 @dT g @ua @zd n ?_;intros;have hd:decide (s.2.length<e.length+1)=true:=dT (by omega);exact⟨i+1,by omega,by omega,(Xa [(0,0,0)] [] rfl rfl rfl (by(try simp only[evWB,Xc,Xd,Xo,Xe,Xp,implies_true,zd,za,b,zgs,Wm,Wv,hd])<;>exact fin6) (by(try simp only[evWB,Xc,Xd,Xo,Xe,Xp,implies_true,zd,za,b,zgs,Wm,Wv,hd])<;>exact fin6))⟩
 ·(refine Qa ?_;intros);unfold zig;refine Gw1 @zlf.eq_1 ?_;intros;rw[Ww (by omega)];exact⟨_,_,_,(Xa [(0,0,0)] [] rfl rfl rfl (Gin6_1 @zd) (Gin6_1 @zd)),rfl,rfl,rfl⟩
theorem zyy{l:List Int}{i:Nat}(h:i<=l.length){H:AH}:zec 1 (.sl 1 i λa j=>((l.map λn=>[Xb .i64 n]).getD (Int.toNat 0+a) []).getD j .undef) H=some ((l.take i).map cI):=by
 simp only[zec,show Xh 1 1=true from rfl,cond_true,WC];apply WV
 .simp<;>omega
 .intro k b d;simp only[Wd,WW]at b;have c:k<l.length:=by omega
  simp only[WX,WY,tab,Int.toNat_zero,WD,List.getElem_take];rw[zk c];try rfl
theorem zyP{l:List Int}{i:Nat}(h:i<=l.length){H:AH}:zec 1 (.sl 1 (l.length-i) λa j=>((l.map λn=>[Xb .i64 n]).getD (i+a) []).getD j .undef) H=some ((l.drop i).map cI):=by
 simp only[zec,show Xh 1 1=true from rfl,cond_true,WC];apply WV
 .simp<;>omega
 .intro k b d;simp only[Wd,WW]at b;have c:i+k<l.length:=by omega
  simp only[WX,WY,tab,List.getElem_drop];rw[zk c];try rfl
theorem zH3{sz n}{f}:lenV (.sl sz n f)=some n:=rfl
theorem zHB{sz n}{f}{H}:fits H (.sl sz n f)=True:=rfl
theorem zHV{n}:∀{i:Nat}{l:List Int},(∀j,(h:j<l.length)->j<i->l[j]<n)->insU n l=l.take i++insU n (l.drop i)
 |0,l,_=>by simp
 |i+1,[],_=>by simp
 |
  i+1,x::l,h=>by
  have b:=h 0 (by simp) (by omega);simp only[List.getElem_cons_zero]at b;rw[insU,if_pos b,List.take_succ_cons,List.drop_succ_cons,List.cons_append,<-zHV (i:=i) λj c d=>h (j+1) (by simpa using c) (by omega)]
theorem zD6{n}:∀{l:List Int},(insU n l).length<=l.length+1
 |[]=>by simp[insU]
 |
  x::l=>by
  unfold insU;split
  .have:=zD6 (n:=n) (l:=l);simp only[Wh];omega
  .split<;>simp
theorem zzx(l)(n)(J:l.length<=1000000):zw Z9 zo2 [za l,.int .i64 n] (·=za (insU n l)):=by
 refine fn_x zyZ rfl ?_;refine dcU zsW.eq_1 ?_;have I:=hBig;refine Gw1 @ua ?_;intros;refine zc (λi:Nat=>([(0,za l),(1,.int .i64 n),(5,.int .i64 i)],[])) 0 (λi=>i<=l.length/\∀j,(h:j<l.length)->j<i->l[j]<n) (λi=>l.length-i) 0 ⟨WB _,λj _ h=>by omega⟩ (Ent.tab [] [] rfl (Gin2_1 @ua) (Gin2_1 @ua)) ?_;rintro i ⟨m,k⟩ wf;refine dcU zox.eq_1 ?_;have b:=zHV k;by_cases e:i<l.length
 .have c:=zk (f:=cI) (d:=[]) e;by_cases A:l[i]<n
  ·(refine Gw3 @dT @ua c ?_;intros);refine⟨i+1,⟨by omega,λj C D=>?_⟩,by omega,Ent.keep rfl fin5⟩;by_cases s:j=i
   .subst s;exact A
   .exact k j C (by omega)
  .rw[Wu e,insU,if_neg A]at b;refine Gw4 @dT @dF @ua c ?_;intros;refine dcU zi5.eq_1 ?_;by_cases y:l[i]=n
   .rw[if_pos y,<-Wu e,WQ]at b;rw[b];refine Gw4 @dT @ua c @zj6.eq_1 ?_;intros;exact⟨_,zM rfl,rfl⟩
   .rw[if_neg y,<-Wu e]at b;have t:=congrArg List.length b;simp only[Wm,Wh,Wj,WZ]at t;rw[b];have o:=λH=>zyy (H:=H) m
    have p:=λH=>zyP (H:=H) m
    have B:(l.take i).length=i:=by rw[Wj];omega
    have F:((l.take i).map cI).take i=(l.take i).map cI:=Ww (by rw[Wd];omega);have u:(((l.take i).map cI)++[[Xb .i64 n]]).take (i+1)=((l.take i).map cI)++[[Xb .i64 n]]:=Ww (by simp;omega);have v:(((l.take i).map cI)++[[Xb .i64 n]]).length=i+1:=by simp;omega
    have w:((i:Int)-0).toNat=i:=by omega
    have x:((l.length:Int)-(i:Int)).toNat=l.length-i:=by omega
    (repeat first|simp(disch:=try exact dis1) only[evD,Xc,Xd,Xe,dT,dF,za,c,zpL,zgJ,o,p,zH3,zHB,w,x,B,F,u,v,zj6]|with_reducible first|intro _|refine aJ ?_)
    have q:(l.take i).map cI++[[Xb .i64 n]]++(l.drop i).map cI=(l.take i++n::l.drop i).map cI:=by simp
    have g:i+1+(l.length-i)=(l.take i++n::l.drop i).length:=by rw[Wm,Wh,WZ,B];omega
    rw[q,g];exact⟨_,zbv trivial rfl (by rw[<-g];omega),rfl⟩
 .obtain rfl:i=l.length:=by omega
  rw[Wq,List.drop_length,insU]at b;refine Gw2 @dF @ua ?_;intros;refine dcU zi5.eq_1 ?_;rw[b];have o:=λH=>zyy (H:=H) m
  have p:=λH=>zyP (H:=H) m
  have u:((l.map cI)++[[Xb .i64 n]]).take (l.length+1)=(l.map cI)++[[Xb .i64 n]]:=Ww (by simp);have v:((l.map cI)++[[Xb .i64 n]]).length=l.length+1:=by simp
  have w:((l.length:Int)-0).toNat=l.length:=by omega
  have x:((l.length:Int)-(l.length:Int)).toNat=l.length-l.length:=by omega
  refine Gw13 @dF @ua @zpL @zgJ o p @zH3 @zHB w x u v @zj6.eq_1 ?_;intros;have q:l.map cI++[[Xb .i64 n]]++(l.drop l.length).map cI=(l++[n]).map cI:=by simp
  have g:l.length+1+(l.length-l.length)=(l++[n]).length:=by simp
  rw[q,g];exact⟨_,zbv trivial rfl (by rw[<-g];omega),rfl⟩
theorem zCP{a b:List Int}{i:Nat}(h:i<b.length):ze5 a (b.take (i+1))=insU b[i] (ze5 a (b.take i)):=by unfold ze5;rw[WE,Wf h,List.foldl_append];rfl
theorem zp5{a}:∀{b:List Int},(ze5 a b).length<=a.length+b.length:=by
 intro b
 induction b generalizing a with
 |nil=>simp[ze5]
 |cons x b ih=>have c:=ih (a:=insU x a);have d:=zD6 (n:=x) (l:=a);show(ze5 (insU x a) b).length<=_;simp only[Wh];omega
theorem zI9{H H2}{σ}{D}{t}{r q g}{l m}(c:D r q)(e:H.get r q=some (.row 1 ((l++m).map cW) g))(d:l.length<=big):
  Vw H H2 σ D t (.own r q g 0 l.length) (encL 1 cW l):=by
 refine .frz t r q g 0 l.length 1 ((l++m).map cW) _ c e d (by simp) (λi j b h=>?_);obtain rfl:j=0:=by omega
 rw[WD,zk (show i<(l++m).length by simp;omega),zk b,WP b];exact .int _ _ _
theorem zAn{K l}{j}(h:K.length<=j)(b:j<l.length):((curI K l).map cW).getD j []=[.int .u32 l[j]]:=by simp[Wg,zD9 h b,cW]
theorem zH4{K l}{v}(h:K.length<l.length):((curI K l).map cW).set K.length [.int .u32 v]=(curI (K++[v]) l).map cW:=by rw[<-zE0 h,Wz];rfl
theorem zzL(l)(g)(hl:l.length<=100000000000):
  z7 Z9 zce [.own 0 0 g 0 l.length] [(0,.row 1 (l.map cW) g)] 1
   (λv H Z=>∃m,v=.own 0 0 g 0 (zbG l).length/\H=[(0,.row 1 ((zbG l++m).map cW) g)]/\Z=1):=by
 refine zS (fn_x ziC rfl ?_);refine dcU zdV.eq_1 ?_;have hB:=hBig;have s:∀K m,(∀j,j<l.length->zgi l j=true)->K=(4,Xm)->m=0->zbG l=l:=λK m h _ _=>by unfold zbG;rw[zp8 (Wa _) h,Wq]
 refine Gw0 ?_;intros;(refine zz (λh=>?_) (λh=>?_))<;>(try simp only[dcd]at h)
 ·(refine Gw1 @zaW.eq_1 ?_;intros)
  have b:∀j,j<l.length->zgi l j=true:=λj T=>by
   have:j=0:=by omega
   subst this;rfl
  have e:=s (4,.undef) 0 b rfl rfl;refine⟨.own 0 0 g 0 l.length,[(0,.row 1 ((l++[]).map cW) g)],1,?_,[],by rw[e],by rw[e],rfl⟩;rw[Wk];exact(Xa [(0,0,0)] [] rfl rfl rfl Qn Qn)
 refine Gw0 ?_;intros;refine zc (λi:Nat=>([(0,.own 0 0 g 0 l.length),(3,.int .i64 i)],[(0,.row 1 (l.map cW) g)])) 1 (λi=>1<=i/\i<=l.length/\∀j,j<i->zgi l j=true) (λi=>l.length-i) 1 ⟨by omega,by omega,λj T=>(by rw[show j=0 by omega];rfl)⟩ (Xa [(0,0,0)] [] rfl rfl rfl Qn Qn) ?_;intro i ⟨x,X,b⟩ wf;refine dcU zdp.eq_1 ?_;refine Gw0 ?_;intros;(refine zz (λP=>?_) (λP=>?_))<;>(try simp only[dcd]at P)
 .have n:i<l.length:=by omega
  have y:i-1<l.length:=by omega
  have U:((i:Int)-1).toNat=i-1:=by omega
  refine Gw4 (gmp n) U (gmp y) @cW.eq_1 ?_;intros;(refine zz (λQ=>?_) (λQ=>?_))<;>(try simp only[dcd]at Q)
  .have o:zgi l i=false:=by rw[zgl x n];simp;omega
   have J:zak l i=l.take i:=zp8 (by omega) b;have A:zak l (i+1)=l.take i:=by rw[zpi o,J]
   have k:(zak l (i+1)).length=i:=by rw[A,Wj];omega
   have c:curI (zak l (i+1)) l=l:=by rw[A,zAm (by omega)]
   have C:((l.length:Int)-i).toNat=l.length-i:=by omega
   refine Gw1 C ?_;intros
   refine zc (λa:Nat=>([(0,.own 0 0 g 0 l.length),(3,.int .i64 (zak l (i+a)).length),(4,.own 0 0 g i (l.length-i)),(5,.int .i64 a)],[(0,.row 1 ((curI (zak l (i+a)) l).map cW) g)])) 1
    (λa=>1<=a/\i+a<=l.length/\(zak l (i+a)).length<i+a) (λa=>l.length-(i+a)) 1 ⟨by omega,by omega,by omega⟩ (Xa [(0,0,0)] [] rfl rfl rfl (Gin2_2 c k) (Gin2_2 c k)) ?_
   intro a ⟨V,W,D⟩ wf;refine dcU zdv.eq_1 ?_;refine Gw0 ?_;intros;(refine zz (λR=>?_) (λR=>?_))<;>(try simp only[dcd]at R)
   .have d:i+a<l.length:=by omega
    have t:i+a-1<l.length:=by omega
    have M:i+((a:Int)-1).toNat=i+a-1:=by omega
    have N:=zAn (K:=zak l (i+a)) (l:=l) (by omega) d;have O:=zAn (K:=zak l (i+a)) (l:=l) (by omega) t;have u:=zu7 (K:=zak l (i+a)) (l:=l) (by omega);refine Gw3 M N O ?_;intros;(refine zz (λS=>?_) (λS=>?_))<;>(try simp only[dcd]at S)
    .have L:zgi l (i+a)=true:=by rw[zgl (by omega) d];simp;omega
     have q:=zpY d L;have B:=zH4 (K:=zak l (i+a)) (l:=l) (v:=l[i+a]) (by omega);rw[<-q]at B;have p:(zak l (i+a+1)).length=(zak l (i+a)).length+1:=by rw[q];simp
     refine Gw4 M N O B ?_;intros;exact⟨a+1,⟨by omega,by omega,by rw[show i+(a+1)=i+a+1 by omega,p];omega⟩,by omega,(Xa [(0,0,0)] [] rfl rfl rfl (Gin2_2 (show i+(a+1)=i+a+1 by omega) p) (Gin2_2 (show i+(a+1)=i+a+1 by omega) p))⟩
    .have L:zgi l (i+a)=false:=by rw[zgl (by omega) d];simp;omega
     have q:=zpi L;refine Gw0 ?_;intros;exact⟨a+1,⟨by omega,by omega,by rw[show i+(a+1)=i+a+1 by omega,q];omega⟩,by omega,(Xa [(0,0,0)] [] rfl rfl rfl (Gin2_2 (show i+(a+1)=i+a+1 by omega) q) (Gin2_2 (show i+(a+1)=i+a+1 by omega) q))⟩
   .have F:i+a=l.length:=by omega
    rw[F]at D⊢;have Y:((l.length:Int)-(zak l l.length).length).toNat=l.length-(zak l l.length).length:=by omega
    have u:=zu7 (K:=zak l l.length) (l:=l) (by omega);have w:((curI (zak l l.length) l).map cW).take (zak l l.length).length++Wl (l.length-(zak l l.length).length) [Xb .u32 0]++((curI (zak l l.length) l).map cW).drop ((zak l l.length).length+(l.length-(zak l l.length).length))=(zak l l.length++Wl (l.length-(zak l l.length).length) 0).map cW:=by rw[WR (by rw[Wd,u];omega),Wk,<-List.map_take,Wi,WS];congr 2;unfold curI;rw[WU (Wa _),Wq]
    refine dcU zdn.eq_1 ?_;refine Gw3 @zaW.eq_1 Y w ?_;intros;refine⟨.own 0 0 g 0 (zbG l).length,[(0,.row 1 ((zbG l++Wl (l.length-(zak l l.length).length) 0).map cW) g)],1,?_,_,rfl,rfl,rfl⟩;exact(Xa [(0,0,0)] [] rfl rfl rfl (Gin2_1 @zbG.eq_1) (Gin2_1 @zbG.eq_1))
  .have o:zgi l i=true:=by rw[zgl x n];simp;omega
   refine dcU zdo.eq_1 ?_;refine Gw0 ?_;intros;refine⟨i+1,⟨by omega,by omega,λj T=>?_⟩,by omega,(Xa [(0,0,0)] [] rfl rfl rfl Qn Qn)⟩;by_cases I:j=i
   .subst I;exact o
   .exact b j (by omega)
 .obtain rfl:i=l.length:=by omega
  unfold zdr;have e:=s (4,.undef) 0 b rfl rfl;refine Gw1 @zaW.eq_1 ?_;intros;refine⟨.own 0 0 g 0 l.length,[(0,.row 1 ((l++[]).map cW) g)],1,?_,[],by rw[e],by rw[e],rfl⟩;rw[Wk];exact(Xa [(0,0,0)] [] rfl rfl rfl Qn Qn)
end Go.Ab
