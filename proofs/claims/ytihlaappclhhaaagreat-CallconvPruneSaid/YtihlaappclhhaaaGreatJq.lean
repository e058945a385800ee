/-
  Part 17 of the proof: how the calls of this program run, over values instead of memory, and what each function computes.
-/
import Derived.KernelRfl
import Derived.Test.YtihlaappclhhaaaGreatJp
set_option maxRecDepth 100000
set_option linter.unusedVariables false
set_option linter.unusedSimpArgs false
set_option linter.unnecessarySimpa false
set_option linter.unusedSectionVars false
open Go.Ab.Bl renaming cells->Xa
open Go.Ab.Sgn renaming cells->Xb
open Nat renaming reduceBEq->Xc,reduceAdd->Xd,reduceLeDiff->Xe,reduceSub->Xh,reduceLT->Xi,not_lt_zero->Xp
open Go.Ab.St renaming cells->Xf
open Go.Ab.Ent renaming tab->Xg,tabB->Xl,foldB->Xq
open Go.Ab.AV renaming int->Xj,nilsl->Xm,ren->Xo
open Go.Ab.RowV renaming of_flat->Xk
open Classical renaming byContradiction->Xn
open Go.Proofs.Tryz renaming prog->Z9
open And renaming intro→Wa
open List renaming range→Wc,getElem_mem→Wd,getD→Wf,mem_range→Wg,ext_getElem→Wh,length_map→Wi,cons_append→Wl,nil_append→Wm,take_length→Wn,getElem_map→Wp,take_succ_eq_append_getElem→Wr,map_cons→Ws,replicate→Wt,getElem_range→Wu,map_congr_left→Wv,mem_map→Ww,range_succ→Wx,map_append→Wy,length_take→Wz,all_eq_true→WA,length_append→WB,all_append→WC,getElem_set→WD,length_set→WE,set_set→WF,filter_cons→WG,length_cons→WH,mem_cons_of_mem→WI,mem_iff_getElem→WJ,getElem_take→WK,any_eq_true→WL,drop_eq_getElem_cons→WM,filter_congr→WO,length_filter_le→WP,getElem?_set_self→WQ,getElem?_set_ne→WR,eq_nil_of_length_eq_zero→WS
open Nat renaming zero_le→We,le_refl→Wj,le_trans→Wk,lt_succ_self→Wo
open Int renaming toNat_natCast→Wq
open Bool renaming eq_false_iff→WN
namespace Go.Ab
open Go.RowKit Go.Proofs
theorem ztX{α:Type}{a b:List α}{i:Nat}(e:i<a.length)(g:i<b.length):a.take (i+1)=b.take (i+1)↔a.take i=b.take i/\a[i]=b[i]:=by
 rw[Wr e,Wr g];constructor
 .intro h;have c:=List.append_inj' h rfl;exact⟨c.1,by simpa using c.2⟩
 .rintro⟨d,c⟩;rw[d,c]
theorem zyc{α:Type}{a b:List α}{i:Nat}(c:i<a.length)(d:i<b.length)(h:a[i]≠b[i]):a≠b:=λe=>by subst e;exact h rfl
theorem Qar{b p:Prop}(a0:b)(h:b->p:=by intro a0;(try simp only[evWB,Nat.reduceBEq,Nat.reduceAdd,Nat.reduceSub,Nat.reduceLeDiff,Nat.reduceLT,implies_true,a0])<;>(repeat' with_reducible apply And.intro)<;>first|(exact zj;done)|exact fin6):p:=h a0
theorem zkW(a b)(s:a.length<=1000000)(t:b.length<=1000000):zw Z9 zbR [za a,za b] (·=.bool (decide (a=b))):=by
 refine fn_x znM rfl ?_;refine dcU zhE.eq_1 ?_;have q:=hBig;by_cases p:a.length=b.length;case neg=>rw[decide_eq_false (λe=>p (by rw[e]))];refine Gw3 @dT @ua @zcJ.eq_1 ?_;intros;exact bzO
 refine Gw2 @dF @ua ?_;intros;refine zc (λi:Nat=>([(0,za a),(1,za b),(12,.int .i64 a.length),(13,.int .i64 i)],[])) 0 (λi=>i<=a.length/\a.take i=b.take i) (λi=>a.length-i) 0 ⟨We _,rfl⟩ (Xg [] [] rfl (Qar @ua) (Qar @ua)) ?_;rintro i ⟨u,h⟩ wf;clear wf;refine dcU zfQ.eq_1 ?_;by_cases c:i<a.length
 case neg=>
  obtain rfl:i=a.length:=by omega
  rw[Wn]at h;rw[p,Wn]at h;rw[decide_eq_true h];refine Qa ?_;intros;unfold zfI;refine Gw1 @zcJ.eq_1 ?_;intros;exact bzO
 have d:i<b.length:=by omega
 have j:(a.map λn=>[Xj .i64 n]).getD i []=[.int .i64 a[i]]:=zk (f:=λn=>[Xj .i64 n]) c;have k:(b.map λn=>[Xj .i64 n]).getD i []=[.int .i64 b[i]]:=zk (f:=λn=>[Xj .i64 n]) d;have o:=ztX c d;have m:=zyc c d;generalize a[i]=x at j o m;generalize b[i]=y at k o m;by_cases g:x=y
 ·(refine Gw6 @dT @dF j k @ua @ud ?_;intros);exact⟨i+1,⟨c,o.2 ⟨h,g⟩⟩,by omega,(Xg [] [] rfl (Qar @ua) (Qar @ua))⟩
 .rw[decide_eq_false (m g)];refine Gw7 @dT @dF j k @ua @ud @zcJ.eq_1 ?_;intros;exact bzO
def eqS(a b:Sgn):Bool:=decide (a.args=b.args)&&(decide (a.res=b.res)&&decide (a.sav=b.sav))
structure SgnLe(n:Nat)(s:Sgn):Prop where
 args:s.args.length<=n
 res:s.res.length<=n
 sav:s.sav.length<=n
theorem zHR{a b}:eqS a b=true↔a=b:=by obtain⟨c,d,a3⟩:=a;obtain⟨b1,b2,e⟩:=b;unfold eqS;simp
theorem zs7(a b)(c:SgnLe 1000000 a)(d:SgnLe 1000000 b):zw Z9 zeI [.agg a.cells,.agg b.cells] (·=.bool (eqS a b)):=by
 refine fn_x ztI rfl ?_;unfold zmW eqS;conv in Z8 _ _=>reduce
 have m:=hBig;have e:=zkW a.args b.args c.args d.args;have g:=zkW a.res b.res c.res d.res;have h:=zkW a.sav b.sav c.sav d.sav;simp only[Xb];refine Gw3 @ub @zC @ua ?_;intros;refine zg (ze e rfl) ?_
 cases j:decide (a.args=b.args)with
 |false=>refine Gw4 @ub @zC @ua @zfG.eq_1 ?_;intros;exact bzO
 |true=>
  refine Gw3 @ub @zC @ua ?_;intros;refine zg (ze g rfl) ?_
  cases k:decide (a.res=b.res)with
  |false=>refine Gw4 @ub @zC @ua @zfG.eq_1 ?_;intros;exact bzO
  |true=>refine Gw3 @ub @zC @ua ?_;intros;refine zg (ze h rfl) ?_;refine Gw1 @zfG.eq_1 ?_;intros;exact bzO
def sgL(s:Sgn):List (List Int):=[s.args,s.res,s.sav]
def eqSL(l m:List Sgn):Bool:=decide (l.map sgL=m.map sgL)
theorem zvM:∀{l m:List Sgn},l.map sgL=m.map sgL->l=m
 |[],[],_=>rfl
 |[],_::_,h=>by cases h
 |_::_,[],h=>by cases h
 |
  ⟨b,c,a3⟩::l,⟨b1,b2,d⟩::m,h=>by
  simp only[Ws,sgL,List.cons.injEq,and_true]at h;obtain⟨⟨rfl,rfl,rfl⟩,h⟩:=h;rw[zvM h]
theorem zAb{l m}(h:l=m):eqSL l m=true:=decide_eq_true (by rw[h])
theorem zx2{l m}(h:l≠m):eqSL l m=false:=decide_eq_false (λe=>h (zvM e))
theorem zrM(l m)(C:l.length<=1000000)(D:m.length<=1000000)(v:∀s∈l,SgnLe 1000000 s)(w:∀s∈m,SgnLe 1000000 s):zw Z9 zD [encL 3 Xb l,encL 3 Xb m,.fn (.func zeI) []] (·=.bool (eqSL l m)):=by
 refine fn_x zan rfl ?_;refine dcU zP.eq_1 ?_;have A:=hBig;by_cases j:l.length=m.length;case neg=>rw[zx2 (λe=>j (by rw[e]))];refine Gw2 @dT @zr.eq_1 ?_;intros;exact bzO
 refine Qa ?_;intros;refine zc (λi:Nat=>([(1,encL 3 Xb m),(2,.fn (.func zeI) []),(15,encL 3 Xb l),(16,.int .i64 l.length),(17,.int .i64 i)],[])) 0 (λi=>i<=l.length/\l.take i=m.take i) (λi=>l.length-i) 0 ⟨We _,rfl⟩ (Xg [] [] rfl (by((try simp only[evWB,Xc,Xd,Xh,Xe,Xi,implies_true])<;>(repeat' with_reducible apply Wa)<;>first|(exact .fn _ _ _ _ rfl (λi a b h _=>by cases h);done)|exact fin6)) (by((try simp only[evWB,Xc,Xd,Xh,Xe,Xi,implies_true])<;>(repeat' with_reducible apply Wa)<;>first|(exact .fn _ _ _ _ rfl (λi a b h _=>by cases h);done)|exact fin6))) ?_;rintro i ⟨B,k⟩ wf;clear wf;refine dcU zN.eq_1 ?_;by_cases c:i<l.length
 case neg=>
  obtain rfl:i=l.length:=by omega
  rw[Wn]at k;rw[j,Wn]at k;rw[zAb k];refine Qa ?_;intros;unfold zO;refine Gw1 @zr.eq_1 ?_;intros;exact bzO
 have d:i<m.length:=by omega
 have q:(l.map Xb).getD i []=l[i].cells:=zk (f:=Xb) c;have t:(m.map Xb).getD i []=m[i].cells:=zk (f:=Xb) d;have p:=ztX c d;have n:=zyc c d;have o:=zs7 l[i] m[i] (v _ (Wd c)) (w _ (Wd d));generalize l[i]=x at q p n o;generalize m[i]=y at t p n o;have u:∀s:Sgn,s.cells.length=3:=λ_=>rfl
 have t3:∀s:Sgn,[s.cells.getD 0 .undef,s.cells.getD 1 .undef,s.cells.getD 2 .undef]=s.cells:=λ_=>rfl
 refine Gw7 @dT q t @ud @zC u t3 ?_;intros;refine⟨by kernel_rfl,zg (ze o rfl) ?_⟩
 cases g:eqS x y with
 |true=>refine Gw0 ?_;intros;exact⟨i+1,⟨c,p.2 ⟨k,zHR.1 g⟩⟩,by omega,(Xg [] [] rfl (by((try simp only[evWB,Xc,Xd,Xh,Xe,Xi,implies_true])<;>(repeat' with_reducible apply Wa)<;>first|(exact .fn _ _ _ _ rfl (λi a b h _=>by cases h);done)|exact fin6)) (by((try simp only[evWB,Xc,Xd,Xh,Xe,Xi,implies_true])<;>(repeat' with_reducible apply Wa)<;>first|(exact .fn _ _ _ _ rfl (λi a b h _=>by cases h);done)|exact fin6)))⟩
 |false=>rw[zx2 (n λe=>by rw[zHR.2 e]at g;cases g)];refine Gw1 @zr.eq_1 ?_;intros;exact bzO
def orI(a b:List Int)(v:Nat):Bool:=hasI a v||hasI b v
def andI(a b:List Int)(v:Nat):Bool:=hasI a v&&hasI b v
def zrQ(a b:Sgn):Sgn:=⟨svO (orI a.args b.args) 12,svO (orI a.res b.res) 12,svO (andI a.sav b.sav) 12⟩
def ztF(b:List G):List Int:=b.map (·.addr)
def zr3:List G->Int
 |[]=>0
 |g::l=>if zdJ g≠0 then zdJ g else zr3 l
def ownB(b:List Int)(k:Nat):Bool:=decide (idxV (idxA b (b.getD k 0))=(k:Int))
def errA(b:List G):Int:=if 64<b.length then 6 else if zr3 b≠0 then zr3 b else if (Wc b.length).all (ownB (ztF b))=true then(if b.all (λg=>resG g (ztF b))=true then 0 else 17)else 8
theorem zrn{α:Type}{p q}:∀{l:List α},(∀a∈l,p a=true->q a=true)->l.filter p=l.filter q\/(l.filter p).length<(l.filter q).length
 |[],_=>.inl rfl
 |
  a::l,h=>by
  have b:=zrn (l:=l) λx g=>h x (by simp[g])
  have c:=h a (by simp);rw[WG,WG]
  cases d:p a with
  |true=>
   rw[d]at c;rw[c rfl,if_pos rfl,if_pos rfl];rcases b with e|e
   .exact .inl (by rw[e])
   .exact .inr (by simp only[WH];omega)
  |false=>
   rw[if_neg (by decide)]
   cases j:q a with
   |true=>
    rw[if_pos rfl];rcases b with e|e
    .exact .inr (by rw[e];simp)
    .exact .inr (by simp only[WH];omega)
   |false=>rw[if_neg (by decide)];exact b
theorem zzY{f}{n v}(h:v<n):hasI (svO f n) v=f v:=by
 cases b:f v with
 |true=>exact znv (Ww.2 ⟨v,List.mem_filter.2 ⟨Wg.2 h,b⟩,rfl⟩)
 |false=>
  refine znu λc=>?_
  obtain⟨w,d,e⟩:=Ww.1 c;obtain rfl:w=v:=by omega
  rw[(List.mem_filter.1 d).2]at b;cases b
structure CanS(s:Sgn):Prop where
 args:∃f,s.args=svO f 12
 res:∃f,s.res=svO f 12
 sav:∃f,s.sav=svO f 12
theorem zEs(a b):CanS (zrQ a b):=⟨⟨_,rfl⟩,⟨_,rfl⟩,⟨_,rfl⟩⟩
theorem zxY{s}(h:CanS s):s.args.length<=12/\s.res.length<=12/\s.sav.length<=12:=by obtain⟨⟨f,b⟩,⟨g,c⟩,⟨k,d⟩⟩:=h;rw[b,c,d];exact⟨zvr,zvr,zvr⟩
def muS1(s:Sgn):Nat:=(12-s.args.length)+(12-s.res.length)+s.sav.length
theorem zH1{a}{f}(c:a=svO f 12)(b):svO (orI a b) 12=a\/a.length<(svO (orI a b) 12).length:=by
 have h:=zrn (p:=f) (q:=orI a b) (l:=Wc 12) λv j g=>by unfold orI;rw[c,zzY (Wg.1 j),g,Bool.true_or]
 rcases h with e|e
 .left;unfold svO;rw[<-e,c];rfl
 .right;have d:a.length=((Wc 12).filter f).length:=by rw[c];unfold svO;rw[Wi]
  rw[d];unfold svO;rw[Wi];exact e
theorem zB9{a}{f}(c:a=svO f 12)(b):svO (andI a b) 12=a\/(svO (andI a b) 12).length<a.length:=by
 have h:=zrn (p:=andI a b) (q:=f) (l:=Wc 12) λv j d=>by unfold andI at d;rw[c,zzY (Wg.1 j),Bool.and_eq_true]at d;exact d.1
 rcases h with e|e
 .left;unfold svO;rw[e,c];rfl
 .right;have g:a.length=((Wc 12).filter f).length:=by rw[c];unfold svO;rw[Wi]
  rw[g];unfold svO;rw[Wi];exact e
theorem zHN{o}(h:CanS o)(x):zrQ o x=o\/muS1 (zrQ o x)<muS1 o:=by
 have t:=zxY h;have e:=zxY (zEs o x);obtain⟨⟨f,p⟩,⟨g,n⟩,⟨k,j⟩⟩:=h;obtain⟨a,r,s⟩:=o;simp only at p n j t;rcases zH1 p x.args with d|d
 .rcases zH1 n x.res with c|c
  .rcases zB9 j x.sav with b|b
   .left;unfold zrQ;rw[d,c,b]
   .right;unfold zrQ at e⊢;unfold muS1;simp only at e d c b⊢;rw[d,c];omega
  .right
   have m:(svO (andI s x.sav) 12).length<=s.length:=by
    rcases zB9 j x.sav with b|b
    .rw[b];exact Wj _
    .omega
   unfold zrQ at e⊢;unfold muS1;simp only at e d c m⊢;rw[d];omega
 .right
  have q:r.length<=(svO (orI r x.res) 12).length:=by
   rcases zH1 n x.res with c|c
   .rw[c];exact Wj _
   .omega
  have m:(svO (andI s x.sav) 12).length<=s.length:=by
   rcases zB9 j x.sav with b|b
   .rw[b];exact Wj _
   .omega
  unfold zrQ at e⊢;unfold muS1;simp only at e d q m⊢;omega
def znP(c:List G)(b:List Int)(out:List Sgn):List Sgn:=(Wc c.length).map λk=>zrQ (out.getD k zbF) (sigG (c.getD k ⟨0,[]⟩) out b)
def zdO(n:Nat):List Sgn:=Wt n ⟨[],[],[0,1,2,3,4,5,6,7]⟩
def allF(c:List G)(b:List Int):Nat->List Sgn->List Sgn
 |0,out=>out
 |n+1,out=>if eqSL (znP c b out) out=true then out else allF c b n (znP c b out)
def muA(out:List Sgn):Nat:=(out.map muS1).sum
def CanA(n:Nat)(out:List Sgn):Prop:=out.length=n/\∀s∈out,CanS s
theorem zFs(n):CanA n (zdO n):=⟨by simp[zdO],λs b=>by
 rw[List.eq_of_mem_replicate b]
 exact⟨⟨λ_=>false,rfl⟩,⟨λ_=>false,rfl⟩,⟨λv=>decide (v<8),rfl⟩⟩⟩
theorem zBx{gl}{at'}{out}:CanA gl.length (znP gl at' out):=⟨by simp[znP],λs b=>by
 obtain⟨k,_,rfl⟩:=Ww.1 b
 exact zEs _ _⟩
theorem zLG:∀{n:Nat}{f f':Nat->Nat},(∀k,k<n->f' k<=f k)->((Wc n).map f').sum<=((Wc n).map f).sum/\((∃k,k<n/\f' k<f k)->((Wc n).map f').sum<((Wc n).map f).sum)
 |0,_,_,_=>⟨Wj _,λ⟨k,h,_⟩=>absurd h (Xp k)⟩
 |
  n+1,f,f',h=>by
  obtain⟨g,d⟩:=zLG (n:=n) (f:=f) (f':=f') λk e=>h k (by omega)
  have j:=h n (Wo n);rw[Wx,Wy,Wy,List.sum_append,List.sum_append];simp only[Ws,List.map_nil,List.sum_cons,List.sum_nil];refine⟨by omega,λ⟨k,e,c⟩=>?_⟩;by_cases b:k=n
  .subst b;omega
  .have:=d ⟨k,by omega,c⟩;omega
theorem ziL{α β:Type}{l:List α}{d:α}{f:α->β}:(Wc l.length).map (λk=>f (l.getD k d))=l.map f:=by
 apply Wh
 .simp
 .intro k e b;have c:k<l.length:=by simpa using b
  simp[Wf,c]
theorem zL2{b}{at'}{out}(h:CanA b.length out):znP b at' out=out\/muA (znP b at' out)<muA out:=by
 have m:∀k,k<b.length->CanS (out.getD k zbF):=λk m=>by
  have:k<out.length:=by rw[h.1];exact m
  have e:out.getD k zbF=out[k]:=by simp[Wf,this]
  rw[e];exact h.2 _ (Wd this)
 have p:muA out=((Wc b.length).map λk=>muS1 (out.getD k zbF)).sum:=by unfold muA;rw[<-h.1,ziL (l:=out) (d:=zbF) (f:=muS1)]
 have q:muA (znP b at' out)=((Wc b.length).map λk=>muS1 (zrQ (out.getD k zbF) (sigG (b.getD k ⟨0,[]⟩) out at'))).sum:=by unfold muA znP;rw[List.map_map];rfl
 have t:=zLG (n:=b.length) (f:=λk=>muS1 (out.getD k zbF)) (f':=λk=>muS1 (zrQ (out.getD k zbF) (sigG (b.getD k ⟨0,[]⟩) out at'))) λk c=>by
  rcases zHN (m k c) (sigG (b.getD k ⟨0,[]⟩) out at')with e|e
  .simp only[e];exact Wj _
  .exact Nat.le_of_lt e
 by_cases g:∀k,k<b.length->zrQ (out.getD k zbF) (sigG (b.getD k ⟨0,[]⟩) out at')=out.getD k zbF
 .left;unfold znP;have:((Wc b.length).map λk=>zrQ (out.getD k zbF) (sigG (b.getD k ⟨0,[]⟩) out at'))=(Wc b.length).map λk=>out.getD k zbF:=Wv λk o=>g k (Wg.1 o)
  rw[this,<-h.1];have:=ziL (l:=out) (d:=zbF) (f:=id);simpa using this
 .right;obtain⟨k,c,j⟩:∃k,k<b.length/\zrQ (out.getD k zbF) (sigG (b.getD k ⟨0,[]⟩) out at')≠out.getD k zbF:=Xn λs=>g λk c=>Xn λj=>s ⟨k,c,j⟩
  rw[p,q];refine t.2 ⟨k,c,?_⟩;rcases zHN (m k c) (sigG (b.getD k ⟨0,[]⟩) out at')with e|e
  .exact absurd e j
  .exact e
def allS(b:List G):List Sgn:=allF b (ztF b) (muA (zdO b.length)+1) (zdO b.length)
theorem zva:∀s:Sgn,zR s.cells=true:=λ_=>rfl
def allA(b:List G):AV:=if errA b≠0 then .tup [encL 3 Xb [],.int .i64 (errA b)]else .tup [encL 3 Xb (allS b),.int .i64 0]
theorem zwD:∀{c:List G},zr3 c=0->∀g∈c,zdJ g=0
 |[],_,g,h=>by cases h
 |
  x::c,h,g,d=>by
  rw[zr3]at h;by_cases b:zdJ x=0
  .rw[if_neg (λe=>e b)]at h;rcases List.mem_cons.1 d with rfl|d
   .exact b
   .exact zwD h g d
  .rw[if_pos b]at h;exact absurd h b
theorem zHl{b}(h:errA b=0):b.length<=64/\(∀g∈b,zdJ g=0)/\(Wc b.length).all (ownB (ztF b))=true/\b.all (λg=>resG g (ztF b))=true:=by
 unfold errA at h;split at h
 .cases h
 rename_i j;split at h
 .rename_i c;exact absurd h c
 rename_i c;split at h
 .rename_i d;split at h
  .rename_i e;exact⟨by omega,zwD (Xn c),d,e⟩
  .cases h
 .cases h
theorem zAD{H HH}{σ}{D}{t}{r q g n}{l}(e:l.length=n)(b:D r q)(d:H.get r q=some (.row 3 (l.map Xb) g))(c:n<=big):Vw H HH σ D t (.own r q g 0 n) (encL 3 Xb l):=by subst e;exact zhg b d c (λa h j k=>zcL (zfB rfl))
theorem retSL{H}{x}{l}{n}(e:Frz H x (encL 3 Xb l)):∃a,Frz H (.tup [x,.int .i64 n]) a/\a=.tup [encL 3 Xb l,.int .i64 n]:=⟨.tup [encL 3 Xb l,.int .i64 n],.tup _ _ _ rfl (λi a b c d=>match i with
  |0=>by cases c;cases d;exact e
  |1=>by cases c;cases d;exact .int _ _ _
  |i+2=>by cases c),rfl⟩
def cU(p:Int×Nat):List AV:=[.int .u32 p.1,.bool true,.int .i64 (p.2:Int)]
def zto(l:List Int):List (List AV):=[.int .i64 (l.length:Int),.undef,.undef]::l.zipIdx.map cU
theorem zcC{l}:zA (zto l):=zcx rfl (zK λ_=>rfl)
theorem zCE{a}:∀ {l:List (Int×Nat)}{i:Nat},(a∉l.map (·.1)->zdj (.int .u32 a) (l.map cU) i=some none)/\(a∈l.map (·.1)->∃j,zdj (.int .u32 a) (l.map cU) i=some (some (j,.bool true)))
 |[],i=>⟨λ_=>rfl,λh=>by cases h⟩
 |
  p::l,i=>by
  obtain⟨e,g⟩:=zCE (a:=a) (l:=l) (i:=i+1);by_cases h:a=p.1
  .refine⟨λc=>absurd (by simp[h]) c,λ_=>⟨i,?_⟩⟩;simp only[Ws,cU,zdj,ztt,if_true,decide_eq_true h]
  .have d:zdj (.int .u32 a) ((p::l).map cU) i=zdj (.int .u32 a) (l.map cU) (i+1):=by simp only[Ws,cU,zdj,ztt,if_true,decide_eq_false h]
   rw[d];refine⟨λc=>e λb=>c (WI _ b),λb=>g ?_⟩;rcases List.mem_cons.1 b with b|b
   .exact absurd b h
   .exact b
theorem zHa{l:List Int}:l.zipIdx.map (·.1)=l:=by simp
theorem zIE{l}{a}:(l++[a]).zipIdx.map cU=l.zipIdx.map cU++[[.int .u32 a,.bool true,.int .i64 (l.length:Int)]]:=by rw[List.zipIdx_append,Wy];simp[cU]
theorem zKx{at'}{i}(n:i<at'.length):ownB at' i = !decide (at'[i]∈at'.take i):=by
 unfold ownB;rw[show at'.getD i 0=at'[i] by simp[Wf,n]];generalize p:at'[i]=a
 cases o:idxA at' a with
 |none=>exfalso;have c:=List.findIdx?_eq_none_iff.1 o at'[i] (Wd n);rw[p]at c;simp at c
 |some k=>
  obtain⟨c,d,h⟩:=List.findIdx?_eq_some_iff_getElem.1 o;have d:=of_decide_eq_true d;have s:k<=i:=Xn λu=>by have:=h i (by omega);rw[p]at this;simp at this
  by_cases m:k=i
  .subst m;rw[decide_eq_true (show idxV (some k)=(k:Int)from rfl),decide_eq_false (λt=>?_)]
   .rfl
   .obtain⟨j,q,b⟩:=WJ.1 t;have g:j<k:=by rw[Wz]at q;omega
    have:=h j g;rw[WK]at b;rw[b]at this;simp at this
  .rw[decide_eq_false (show ¬idxV (some k)=(i:Int)from λe=>m (by have:(k:Int)=i:=e;omega)),decide_eq_true]
   .rfl
   .refine WJ.2 ⟨k,by rw[Wz];omega,?_⟩;rw[WK];exact d
theorem zEr{at'}{a}:(idxA at' a).isSome=decide (a∈at'):=by
 unfold idxA;rw[Bool.eq_iff_iff,List.findIdx?_isSome,WL,decide_eq_true_iff];constructor
 .rintro⟨x,b,c⟩;exact(of_decide_eq_true c)▸b
 .intro h;exact⟨a,h,decide_eq_true rfl⟩
theorem Qas{b p:Prop}(a0:b)(h:b->p:=by intro a0;(try simp only[evWB,Nat.reduceBEq,Nat.reduceAdd,Nat.reduceSub,Nat.reduceLeDiff,Nat.reduceLT,implies_true,a0])<;>(repeat' with_reducible apply And.intro)<;>first|(first|exact RowV.of_flat zcC;done)|exact fin6):p:=h a0
theorem zqy(c)(Z:∀g∈c,fewC g)(hl:c.length<=1000):zw Z9 zgA [encL 2 G.cells c] (·=.int .i64 (errA c)):=by
 refine fn_x zqd rfl ?_;unfold zjp errA;conv in Z8 _ _=>reduce
 have hB:=hBig;have L:(ztF c).length=c.length:=Wi _;have N:∀i (h:i<c.length) (h2:i<(ztF c).length),(ztF c)[i]=c[i].addr:=λi h h2=>Wp (l:=c) (λg:G=>g.addr)
 generalize ztF c=at' at L N⊢;have P:∀g:G,[g.cells.getD 0 .undef,g.cells.getD 1 .undef]=g.cells:=λ_=>rfl
 have J:∀g:G,g.cells.length=2:=λ_=>rfl
 have S:∀g:G,g.cells.getD 0 .undef=.int .u32 g.addr:=λ_=>rfl
 by_cases K:64<c.length
 .rw[if_pos K];refine Gw2 @dT @zbI.eq_1 ?_;intros;exact izO
 rw[if_neg K];refine Qa ?_;intros;generalize X:zr3 c=E;refine zc (λi:Nat=>([(0,encL 2 G.cells c),(16,encL 2 G.cells c),(17,.int .i64 c.length),(18,.int .i64 i)],[])) 0 (λi=>i<=c.length/\zr3 (c.drop i)=E) (λi=>c.length-i) 0 ⟨We _,X⟩ (Xg [] [] rfl (Qas @ua) (Qas @ua)) ?_;rintro i ⟨Y,k⟩ wf;clear wf X;refine dcU zho.eq_1 ?_;by_cases d:i<c.length
 case pos=>
  rw[WM d,zr3]at k;have u:(c.map G.cells).getD i []=c[i].cells:=zk (f:=G.cells) d;have e:=Z _ (Wd d);have w:=zmO c[i] (ztx e) (λb U s hs=>Wk (e.cases b U s hs) (by decide));generalize c[i]=g at u k w e;by_cases Q:zdJ g=0
  .rw[if_neg (λh=>h Q)]at k;rw[Q]at w;refine Gw6 @dT u P J @zC @ud ?_;intros;refine zg (ze w rfl) ?_;refine Qa ?_;intros;exact⟨i+1,⟨d,k⟩,by omega,(Xg [] [] rfl (Qas @ua) (Qas @ua))⟩
  .rw[if_pos Q]at k;subst k;rw[if_pos Q];refine Gw6 @dT u P J @zC @ud ?_;intros;refine zg (ze w rfl) ?_;refine Gw2 @dT @zbI.eq_1 ?_;intros;exact izO
 obtain rfl:i=c.length:=by omega
 rw[List.drop_of_length_le (Wj _),zr3]at k;rw[<-k,if_neg (λh=>h rfl)];clear k;refine Qa ?_;intros;refine dcU zhx.eq_1 ?_;refine Gw0 ?_;intros;refine zc (λi:Nat=>([(0,encL 2 G.cells c),(6,.mp 0 0),(29,encL 2 G.cells c),(30,.int .i64 c.length),(31,.int .i64 i)],[(0,.row 3 (zto (at'.take i)) 0)])) 1 (λi=>i<=c.length/\(Wc i).all (ownB at')=true) (λi=>c.length-i) 0 ⟨We _,rfl⟩ (by rw[show zto (at'.take 0)=[[.int .i64 0,.undef,.undef]]from rfl];exact(Xg [(0,0,0)] [] rfl (Qas @ua) (Qas @ua))) ?_;rintro i ⟨Y,k⟩ wf;clear wf;refine dcU zhO.eq_1 ?_;by_cases d:i<c.length
 case pos=>
  have H:i<at'.length:=by omega
  have u:(c.map G.cells).getD i []=c[i].cells:=zk (f:=G.cells) d;have p:=zKx H;have n:at'.take (i+1)=at'.take i++[at'[i]]:=Wr H;rw[N i d H]at p n;have R:=S c[i];generalize c[i]=g at u p R n;have m:=zCE (a:=g.addr) (l:=(at'.take i).zipIdx) (i:=0);rw[zHa]at m;have W:=zIE (l:=at'.take i) (a:=g.addr);have htl:(at'.take i).length=i:=by rw[Wz];omega
  by_cases y:g.addr∈at'.take i
  .rw[decide_eq_true y]at p;obtain⟨j,F⟩:=m.2 y
   rw[if_neg (λh=>by
    have:=WA.1 h i (Wg.2 d);rw[p]at this
    cases this)]
   refine Gw11 @dT u R P J @zC @ub @ud @zto.eq_1 F @zbI.eq_1 ?_;intros;exact izO
  .rw[decide_eq_false y]at p;have F:=m.1 y;refine Gw10 @dT u R P J @zC @ub @ud @zto.eq_1 F ?_;intros;have C:zto (at'.take (i+1))=[.int .i64 (((at'.take i).length:Int)+1),.undef,.undef]::((at'.take i).zipIdx.map cU++[[.int .u32 g.addr,.bool true,.int .i64 ((at'.take i).length:Int)]]):=by rw[n];unfold zto;rw[W,WB];rfl
   refine⟨i+1,⟨d,by rw[Wx,WC,k];simp[p]⟩,by omega,?_⟩;unfold zto at C;rw[C];exact(Xg [(0,0,0)] [] rfl (Qas @ua) (Qas @ua))
 obtain rfl:i=c.length:=by omega
 rw[if_pos k];rw[show at'.take c.length=at' by rw[<-L,Wn]];clear k;refine Qa ?_;intros;refine dcU zhV.eq_1 ?_;refine Gw0 ?_;intros;refine zc (λi:Nat=>([(6,.mp 0 0),(43,encL 2 G.cells c),(44,.int .i64 c.length),(45,.int .i64 i)],[(0,.row 3 (zto at') 0)])) 1 (λi=>i<=c.length/\(c.take i).all (λg=>resG g at')=true) (λi=>c.length-i) 0 ⟨We _,rfl⟩ (Xg [(0,0,0)] [] rfl (Qas @ua) (Qas @ua)) ?_;rintro i ⟨Y,k⟩ wf;clear wf;refine dcU zhC.eq_1 ?_;by_cases d:i<c.length
 case neg=>
  obtain rfl:i=c.length:=by omega
  rw[Wn]at k;rw[if_pos k];refine Qa ?_;intros;unfold zhD;refine Gw1 @zbI.eq_1 ?_;intros;exact izO
 have u:(c.map G.cells).getD i []=c[i].cells:=zk (f:=G.cells) d;have e:=Z _ (Wd d);have v:=znc c[i] (Wk (zDm e) (by decide)) (Wk e.blocks (by decide)) (λb U=>Wk (e.stmts b U) (by decide));have t:=zys (g:=c[i]) (at':=at');have M:=zxZ e;have n:(c.take (i+1)).all (λg=>resG g at')=resG c[i] at':=by rw[Wr d,WC,k];simp
 have B:c[i]∈c:=Wd d;have A:resG c[i] at'=false->¬c.all (λg=>resG g at')=true:=λV h=>by have:=WA.1 h c[i] B;rw[V]at this;cases this
 rw[show zbG (zfF (tgB c[i].blocks))=zsK c[i]from rfl]at v;clear e;generalize c[i]=g at u v t M n B A;generalize zsK g=o at v t M;refine Gw6 @dT u P J @zC @ud ?_;intros;refine zg (ze v rfl) ?_;refine Gw0 ?_;intros;refine zc (λj:Nat=>([(6,.mp 0 0),(43,encL 2 G.cells c),(44,.int .i64 c.length),(45,.int .i64 i),(50,encL 1 cW o),(51,.int .i64 o.length),(52,.int .i64 j)],[(0,.row 3 (zto at') 0)])) 1 (λj=>j<=o.length/\(o.take j).all (λa=>(idxA at' a).isSome)=true) (λj=>o.length-j) 0 ⟨We _,rfl⟩ (Xg [(0,0,0)] [] rfl (Qas @ua) (Qas @ua)) ?_;rintro j ⟨hj,D⟩ wf;clear wf;refine dcU zhk.eq_1 ?_;by_cases x:j<o.length
 case neg=>
  obtain rfl:j=o.length:=by omega
  rw[Wn,<-t]at D;rw[D]at n;refine Qa ?_;intros;refine dcU zhl.eq_1 ?_;refine Gw0 ?_;intros;exact⟨i+1,⟨d,n⟩,by omega,(Xg [(0,0,0)] [] rfl (Qas @ua) (Qas @ua))⟩
 have T:(o.map cW).getD j []=[.int .u32 o[j]]:=zk (f:=cW) x;have I:(o.take (j+1)).all (λa=>(idxA at' a).isSome)=(idxA at' o[j]).isSome:=by rw[Wr x,WC,D];simp
 have O:o[j]∈o:=Wd x;generalize o[j]=a at T I O;have m:=zCE (a:=a) (l:=at'.zipIdx) (i:=0);rw[zHa]at m;by_cases y:a∈at'
 .rw[zEr,decide_eq_true y]at I;obtain⟨q,F⟩:=m.2 y;refine Gw4 @dT T @zto.eq_1 F ?_;intros;rw[show[Xj .i64 (at'.length:Int),.undef,.undef]::at'.zipIdx.map cU=zto at' from rfl];exact⟨j+1,⟨x,I⟩,by omega,(Xg [(0,0,0)] [] rfl (Qas @ua) (Qas @ua))⟩
 .have F:=m.1 y;have V:resG g at'=false:=WN.2 λh=>by rw[h]at t;have:=WA.1 t.symm a O;rw[zEr,decide_eq_false y]at this;cases this
  rw[if_neg (A V)];refine Gw5 @dT T @zto.eq_1 F @zbI.eq_1 ?_;intros;exact izO
theorem unL_or{a b}:unL a b=svO (orI a b) 12:=by
 unfold unL svO;congr 1;refine WO λv _=>?_
 unfold orI;rw[Bool.eq_iff_iff,decide_eq_true_iff,Bool.or_eq_true]
 have h:∀l:List Int,hasI l v=true↔(v:Int)∈l:=λl=>by
  by_cases c:(v:Int)∈l
  .rw[znv c];simp[c]
  .rw[znu c];simp[c]
 rw[h,h]
theorem zM1{a b}{f}(c:a=svO f 12):cmL a b=svO (andI a b) 12:=by
 have e:(Wc 12).filter (andI a b)=((Wc 12).filter f).filter λ(v:Nat)=>hasI b (v:Int):=by
  rw[List.filter_filter];refine WO λv d=>?_
  unfold andI;rw[c,zzY (Wg.1 d),Bool.and_comm]
 unfold cmL;conv=>lhs;rw[c]
 unfold svO;rw[e,List.filter_map];rfl
def ptS(N:List Sgn)(n k:Nat):List (List AV):=(Wc n).map λj=>if j<k then(N.getD j zbF).cells else[.nilsl,.nilsl,.nilsl]
theorem zgG{N}{n k}:zA (ptS N n k):=zK λj=>by split<;>rfl
theorem zIJ{N}{n k}:(ptS N n k).length=n:=by simp[ptS]
theorem zLr{N}{n k}(e:k<n):(ptS N n k).set k (N.getD k zbF).cells=ptS N n (k+1):=by
 apply Wh
 .simp[ptS]
 .intro j c d;rw[WD];simp only[ptS,Wp,Wu];by_cases h:k=j
  .subst h;rw[if_pos rfl,if_pos (by omega)]
  .rw[if_neg h];by_cases b:j<k
   .rw[if_pos b,if_pos (by omega)]
   .rw[if_neg b,if_neg (by omega)]
theorem zHL{N}{n}(h:N.length=n):ptS N n n=N.map Xb:=by subst h;unfold ptS;rw[<-ziL (l:=N) (d:=zbF) (f:=Xb)];exact Wv λj b=>if_pos (Wg.1 b)
theorem Qat{b p:Prop}(a0:b)(h:b->p:=by intro a0;(try simp only[evWB,Nat.reduceBEq,Nat.reduceAdd,Nat.reduceSub,Nat.reduceLeDiff,Nat.reduceLT,implies_true,a0])<;>(repeat' with_reducible apply And.intro)<;>first|(first|exact zb|exact RowV.of_flat zgG;done)|exact fin6):p:=h a0
theorem pal_l3(b)(d)(out)(X:b.length<=1000)(T:∀g∈b,fewC g)(F:∀g∈b,zdJ g=0)(W:d.length=b.length)(x:CanA b.length out)(c)(es)(Z:TabS out d es){Q}(w:Q .normal [(0,encL 2 G.cells b),(5,encL 1 cW d),(6,encL 3 Xb out),(10,.mp 0 0),(11,.own 1 0 0 0 b.length),(61,encL 2 G.cells b),(62,.int .i64 b.length),(63,.int .i64 b.length),(64,.bool false)] [(0,.row 3 (tabM c es) 0),(1,.row 3 ((znP b d out).map Xb) 0)] 2){K}{H}{nx}(m:Ent 0 K H nx [(0,encL 2 G.cells b),(5,encL 1 cW d),(6,encL 3 Xb out),(10,.mp 0 0),(11,.own 1 0 0 0 b.length),(61,encL 2 G.cells b),(62,.int .i64 b.length),(63,.int .i64 (0:Nat))] [(0,.row 3 (tabM c es) 0),(1,.row 3 (ptS (znP b d out) b.length 0) 0)] 2) :
  znL Z9 0 zh0 (zdB 6 Q) K H nx:=by
 have hB:=hBig;have C:(znP b d out).length=b.length:=zBx.1;have B:∀k (h:k<b.length),(znP b d out).getD k zbF=zrQ (out.getD k zbF) (sigG b[k] out d):=λk h=>by unfold znP;simp[Wf,h]
 generalize znP b d out=N at C B w m;have Y:=x.1
 have D:∀a,SgnLe 12 (zaJ out d a):=λa=>by
  unfold zaJ
  cases idxA d a with
  |none=>exact⟨We _,We _,We _⟩
  |some k=>
   simp only;by_cases O:k<out.length
   .have e:out.getD k zbF=out[k]:=by simp[Wf,O]
    rw[e];have:=zxY (x.2 _ (Wd O));exact⟨this.1,this.2.1,this.2.2⟩
   .have e:out.getD k zbF=zbF:=by simp[Wf,O]
    rw[e];exact⟨We _,We _,We _⟩
 refine zc (λk:Nat=>([(0,encL 2 G.cells b),(5,encL 1 cW d),(6,encL 3 Xb out),(10,.mp 0 0),(11,.own 1 0 0 0 b.length),(61,encL 2 G.cells b),(62,.int .i64 b.length),(63,.int .i64 k)],[(0,.row 3 (tabM c es) 0),(1,.row 3 (ptS N b.length k) 0)])) 2 (λk=>k<=b.length) (λk=>b.length-k) 0 (We _) m ?_;clear m;rintro k O wf;clear wf;refine dcU zh0.eq_1 ?_;by_cases s:k<b.length
 case neg=>
  obtain rfl:k=b.length:=by omega
  rw[zHL C];refine Qa ?_;intros;exact w
 have t:k<out.length:=by omega
 have S:(b.map G.cells).getD k []=b[k].cells:=zk (f:=G.cells) s;have go:(out.map Xb).getD k []=(out.getD k zbF).cells:=by rw[zk (f:=Xb) t];simp[Wf,t]
 have j:b[k]∈b:=Wd s;have p:=zBj (T _ j) (F _ j);have u:=zrb b[k] (T _ j) p.1 p.2 (zvw (F _ j)) out d c es Z (λa=>Wk (D a).args (by decide)) (λa=>Wk (D a).res (by decide))
 have y:CanS (out.getD k zbF):=by
  have e:out.getD k zbF=out[k]:=by simp[Wf,t]
  rw[e];exact x.2 _ (Wd t)
 have q:=B k s;have v:=zLr (N:=N) (n:=b.length) s;have A:(sigG b[k] out d).args.length<=12/\(sigG b[k] out d).res.length<=12:=⟨by unfold sigG;rw[Wi];exact Wk (WP _ _) (by simp),by unfold sigG;rw[Wi];exact Wk (WP _ _) (by simp)⟩;clear p;generalize b[k]=g at S u q A;generalize sigG g out d=sg at u q A;generalize out.getD k zbF=o at go y q;rw[q]at v;have P:=zxY y;obtain⟨oa,R,os⟩:=o;obtain⟨sa,sr,ss⟩:=sg;simp only at P A;have J:=zne oa sa (by rw[WB];omega);have L:=zne R sr (by rw[WB];omega);have M:=zsB os ss (by omega);obtain⟨fs,I⟩:=y.sav;simp only at I;rw[unL_or]at J L;rw[zM1 I]at M;have t2:[g.cells.getD 0 .undef,g.cells.getD 1 .undef]=g.cells:=rfl;have V:g.cells.length=2:=rfl;have U:∀l:List AV,(AV.agg l).cells=l:=λ_=>rfl
 have s0:∀l:List AV,(AV.agg l).solid=true:=λ_=>rfl
 simp only[Xb,zrQ]at go u v;refine Gw6 @dT S t2 V @zC @ud ?_;intros;refine zx [(0,0,0)] 1 _ u rfl rfl (Qat @ua) (Qat @ua) ?_;rintro _ _ _ ⟨rfl,rfl,rfl⟩
 (repeat first|simp(disch:=try exact dis1) only[evD,Xc,Xd,Xe,zdP,Xo,Ws,List.map_nil,renE,U,s0,go,zC,Wq,za]|with_reducible first|intro _|refine aJ ?_)
 refine zF (ze J rfl) ?_;refine Gw4 go @zC @ud @ua ?_;intros;refine zF (ze L rfl) ?_;refine Gw4 go @zC @ud @ua ?_;intros;refine zF (ze M rfl) ?_;simp only[za]at v;refine Gw6 go @zC @ud @ua @zIJ v ?_;intros;exact⟨k+1,by omega,by omega,(Xg [(0,0,0),(1,1,0)] [] rfl (Qat @ua) (Qat @ua))⟩
theorem Qau{p:Prop}(h:p:=by(try simp only[evWB,Nat.reduceBEq,Nat.reduceAdd,Nat.reduceSub,Nat.reduceLeDiff,Nat.reduceLT,implies_true])<;>(repeat' with_reducible apply And.intro)<;>first|(first|exact zb|exact RowV.of_flat zgG;done)|exact fin6):p:=h
theorem pal_k6(gl)(at')(F:gl.length<=1000)(P:∀g∈gl,fewC g)(C:∀g∈gl,zdJ g=0)(B:at'.length=gl.length){Q}{K}{H}{nx}(q:∀c y,(allF gl at' (muA (zdO gl.length)+1) (zdO gl.length)).length=gl.length->Q .ret [(64,.bool false),(2,.own 1 0 0 0 gl.length),(3,.int .i64 0)] [(0,.row 3 (tabM c y) 0),(1,.row 3 ((allF gl at' (muA (zdO gl.length)+1) (zdO gl.length)).map Xb) 0)] 2)(p:Ent 0 K H nx [(0,encL 2 G.cells gl),(5,encL 1 cW at'),(6,encL 3 Xb (zdO gl.length))] [] 0) :
  znL Z9 0 zh8 (zdB 4 Q) K H nx:=by
 have Y:=hBig;generalize M:allF gl at' (muA (zdO gl.length)+1) (zdO gl.length)=R at q;refine zc (λs:List Sgn=>([(0,encL 2 G.cells gl),(5,encL 1 cW at'),(6,encL 3 Xb s)],[])) 0 (λs=>CanA gl.length s/\∃m,muA s<m/\allF gl at' m s=R) (λs=>muA s) (zdO gl.length) ⟨zFs _,_,Wo _,M⟩ p ?_;clear p M;rintro out ⟨o,m,S,d⟩ wf;clear wf;obtain⟨m,rfl⟩:∃V,m=V+1:=⟨m-1,by omega⟩;rw[allF]at d;have v:=zL2 (at':=at') o;have j:=zBx (gl:=gl) (at':=at') (out:=out);have T:=o.1;have L:∀s∈out,SgnLe 1000000 s:=λs h=>by have:=zxY (o.2 s h);exact⟨by omega,by omega,by omega⟩
 refine dcU zh8.eq_1 ?_;refine Gw0 ?_;intros;refine zx [] 0 _ (zdS out at' (by omega) (by omega)) rfl rfl Qau Qau ?_;rintro _ _ _ ⟨rfl,rfl,c,y,rfl,U⟩;have O:((gl.length:Nat):Int).toNat=gl.length:=Wq _
 have w:Wt gl.length [Xm,.nilsl,.nilsl]=ptS (znP gl at' out) gl.length 0:=by
  apply Wh
  .simp[ptS]
  .intro k W X;simp[ptS]
 (repeat first|simp(disch:=try exact dis1) only[evD,Xc,Xd,Xe,zdP,Xo,O,w]|with_reducible first|intro _|refine aJ ?_)
 (repeat' with_reducible apply Wa)
 all_goals try omega
 refine pal_l3 gl at' out F P C B o c y U ?_ (Xg [(0,0,0),(1,1,0)] [] rfl (Qat @ua) (Qat @ua));have x:∀s∈znP gl at' out,SgnLe 1000000 s:=λs h=>by have:=zxY (j.2 s h);exact⟨by omega,by omega,by omega⟩
 have heq:=zrM (znP gl at' out) out (by rw[j.1];omega) (by omega) x L;generalize znP gl at' out=N at d v j x heq⊢;have n:=j.1;refine Gw0 ?_;intros;unfold zl6;refine Gw0 ?_;intros;refine zg (zaH (D:=allR) heq (.cons (zAD n trivial rfl (by omega)) (.cons (zM rfl) (.cons (.fn _ _ _ _ rfl λi a b h _=>by cases h) .nil))) (.inl rfl)) ?_;by_cases t:eqSL N out=true
 .rw[if_pos t]at d;have A:N=out:=zvM (of_decide_eq_true t);refine Gw1 t ?_;intros;have u:N=R:=by rw[A];exact d
  rw[u];exact q c y (by rw[<-u];exact n)
 .rw[if_neg t]at d;have J:eqSL N out=false:=WN.2 t
  have I:muA N<muA out:=by
   rcases v with e|e
   .exact absurd (zAb e) t
   .exact e
  refine Gw1 J ?_;intros;exact⟨N,⟨j,m,by omega,d⟩,I,(Xg [] [1] rfl (by((try simp only[evWB,Xc,Xd,Xh,Xe,Xi,implies_true,za])<;>(repeat' with_reducible apply Wa)<;>first|(exact zAD n rfl rfl (by omega);done)|exact fin6)) (by((try simp only[evWB,Xc,Xd,Xh,Xe,Xi,implies_true,za])<;>(repeat' with_reducible apply Wa)<;>first|(exact zAD n rfl rfl (by omega);done)|exact fin6)))⟩
def atI(b:List G)(i:Nat):List (List AV):=(Wc b.length).map λj=>if j<i then[.int .u32 (b.getD j ⟨0,[]⟩).addr]else[.int .u32 0]
theorem zpM{gl}{i}:zA (atI gl i):=zK λj=>by split<;>rfl
theorem at_len{gl}{i}:(atI gl i).length=gl.length:=by simp[atI]
theorem at_set{gl}{k}(e:k<gl.length):(atI gl k).set k [.int .u32 (gl.getD k ⟨0,[]⟩).addr]=atI gl (k+1):=by
 apply Wh
 .simp[atI]
 .intro j c d;rw[WD];simp only[atI,Wp,Wu];by_cases h:k=j
  .subst h;rw[if_pos rfl,if_pos (by omega)]
  .rw[if_neg h];by_cases b:j<k
   .rw[if_pos b,if_pos (by omega)]
   .rw[if_neg b,if_neg (by omega)]
theorem zL4{gl}:atI gl gl.length=(ztF gl).map cW:=by unfold atI ztF;rw[List.map_map,<-ziL (l:=gl) (d:=⟨0,[]⟩) (f:=cW ∘ λg:G=>g.addr)];exact Wv λj b=>if_pos (Wg.1 b)
theorem zdE{H HH}{σ}{D}{A}(q:zA A){i}{c c'}(u:c.length=c'.length)(s:∀(j:Nat)(x y:AV),c[j]?=some x->c'[j]?=some y->Vw H HH σ D true x y):RowV H HH σ D (A.set i c) (A.set i c'):=by
 have t:RowV H HH σ D A A:=Xk q;refine⟨by simp,λk n b=>?_⟩;by_cases h:k=i
 .subst h;have d:k<A.length:=by obtain⟨g,_⟩:=List.getElem?_eq_some_iff.1 b;simpa using g
  rw[WQ d]at b;cases b;exact⟨c,WQ d,u.symm,s⟩
 .rw[WR (λe=>h e.symm)]at b;obtain⟨m,g,o,p⟩:=t.2 k n b;exact⟨m,by rw[WR (λe=>h e.symm)];exact g,o,p⟩
theorem zwl{P:List (List AV)}{i:Nat}{c:List AV}(h:i<P.length):(P.set i c).getD i []=c:=by simp[Wf,h]
theorem zCt{H HH}{σ}{D}{q γ n:Nat}(d:σ q 0=some (q,0,0)){j:Nat}{x y}(b:[Xm,.nilsl,.own q 0 γ 0 n][j]?=some x)(c:[Xm,.nilsl,.own q 0 γ 0 n][j]?=some y):Vw H HH σ D true x y:=by
 match j with
 |0=>cases b;cases c;exact .nilsl _
 |1=>cases b;cases c;exact .nilsl _
 |2=>cases b;cases c;exact .own _ _ _ 0 _ _ _ _ _ d rfl
 |j+3=>cases b
theorem zy9{H HH}{σ}{D}{q:Nat}(e:σ q 0=none)(d:HH.get q 0=some (.row 1 [] 0)){j:Nat}{x y}(b:[Xm,.nilsl,.nilsl][j]?=some x)(c:[Xm,.nilsl,.own q 0 0 0 0][j]?=some y):Vw H HH σ D true x y:=by
 match j with
 |0=>cases b;cases c;exact .nilsl _
 |1=>cases b;cases c;exact .nilsl _
 |2=>cases b;cases c;exact .new _ _ _ e d
 |j+3=>cases b
theorem zKe{H HH}{σ}{D}{q γ:Nat}(d:D q 0)(e:H.get q 0=some (.row 1 ((Wc 8).map λ(v:Nat)=>[Xj .i64 (v:Int)]) γ)){j:Nat}{x y}(b:[Xm,.nilsl,.own q 0 γ 0 8][j]?=some x)(c:(Xb ⟨[],[],[0,1,2,3,4,5,6,7]⟩)[j]?=some y):Vw H HH σ D true x y:=by
 match j with
 |0=>cases b;cases c;exact zj
 |1=>cases b;cases c;exact zj
 |2=>cases b;cases c;exact zbv (l:=[0,1,2,3,4,5,6,7]) d e (by decide)
 |j+3=>cases b
theorem vwWL{H HH}{σ}{D}{t}{r q g n}{l}(e:l.length=n)(b:D r q)(d:H.get r q=some (.row 1 (l.map cW) g))(c:n<=big):Vw H HH σ D t (.own r q g 0 n) (encL 1 cW l):=by subst e;exact zhg b d c (λa h j k=>zcL (zfB rfl))
theorem zvf(b)(C:b.length<=1000)(W:∀g∈b,fewC g):zw Z9 zmj [encL 2 G.cells b] (·=allA b):=by
 refine fn_x zv7 rfl ?_;unfold zoV allA allS;conv in Z8 _ _=>reduce
 have hB:=hBig;have B:=zqy b W C;have p:=λ(h:errA b=0)=>(zHl h).2.1
 have s:(ztF b).length=b.length:=Wi _;generalize errA b=Z at B p⊢;refine Gw0 ?_;intros;refine zg (ze B rfl) ?_;by_cases L:Z=0;case neg=>rw[if_pos L];refine Gw2 @dT @zkQ.eq_1 ?_;intros;exact retSL (zAD (l:=[]) rfl trivial rfl (by decide))
 rw[if_neg (λh=>h L)];have p:=p L;have Y:((b.length:Nat):Int).toNat=b.length:=Wq _
 have S:Wt b.length [Xj .u32 0]=atI b 0:=by
  apply Wh
  .simp[atI]
  .intro k d e;simp[atI]
 have T:Wt b.length [Xm,.nilsl,.nilsl]=ptS (zdO b.length) b.length 0:=by
  apply Wh
  .simp[ptS]
  .intro k d e;simp[ptS]
 refine Gw4 @dF Y S T ?_;intros
 (repeat' with_reducible apply Wa)
 all_goals try omega
 refine zc (λi:Nat=>([(0,encL 2 G.cells b),(5,.own 0 0 0 0 b.length),(6,.own 1 0 0 0 b.length),(26,encL 2 G.cells b),(27,.int .i64 b.length),(28,.int .i64 i)],[(0,.row 1 (atI b i) 0),(1,.row 3 (ptS (zdO b.length) b.length i) 0)])) 2 (λi=>i<=b.length) (λi=>b.length-i) 0 (We _) (Xg [(0,1,0),(1,2,0)] [] rfl (by((try simp only[evWB,Xc,Xd,Xh,Xe,Xi,implies_true,za])<;>(repeat' with_reducible apply Wa)<;>first|(first|exact zdE zgG rfl (λj x y d e=>zy9 rfl rfl d e)|exact zdE zgG rfl (λj x y d e=>zCt rfl d e)|exact Xk zpM|exact Xk zgG;done)|exact fin6)) (by((try simp only[evWB,Xc,Xd,Xh,Xe,Xi,implies_true,za])<;>(repeat' with_reducible apply Wa)<;>first|(first|exact zdE zgG rfl (λj x y d e=>zy9 rfl rfl d e)|exact zdE zgG rfl (λj x y d e=>zCt rfl d e)|exact Xk zpM|exact Xk zgG;done)|exact fin6))) ?_;rintro i hi wf;clear wf;refine dcU zlu.eq_1 ?_;by_cases m:i<b.length
 case pos=>
  have gi:(b.map G.cells).getD i []=b[i].cells:=zk (f:=G.cells) m;have Q:b.getD i ⟨0,[]⟩=b[i]:=by simp[Wf,m]
  have A:=at_set m;rw[Q]at A;have t:=zLr (N:=zdO b.length) (n:=b.length) m;have V:(zdO b.length).getD i zbF=⟨[],[],[0,1,2,3,4,5,6,7]⟩:=by simp[zdO,Wf,m]
  rw[V]at t
  have o:(ptS (zdO b.length) b.length i).set i [.nilsl,.nilsl,.nilsl]=ptS (zdO b.length) b.length i:=by
   have hl:i<(ptS (zdO b.length) b.length i).length:=by rw[zIJ];exact m
   have he:(ptS (zdO b.length) b.length i)[i]=[.nilsl,.nilsl,.nilsl]:=by simp[ptS]
   rw[<-he];exact List.set_getElem_self hl
  have q:=zgG (N:=zdO b.length) (n:=b.length) (k:=i);have F:=zIJ (N:=zdO b.length) (n:=b.length) (k:=i);generalize ptS (zdO b.length) b.length i=P at t o q F⊢;have I:∀ {H HH:AH}{σ:Nat->Nat->Option (Nat×Nat×Nat)}{D:Nat->Nat->Prop},σ 2 0=none->HH.get 2 0=some (.row 1 [] 0)->RowV H HH σ D P (P.set i [.nilsl,.nilsl,.own 2 0 0 0 0]):=λ{H HH σ D} d e=>by have:=zdE (H:=H) (HH:=HH) (σ:=σ) (D:=D) q (i:=i) (c:=[.nilsl,.nilsl,.nilsl]) (c':=[.nilsl,.nilsl,.own 2 0 0 0 0]) rfl (λj x y u w=>zy9 d e u w);rw[o]at this;exact this
  have J:∀ {H HH:AH}{σ:Nat->Nat->Option (Nat×Nat×Nat)}{D:Nat->Nat->Prop}{γ:Nat},D 2 0->H.get 2 0=some (.row 1 ((Wc 8).map λ(v:Nat)=>[Xj .i64 (v:Int)]) γ)->RowV H HH σ D (P.set i [.nilsl,.nilsl,.own 2 0 γ 0 8]) (ptS (zdO b.length) b.length (i+1)):=λd e=>by rw[<-t];exact zdE q rfl (λj x y u w=>zKe d e u w)
  have K:∀ {H HH:AH}{σ:Nat->Nat->Option (Nat×Nat×Nat)}{D:Nat->Nat->Prop}{γ n:Nat},σ 2 0=some (2,0,0)->RowV H HH σ D (P.set i [.nilsl,.nilsl,.own 2 0 γ 0 n]) (P.set i [.nilsl,.nilsl,.own 2 0 γ 0 n]):=λd=>zdE q rfl (λj x y u w=>zCt d u w)
  have U:=λc:List AV=>(zwl (P:=P) (i:=i) (c:=c) (by omega))
  have t2:[b[i].cells.getD 0 .undef,b[i].cells.getD 1 .undef]=b[i].cells:=rfl;have X:b[i].cells.length=2:=rfl;have ga:b[i].cells.getD 0 .undef=.int .u32 b[i].addr:=rfl;refine Gw10 @dT gi ga t2 X @zC @ub @at_len @ud A ?_;intros;refine zc (λr:Nat=>([(0,encL 2 G.cells b),(5,.own 0 0 0 0 b.length),(6,.own 1 0 0 0 b.length),(26,encL 2 G.cells b),(27,.int .i64 b.length),(28,.int .i64 i),(7,.int .i64 i),(38,.int .i64 r)],[(0,.row 1 (atI b (i+1)) 0),(1,.row 3 (P.set i [.nilsl,.nilsl,.own 2 0 r 0 r]) 0),(2,.row 1 ((Wc r).map λ(v:Nat)=>[Xj .i64 (v:Int)]) r)])) 3 (λr=>r<=8) (λr=>8-r) 0 (We _) ?_ ?_
  .exact(Xg [(0,0,0),(1,1,0)] [] rfl (by((try simp only[evWB,Xc,Xd,Xh,Xe,Xi,implies_true,za])<;>(repeat' with_reducible apply Wa)<;>first|(first|exact I rfl rfl|exact Xk zpM|exact znS;done)|exact fin6)) (by((try simp only[evWB,Xc,Xd,Xh,Xe,Xi,implies_true,za])<;>(repeat' with_reducible apply Wa)<;>first|(first|exact I rfl rfl|exact Xk zpM|exact znS;done)|exact fin6)))
  rintro r hr wf;clear wf;refine dcU zl9.eq_1 ?_;by_cases hr8:r<8
  .have hS:((Wc r).map λ(v:Nat)=>[Xj .i64 (v:Int)]).take r=(Wc r).map λ(v:Nat)=>[Xj .i64 (v:Int)]:=List.take_of_length_le (by simp)
   have M:((Wc r).map λ(v:Nat)=>[Xj .i64 (v:Int)])++[[Xj .i64 (r:Int)]]=(Wc (r+1)).map λ(v:Nat)=>[Xj .i64 (v:Int)]:=by rw[Wx];simp
   have O:((Wc r).map λ(v:Nat)=>[Xj .i64 (v:Int)]).length=r:=by simp
   (repeat first|simp(disch:=try exact dis1) only[evD,Xc,Xd,Xe,dT,U,WE,F,Wq,WF,hS,M,O]|with_reducible first|intro _|refine aJ ?_)
   refine⟨r+1,by omega,by omega,(Xg [(0,0,0),(1,1,0),(2,2,0)] [] rfl (by((try simp only[evWB,Xc,Xd,Xh,Xe,Xi,implies_true,za])<;>(repeat' with_reducible apply Wa)<;>first|(first|exact K rfl|exact Xk zpM;done)|exact fin6)) (by((try simp only[evWB,Xc,Xd,Xh,Xe,Xi,implies_true,za])<;>(repeat' with_reducible apply Wa)<;>first|(first|exact K rfl|exact Xk zpM;done)|exact fin6)))⟩
  .obtain rfl:r=8:=by omega
   refine Qa ?_;intros;refine dcU zlv.eq_1 ?_;refine Gw0 ?_;intros;exact⟨i+1,by omega,by omega,(Xg [(0,0,0),(1,1,0)] [2] rfl (by((try simp only[evWB,Xc,Xd,Xh,Xe,Xi,implies_true,za])<;>(repeat' with_reducible apply Wa)<;>first|(first|exact J rfl rfl|exact Xk zpM;done)|exact fin6)) (by((try simp only[evWB,Xc,Xd,Xh,Xe,Xi,implies_true,za])<;>(repeat' with_reducible apply Wa)<;>first|(first|exact J rfl rfl|exact Xk zpM;done)|exact fin6)))⟩
 obtain rfl:i=b.length:=by omega
 refine Qa ?_;intros;unfold zlY;refine Gw0 ?_;intros;rw[zL4,zHL (by simp[zdO])];refine pal_k6 b (ztF b) C W p s (λc es R=>?_) ?_
 ·(refine Gw1 @zkQ.eq_1 ?_;intros);exact retSL (zAD R trivial rfl (by omega))
 .exact(Xg [] [0,1] rfl (by((try simp only[evWB,Xc,Xd,Xh,Xe,Xi,implies_true,za])<;>(repeat' with_reducible apply Wa)<;>first|(first|exact zAD (by simp[zdO]) rfl rfl (by omega)|exact vwWL s rfl rfl (by omega);done)|exact fin6)) (by((try simp only[evWB,Xc,Xd,Xh,Xe,Xi,implies_true,za])<;>(repeat' with_reducible apply Wa)<;>first|(first|exact zAD (by simp[zdO]) rfl rfl (by omega)|exact vwWL s rfl rfl (by omega);done)|exact fin6)))
theorem zao{l:List Bl}:zA (l.map Xa):=zK λ_=>rfl
theorem Qav{p:Prop}(h:p:=by(try simp only[evWB,Nat.reduceBEq,Nat.reduceAdd,Nat.reduceSub,Nat.reduceLeDiff,Nat.reduceLT,implies_true])<;>(repeat' with_reducible apply And.intro)<;>first|(exact RowV.of_flat zkZ;done)|exact fin6):p:=h
theorem zHQ(l)(j:l.length<=100000000):z7 Z9 zbM [encL 8 Xf l] [] 0 (λv H g=>v=.own 0 0 0 0 l.length/\H=[(0,.row 8 (l.map Xf) 0)]/\g=1):=by
 refine zS (fn_x zhS rfl ?_);refine dcU zdI.eq_1 ?_;have h:=hBig;have c:∀H,zec 8 (encL 8 Xf l) H=some (l.map Xf):=λH=>zfD λ_ _=>rfl
 refine Gw1 @zpo ?_;intros
 cases d:(l.length == 0)with
 |true=>
  have e:l=[]:=WS (by simpa using d);subst e;refine Gw0 ?_;intros;rename_i b;cases b
  ·(refine Gw2 c @zaP.eq_1 ?_;intros);exact⟨.own 0 0 0 0 0,[(0,.row 8 [] 0)],1,(Xg [(0,1,1)] [] rfl Qn Qn),rfl,rfl,rfl⟩
  ·(refine Gw1 @zaP.eq_1 ?_;intros);exact⟨.own 0 0 0 0 0,[(0,.row 8 [] 0)],1,(Xg [(0,1,0)] [] rfl Qn Qn),rfl,rfl,rfl⟩
 |false=>refine Gw2 c @zaP.eq_1 ?_;intros;exact⟨.own 0 0 0 0 l.length,[(0,.row 8 (l.map Xf) 0)],1,(Xg [(0,1,1)] [] rfl Qav Qav),rfl,rfl,rfl⟩
theorem Qaw{p:Prop}(h:p:=by(try simp only[evWB,Nat.reduceBEq,Nat.reduceAdd,Nat.reduceSub,Nat.reduceLeDiff,Nat.reduceLT,implies_true])<;>(repeat' with_reducible apply And.intro)<;>first|(exact RowV.of_flat zao;done)|exact fin6):p:=h
theorem zGn(l)(j:l.length<=100000000):z7 Z9 zbw [encL 2 Xa l] [] 0 (λv H g=>v=.own 0 0 0 0 l.length/\H=[(0,.row 2 (l.map Xa) 0)]/\g=1):=by
 refine zS (fn_x zgI rfl ?_);refine dcU zdk.eq_1 ?_;have h:=hBig;have c:∀H,zec 2 (encL 2 Xa l) H=some (l.map Xa):=λH=>zfD λ_ _=>rfl
 refine Gw1 @zpo ?_;intros
 cases d:(l.length == 0)with
 |true=>
  have e:l=[]:=WS (by simpa using d);subst e;refine Gw0 ?_;intros;rename_i b;cases b
  ·(refine Gw2 c @zaB.eq_1 ?_;intros);exact⟨.own 0 0 0 0 0,[(0,.row 2 [] 0)],1,(Xg [(0,1,1)] [] rfl Qn Qn),rfl,rfl,rfl⟩
  ·(refine Gw1 @zaB.eq_1 ?_;intros);exact⟨.own 0 0 0 0 0,[(0,.row 2 [] 0)],1,(Xg [(0,1,0)] [] rfl Qn Qn),rfl,rfl,rfl⟩
 |false=>refine Gw2 c @zaB.eq_1 ?_;intros;exact⟨.own 0 0 0 0 l.length,[(0,.row 2 (l.map Xa) 0)],1,(Xg [(0,1,1)] [] rfl Qaw Qaw),rfl,rfl,rfl⟩
theorem renS8{ρ:Nat->Nat}{l:List St}{g:Nat}:AObj.ren ρ (.row 8 (l.map Xf) g)=.row 8 (l.map Xf) g:=renS
theorem zFJ{ρ:Nat->Nat}{l:List Bl}{g:Nat}:AObj.ren ρ (.row 2 (l.map Xa) g)=.row 2 (l.map Xa) g:=by simp only[AObj.ren];rw[zgm zao]
def ownS(s:St):List AV:=[.int .i64 s.op,.int .i64 s.var,.int .i64 s.width,.int .i64 s.next,.int .i64 s.els,.int .u32 s.tgt,.own 4 0 0 0 s.e.length,.own 5 0 0 0 s.cases.length]
theorem _root_.Go.Ab.RowV.trans_eq{H HH}{σ}{D}{a b c}(h:RowV H HH σ D a b)(e:b=c):RowV H HH σ D a c:=e▸h
theorem bl_vw{H HH}{σ}{D}{r g:Nat}{ba:Int}{l}(d:D r 0)(h:H.get r 0=some (.row 8 (l.map Xf) g))(e:l.length<=big)(j:Nat)(x y)(b:[Xj .u32 ba,.own r 0 g 0 l.length][j]?=some x)(c:[Xj .u32 ba,encL 8 Xf l][j]?=some y):Vw H HH σ D true x y :=
 match j with
 |0=>by cases b;cases c;exact .int _ _ _
 |1=>by cases b;cases c;exact zfP d h e
 |j+2=>by cases b
theorem st_vw{H HH}{σ}{D}{s}(d:D 4 0)(g:D 5 0)(h:H.get 4 0=some (.row 5 (s.e.map encX) 0))(k:H.get 5 0=some (.row 1 (s.cases.map cI) 0))(m:s.e.length<=big)(n:s.cases.length<=big)(j:Nat)(x y)(b:(ownS s)[j]?=some x)(c:s.cells[j]?=some y):Vw H HH σ D true x y :=
 match j with
 |0=>by cases b;cases c;exact .int _ _ _
 |1=>by cases b;cases c;exact .int _ _ _
 |2=>by cases b;cases c;exact .int _ _ _
 |3=>by cases b;cases c;exact .int _ _ _
 |4=>by cases b;cases c;exact .int _ _ _
 |5=>by cases b;cases c;exact .int _ _ _
 |6=>by cases b;cases c;exact zLz d h m
 |7=>by cases b;cases c;exact zbv g k n
 |j+8=>by cases b
theorem zEB{H HH}{σ}{D}{s}(d:σ 4 0=some (4,0,0))(e:σ 5 0=some (5,0,0))(j:Nat)(x y)(b:(ownS s)[j]?=some x)(c:(ownS s)[j]?=some y):Vw H HH σ D true x y :=
 match j with
 |0=>by cases b;cases c;exact .int _ _ _
 |1=>by cases b;cases c;exact .int _ _ _
 |2=>by cases b;cases c;exact .int _ _ _
 |3=>by cases b;cases c;exact .int _ _ _
 |4=>by cases b;cases c;exact .int _ _ _
 |5=>by cases b;cases c;exact .int _ _ _
 |6=>by cases b;cases c;exact .own 4 0 0 0 0 _ 4 0 0 d rfl
 |7=>by cases b;cases c;exact .own 5 0 0 0 0 _ 5 0 0 e rfl
 |j+8=>by cases b
theorem Qax{p:Prop}(h:p:=by(try simp only[evWB,Nat.reduceBEq,Nat.reduceAdd,Nat.reduceSub,Nat.reduceLeDiff,Nat.reduceLT,implies_true])<;>(repeat' with_reducible apply And.intro)<;>first|(first|exact RowV.of_flat zao|exact RowV.of_flat zkZ;done)|exact fin6):p:=h
theorem Qay{p:Prop}(h:p:=by(try simp only[evWB,Nat.reduceBEq,Nat.reduceAdd,Nat.reduceSub,Nat.reduceLeDiff,Nat.reduceLT,implies_true])<;>(repeat' with_reducible apply And.intro)<;>first|(first|exact RowV.of_flat zao|exact RowV.of_flat zkZ|exact RowV.of_flat zdT;done)|exact fin6):p:=h
theorem Qaz{p:Prop}(h:p:=by(try simp only[evWB,Nat.reduceBEq,Nat.reduceAdd,Nat.reduceSub,Nat.reduceLeDiff,Nat.reduceLT,implies_true])<;>(repeat' with_reducible apply And.intro)<;>first|(first|exact RowV.of_flat zao|exact RowV.of_flat zdT|exact zdE zkZ rfl (zEB rfl rfl);done)|exact fin6):p:=h
theorem zoQ(g)(hb:g.blocks.length<=1000)(Z:∀b∈g.blocks,b.stmts.length<=100000/\∀s∈b.stmts,zZ s.e<=10000/\s.cases.length<=100000):z7 Z9 zf1 [.agg (G.cells g)] [] 0
  (λv H nx=>v=.agg [.int .u32 g.addr,.own 0 0 0 0 g.blocks.length]/\H=[(0,.row 2 (g.blocks.map Xa) 0)]/\nx=1):=by
 refine zS (fn_x zpq rfl ?_);refine dcU zi1.eq_1 ?_;have hB:=hBig;obtain⟨F,p⟩:=g;simp only[G.cells]at hb Z⊢;refine Gw2 @ub @dT ?_;intros;refine zx [] 0 _ (zGn p (by omega)) rfl rfl Qaw Qaw ?_;rintro _ _ _ ⟨rfl,rfl,rfl⟩;refine Gw1 @zFJ ?_;intros;refine zc (λk:Nat=>([(1,.ptr 0 0 0 0 0),(2,.ptr 1 0 0 0 0),(13,.int .i64 p.length),(14,.int .i64 k)],[(0,.row 2 [[.int .u32 F,.own 2 0 0 0 p.length]] 0),(1,.row 2 [[.int .u32 0,.nilsl]] 0),(2,.row 2 (p.map Xa) 0)])) 3 (λk=>k<=p.length) (λk=>p.length-k) 0 (by omega) (Xl [(0,0,0),(1,1,0),(2,2,0)] [] rfl rfl rfl Qaw Qaw) ?_;intro k hk wf;refine dcU zg4.eq_1 ?_;by_cases I:k<p.length
 .have B:(p.map Xa).getD k []=p[k].cells:=zk (f:=Xa) (d:=[]) I;obtain⟨S,K⟩:=Z _ (Wd I);have y:=zlI (f:=Xa) I;generalize p[k]=b at B S K y;obtain⟨ba,l⟩:=b;simp only[Xa]at B S K y;refine Gw4 @dT B @ub @zC ?_;intros;refine zx [] 0 _ (zHQ l (by omega)) rfl rfl Qax Qax ?_;rintro _ _ _ ⟨rfl,rfl,rfl⟩;refine Gw1 @renS8 ?_;intros;refine zc (λi:Nat=>([(1,.ptr 0 0 0 0 0),(2,.ptr 1 0 0 0 0),(3,.int .i64 k),(4,.own 3 0 0 0 l.length),(13,.int .i64 p.length),(14,.int .i64 k),(25,.int .i64 l.length),(26,.int .i64 i)],[(0,.row 2 [[.int .u32 F,.own 2 0 0 0 p.length]] 0),(1,.row 2 [[.int .u32 0,.nilsl]] 0),(2,.row 2 (p.map Xa) 0),(3,.row 8 (l.map Xf) 0)])) 4 (λi=>i<=l.length) (λi=>l.length-i) 0 (by omega) (Xl [(0,0,0),(1,1,0),(2,2,0),(3,3,0)] [] rfl rfl rfl Qax Qax) ?_;intro i hi wf;refine dcU zgZ.eq_1 ?_;by_cases C:i<l.length
  .have u:(l.map Xf).getD i []=l[i].cells:=zk (f:=Xf) (d:=[]) C;obtain⟨T,R⟩:=K _ (Wd C);have t:=zlI (f:=Xf) C;generalize l[i]=s at u T R t;obtain⟨op,var,j,next,m,o,e,q⟩:=s;simp only[Xf]at u T R t;have hel:e.length<=10000:=by have:=zpU e;omega
   refine Gw4 @dT u @ub @zC ?_;intros;refine zx [] 0 _ (zBO e (by omega)) rfl rfl Qay Qay ?_;rintro _ _ _ ⟨rfl,rfl,rfl⟩;have P:i<(l.map Xf).length:=by rw[Wi];exact C
   have Q:splice [.int .i64 op,.int .i64 var,.int .i64 j,.int .i64 next,.int .i64 m,.int .u32 o,encL 5 encX e,za q] 6 [.own 4 0 0 0 e.length]=[.int .i64 op,.int .i64 var,.int .i64 j,.int .i64 next,.int .i64 m,.int .u32 o,.own 4 0 0 0 e.length,za q]:=rfl;have M:((l.map Xf).set i [.int .i64 op,.int .i64 var,.int .i64 j,.int .i64 next,.int .i64 m,.int .u32 o,.own 4 0 0 0 e.length,za q]).getD i []=[.int .i64 op,.int .i64 var,.int .i64 j,.int .i64 next,.int .i64 m,.int .u32 o,.own 4 0 0 0 e.length,za q]:=zwl P;have Y:splice [.int .i64 op,.int .i64 var,.int .i64 j,.int .i64 next,.int .i64 m,.int .u32 o,.own 4 0 0 0 e.length,za q] 7 [.own 5 0 0 0 q.length]=ownS ⟨op,var,j,next,m,o,e,q⟩:=rfl;have N:((l.map Xf).set i (ownS ⟨op,var,j,next,m,o,e,q⟩)).getD i []=ownS ⟨op,var,j,next,m,o,e,q⟩:=zwl P;have L:(ownS ⟨op,var,j,next,m,o,e,q⟩).getD 6 .undef=.own 4 0 0 0 e.length:=rfl
   (repeat first|simp(disch:=try exact dis1) only[evD,Xc,Xd,Xe,renX,renI,u,Q,M,WE,WF]|with_reducible first|intro _|refine aJ ?_)
   refine zx [] 0 _ (zBW q (by omega)) rfl rfl Qay Qay ?_;rintro _ _ _ ⟨rfl,rfl,rfl⟩
   (repeat first|simp(disch:=try exact dis1) only[evD,Xc,Xd,Xe,renX,renI,u,Q,M,Y,N,L,WE,WF]|with_reducible first|intro _|refine aJ ?_)
   refine zc (λn:Nat=>([(1,.ptr 0 0 0 0 0),(2,.ptr 1 0 0 0 0),(3,.int .i64 k),(4,.own 3 0 0 0 l.length),(5,.int .i64 i),(13,.int .i64 p.length),(14,.int .i64 k),(25,.int .i64 l.length),(26,.int .i64 i),(54,.int .i64 e.length),(55,.int .i64 n)],[(0,.row 2 [[.int .u32 F,.own 2 0 0 0 p.length]] 0),(1,.row 2 [[.int .u32 0,.nilsl]] 0),(2,.row 2 (p.map Xa) 0),(3,.row 8 ((l.map Xf).set i (ownS ⟨op,var,j,next,m,o,e,q⟩)) 0),(4,.row 5 (e.map encX) 0),(5,.row 1 (q.map cI) 0)])) 6 (λn=>n<=e.length) (λn=>e.length-n) 0 (by omega) (Xl [(0,0,0),(1,1,0),(2,2,0),(3,3,0),(4,4,0),(5,5,0)] [] rfl rfl rfl Qaz Qaz) ?_;intro n hn wf;refine dcU zgU.eq_1 ?_;by_cases J:n<e.length
   .have O:(e.map encX).getD n []=encX e[n]:=zk (f:=encX) (d:=[]) J;have hx:=zqo _ e[n] (Wj _) (by have:=zd7 (Wd J);omega);have A:=zlI (f:=encX) J;generalize e[n]=x at O hx A;refine Gw9 @dT N L O @zam @zab @ub @zC @m9S ?_;intros;refine zF (ze hx (flX rfl)) ?_;refine Gw5 @dT @zam @zab @ub @zC ?_;intros;rw[A];exact⟨n+1,by omega,by omega,(Xl [(0,0,0),(1,1,0),(2,2,0),(3,3,0),(4,4,0),(5,5,0)] [] rfl rfl rfl Qaz Qaz)⟩
   ·(refine Qa ?_;intros);refine dcU zgV.eq_1 ?_;refine Gw0 ?_;intros;have V:e.length<=big:=by omega
    have U:q.length<=big:=by omega
    have w:∀HH,RowV [(0,.row 2 [[.int .u32 F,.own 2 0 0 0 p.length]] 0),(1,.row 2 [[.int .u32 0,.nilsl]] 0),(2,.row 2 (p.map Xa) 0),(3,.row 8 ((l.map Xf).set i (ownS ⟨op,var,j,next,m,o,e,q⟩)) 0),(4,.row 5 (e.map encX) 0),(5,.row 1 (q.map cI) 0)]
     HH (Tab.sig [(0,0,0),(1,1,0),(2,2,0),(3,3,0)]) (inD [4,5]) ((l.map Xf).set i (ownS ⟨op,var,j,next,m,o,e,q⟩)) (l.map Xf):=λHH=>by
     have h:=zdE (H:=[(0,.row 2 [[.int .u32 F,.own 2 0 0 0 p.length]] 0),(1,.row 2 [[.int .u32 0,.nilsl]] 0),(2,.row 2 (p.map Xa) 0),(3,.row 8 ((l.map Xf).set i (ownS ⟨op,var,j,next,m,o,e,q⟩)) 0),(4,.row 5 (e.map encX) 0),(5,.row 1 (q.map cI) 0)]) (HH:=HH) (σ:=Tab.sig [(0,0,0),(1,1,0),(2,2,0),(3,3,0)]) (D:=inD [4,5]) (i:=i) (c:=ownS ⟨op,var,j,next,m,o,e,q⟩) (c':=Xf ⟨op,var,j,next,m,o,e,q⟩) (zkZ (l:=l)) rfl (st_vw (s:=⟨op,var,j,next,m,o,e,q⟩) rfl rfl rfl rfl V U);exact h.trans_eq t
    refine⟨i+1,by omega,by omega,?_⟩;exact(Xl [(0,0,0),(1,1,0),(2,2,0),(3,3,0)] [4,5] rfl rfl rfl (by((try simp only[evWB,Xc,Xd,Xh,Xe,Xi,implies_true])<;>(repeat' with_reducible apply Wa)<;>first|(first|exact Xk zao|exact w _;done)|exact fin6)) (by((try simp only[evWB,Xc,Xd,Xh,Xe,Xi,implies_true])<;>(repeat' with_reducible apply Wa)<;>first|(first|exact Xk zao|exact w _;done)|exact fin6)))
  ·(refine Qa ?_;intros);refine dcU zgS.eq_1 ?_;refine Gw3 @zC @ub B ?_;intros;unfold zgW;refine Gw0 ?_;intros;have X:(p.map Xa).set k [.int .u32 ba,encL 8 Xf l]=p.map Xa:=y;have W:l.length<=big:=by omega
   have w:∀HH,RowV [(0,.row 2 [[.int .u32 F,.own 2 0 0 0 p.length]] 0),(1,.row 2 [[.int .u32 0,.nilsl]] 0),(2,.row 2 ((p.map Xa).set k [.int .u32 ba,.own 3 0 0 0 l.length]) 0),(3,.row 8 (l.map Xf) 0)] HH (Tab.sig [(0,0,0),(1,1,0),(2,2,0)]) (inD [3]) ((p.map Xa).set k [.int .u32 ba,.own 3 0 0 0 l.length]) (p.map Xa):=λHH=>by have h:=zdE (H:=[(0,.row 2 [[.int .u32 F,.own 2 0 0 0 p.length]] 0),(1,.row 2 [[.int .u32 0,.nilsl]] 0),(2,.row 2 ((p.map Xa).set k [.int .u32 ba,.own 3 0 0 0 l.length]) 0),(3,.row 8 (l.map Xf) 0)]) (HH:=HH) (σ:=Tab.sig [(0,0,0),(1,1,0),(2,2,0)]) (D:=inD [3]) (i:=k) (c:=[.int .u32 ba,.own 3 0 0 0 l.length]) (c':=[.int .u32 ba,encL 8 Xf l]) (zao (l:=p)) rfl (bl_vw (ba:=ba) rfl rfl W);exact h.trans_eq X
   refine⟨k+1,by omega,by omega,?_⟩;exact(Xl [(0,0,0),(1,1,0),(2,2,0)] [3] rfl rfl rfl (by((try simp only[evWB,Xc,Xd,Xh,Xe,Xi,implies_true])<;>(repeat' with_reducible apply Wa)<;>first|(exact w _;done)|exact fin6)) (by((try simp only[evWB,Xc,Xd,Xh,Xe,Xi,implies_true])<;>(repeat' with_reducible apply Wa)<;>first|(exact w _;done)|exact fin6)))
 ·(refine Qa ?_;intros);refine dcU zgT.eq_1 ?_;refine Gw3 @zC @ub @ziR.eq_1 ?_;intros;exact⟨.agg [.int .u32 F,.own 0 0 0 0 p.length],[(0,.row 2 (p.map Xa) 0)],1,(Xg [(0,2,0)] [] rfl Qaw Qaw),rfl,rfl,rfl⟩
def zm6:ACode:=Z8 0x19096056c100000150106c231330002c41072118181ac015011061132c25133000416c051c047c017c32413 [zem,zes]
theorem ztr:zL Z9 zck (qRo [5])=some (zm6.strip,zgn,71):=by kernel_rfl
theorem zDb{H HH}{σ}{D}{ad}{n}(h:σ 1 0=some (1,0,0)):RowV H HH σ D [[.int .u32 ad,.own 1 0 0 0 n]] [[.int .u32 ad,.own 1 0 0 0 n]]:=by
 refine⟨rfl,λi e c=>⟨e,c,rfl,λj x y b d=>?_⟩⟩;rw[b]at d;cases d
 match i,c with
 |i+1,c=>cases c
 |0,c=>
  cases c
  match j,b with
  |0,b=>cases b;exact .int _ _ _
  |1,b=>cases b;exact .own 1 0 0 0 0 _ 1 0 0 h rfl
  |j+2,b=>cases b
abbrev T6:Tab:=[(0,0,0),(1,1,0),(2,2,0),(3,3,0),(4,4,0),(5,5,0)]
def lvHO(d:Int)(b:List Bl)(n:Nat)(S:Nat->MS)(c:Int)(e:List TE):AH:=[(0,.row 3 (tabM c e) 0),(1,.row 2 (b.map Xa) 0),(2,.row 2 [[.int .u32 d,.own 1 0 0 0 b.length]] 0),(3,.row 1 [[.mp 0 0]] 0),(4,.row 1 (mps 5 n) 0),(5,famS n S)]
def lvKO(c:Int)(d:List Bl)(exit:List Int)(n:Nat)(b:Bool):Kn:=[(3,.ptr 2 0 0 0 0),(4,.ptr 3 0 0 0 0),(5,.iptr 1 λj=>[za exit].getD j .undef),(7,.own 4 0 0 0 n),(9,.bool b)]
theorem zC7{K K2}{H}{nx n k}{ad}{bl}{c}{es}{S}{b}(d:H.get 0 0=some (.row 3 (tabM c es) 0))(m:H.get 1 0=some (.row 2 (bl.map Xa) 0))(o:H.get 2 0=some (.row 2 [[.int .u32 ad,.own 1 0 0 0 bl.length]] 0))(e:H.get 3 0=some (.row 1 [[.mp 0 0]] 0))(g:H.get 4 0=some (.row 1 ((mps 5 n).set k [.mp 6 0]) 0))(h:H.look 5=some (famS n S))(j:H.get 6 0=some (.row 3 ((setM b.1 b.2).map cm) 0))(q:zv6 H (lvHO ad bl n (updF S k b) c es) (fsig T6 [(5,k+1,6)]) K2 K):Ent 2 K H nx K2 (lvHO ad bl n (updF S k b) c es) 6 :=
 Xq T6 [(5,k+1,6)] rfl rfl rfl rfl rfl ⟨rfl,⟨_,d,zb⟩,rfl,⟨_,m,Xk zao⟩,rfl,⟨_,o,zDb rfl⟩,rfl,⟨_,e,zp3 rfl⟩,rfl,⟨_,g,zx5 λ_=>zuk rfl⟩,rfl,λi p s=>zAx (λ_=>zuk rfl) h j i p s,trivial⟩ q
def lvIO(d:Int)(b:List Bl)(n i:Nat)(c:Int)(e:List TE):AH:=[(0,.row 3 (tabM c e) 0),(1,.row 2 (b.map Xa) 0),(2,.row 2 [[.int .u32 d,.own 1 0 0 0 b.length]] 0),(3,.row 1 [[.mp 0 0]] 0),(4,.row 1 (mpsI 5 n i) 0),(5,famI n i)]
theorem zHT{n}{ad}{bl}{c}{es}:lvIO ad bl n n c es=lvHO ad bl n (λ_=>(0,[])) c es:=by unfold lvIO lvHO;rw[zAq,zBh]
theorem zFc{K K2}{H}{nx n i}{ad}{bl}{c}{es}(b:H.get 0 0=some (.row 3 (tabM c es) 0))(k:H.get 1 0=some (.row 2 (bl.map Xa) 0))(m:H.get 2 0=some (.row 2 [[.int .u32 ad,.own 1 0 0 0 bl.length]] 0))(d:H.get 3 0=some (.row 1 [[.mp 0 0]] 0))(e:H.get 4 0=some (.row 1 ((mpsI 5 n i).set i [.mp 6 0]) 0))(g:H.look 5=some (famI n i))(h:H.get 6 0=some (.row 3 [[.int .i64 0,.undef,.undef]] 0))(o:zv6 H (lvIO ad bl n (i+1) c es) (fsig T6 [(5,i+1,6)]) K2 K):Ent 2 K H nx K2 (lvIO ad bl n (i+1) c es) 6 :=
 Xq T6 [(5,i+1,6)] rfl rfl rfl rfl rfl ⟨rfl,⟨_,b,zb⟩,rfl,⟨_,k,Xk zao⟩,rfl,⟨_,m,zDb rfl⟩,rfl,⟨_,d,zp3 rfl⟩,rfl,⟨_,e,zz7 λ_=>zuk rfl⟩,rfl,λj p q=>zEt (λ_=>zuk rfl) g h j p q,trivial⟩ o
theorem zCO{K K2}{H}{nx n}{ad}{bl}{c}{es}(b:H.get 0 0=some (.row 3 (tabM c es) 0))(g:H.get 1 0=some (.row 2 (bl.map Xa) 0))(h:H.get 2 0=some (.row 2 [[.int .u32 ad,.own 1 0 0 0 bl.length]] 0))(d:H.get 3 0=some (.row 1 [[.mp 0 0]] 0))(e:H.get 5 0=some (.row 1 (Wt n [.nilmp]) 0))(j:zr5 H (lvIO ad bl n 0 c es) [(0,0,0),(1,1,0),(2,2,0),(3,3,0),(4,5,0)] [] K2 K):Ent 2 K H nx K2 (lvIO ad bl n 0 c es) 6 :=
 Xl [(0,0,0),(1,1,0),(2,2,0),(3,3,0),(4,5,0)] [] rfl rfl rfl ⟨rfl,⟨_,b,zb⟩,rfl,⟨_,g,Xk zao⟩,rfl,⟨_,h,zDb rfl⟩,rfl,⟨_,d,zp3 rfl⟩,rfl,⟨_,e,zBB⟩,rfl,zAC,trivial⟩ j
theorem QA{p:Prop}(h:p:=by(try simp only[evWB,Nat.reduceBEq,Nat.reduceAdd,Nat.reduceSub,Nat.reduceLeDiff,Nat.reduceLT,implies_true,zd,za,famS])<;>(repeat' with_reducible apply And.intro)<;>first|(first|exact zb|exact RowV.of_flat zao|exact zj;done)|exact fin8):p:=h
set_option maxHeartbeats 1000000 in
theorem lv_l5O(l)(d)(p)(o)(b)(U)(m)(c)(es)(ht:TabS l d es)(q:SizC U ⟨o,b⟩ l d (zax p) m)(S0)(h0:LivS U ⟨o,b⟩ l d p S0){Q}(hfin:∀(S:Nat->MS)(D:Bool),LivS U ⟨o,b⟩ l d p S->(D=true->muS b.length U.length S<muS b.length U.length S0)->(D=false->S=S0/\∀j,j<b.length->∀y,0<=y->zhU ⟨o,b⟩ l d p y (zfe b.length S y) j=(zfe b.length S y).getD j false)->Q .normal (lvKO o b (zax p) b.length D++[(10,.int .i64 (0-1)),(34,.bool false)]) (lvHO o b b.length S c es) 6){K}{H}{nx}(Z:Ent 2 K H nx (lvKO o b (zax p) b.length false++[(10,.int .i64 ((b.length:Int)-1))]) (lvHO o b b.length S0 c es) 6) :
  znL Z9 2 zdl (zdB 4 Q) K H nx:=by
 have hB:=hBig;have hn:=q.blk;simp only at hn
 refine zc (λs:Nat×(Nat->MS)×Bool=>(lvKO o b (zax p) b.length s.2.2++[(10,.int .i64 ((s.1:Int)-1))],lvHO o b b.length s.2.1 c es)) 6
  (λs=>s.1<=b.length/\LivS U ⟨o,b⟩ l d p s.2.1/\(s.2.2=true->muS b.length U.length s.2.1<muS b.length U.length S0)/\(s.2.2=false->s.2.1=S0/\∀j,s.1<=j->j<b.length->∀y,0<=y->zhU ⟨o,b⟩ l d p y (zfe b.length S0 y) j=(zfe b.length S0 y).getD j false)) (λs=>s.1) (b.length,S0,false)
  ⟨Wj _,h0,(λh=>by cases h),λ_=>⟨rfl,λj T A=>absurd T (Nat.not_le.2 A)⟩⟩ Z ?_
 rintro⟨k,S,D⟩ ⟨hk,I,B,C⟩ wf;simp only at hk I B C;clear wf;refine dcU zdl.eq_1 ?_;simp only[lvKO,lvHO,Wl,Wm]
 cases k with
 |zero=>
  refine Gw2 @dF @Int.natCast_zero ?_;intros
  exact hfin S D I B (λh=>by
   obtain⟨F,e2⟩:=C h;subst F
   exact⟨rfl,λj hj=>e2 j (We _) hj⟩)
 |succ k=>
  have n:k<b.length:=by omega
  have ek:((k+1:Nat):Int)-1=k:=by omega
  have gb:(b.map Xa).getD k []=b[k].cells:=zk (f:=Xa) n;have Y:blkG ⟨o,b⟩ k=b[k]:=zaR (g:=⟨o,b⟩) n;have hEI:zar b[k].stmts=(edgB ⟨o,b⟩ k).map λ(t:Nat)=>(t:Int):=zu4 q.ok (g:=⟨o,b⟩) n
  have v:=zrq q.ok (g:=⟨o,b⟩) n;have L:=q.room k n;have hsts:=q.sts k n;rw[Y]at L hsts;have u:b[k]∈b:=Wd n;have hat:=ziE b[k] (λs M=>(q.siz _ u s M).2) b.length S (edgB ⟨o,b⟩ k) hEI v (q.edg k n) hn U.length (by omega) (λi hi=>⟨(I.inU i hi).ok,(I.inU i hi).len⟩);have hout:=λa (h:∀y,y∈a.keys↔outY S (edgB ⟨o,b⟩ k) y) (y:Int)=>zDr (g:=⟨o,b⟩) (k:=k) (S:=S) (a:=a) n v (h y)
  have htwo:[b[k].cells.getD 0 .undef,b[k].cells.getD 1 .undef]=b[k].cells:=by cases b[k];rfl
  refine Gw6 ek @dT gb @ub @zC htwo ?_;intros;have hvm:RowV (lvHO o b b.length S c es) (atH b.length S) (Tab.sig [(0,4,0),(1,5,0)]) (inD []) (mps 5 b.length) (mps 1 b.length):=zkf λ_=>rfl
  refine zx [(0,4,0),(1,5,0)] 2 _ (hat) rfl rfl (Gin8_2 @atH.eq_1 @lvHO.eq_1) (Gin8_2 @atH.eq_1 @lvHO.eq_1) ?_;rintro _ _ _ ⟨rfl,rfl,a0,rfl,ha0,hl1,hl2,hmm⟩;simp only[atH,Wl,Wm];have gs:(b[k].cells.getD 1 .undef)=encL 8 Xf b[k].stmts:=by cases b[k];rfl
  have hbw:=zhy b[k].stmts (by omega);have to6:Tab.to [(0,4,0),(1,5,0)] 6 2=8:=rfl;have to3:Tab.to [(0,4,0),(1,5,0)] 6 1=5:=rfl
  (repeat first|simp(disch:=try exact dis1) only[evD,Xc,Xd,Xe,renM,renF,renP,Xo,to6,to3,AV.solid,AV.cells,gb,fldP,zC,gs]|with_reducible first|intro _|refine aJ ?_)
  refine zg (ze hbw rfl) ?_;refine Gw0 ?_;intros;generalize hss:b[k].stmts=ss at *
  have hA0:InU U a0:=⟨ha0,λy hy=>by
   obtain⟨t,T,A⟩:=(hmm y).1 hy
   exact(I.inU t (v t T)).sub y A⟩
  have J:∀s∈ss,(∀x∈zjd s,x∈U)/\(∀x∈zlo l d (zax p) s,x∈U)/\(nub (zlo l d (zax p) s)).length<=m/\zZ s.e<=300:=λs M=>by rw[<-hss]at M;exact⟨q.uses _ u s M,q.more _ u s M,q.mlen _ u s M,(q.siz _ u s M).1⟩
  have hb1:a0.1+(ss.length:Int)*1300<=900000:=by omega
  have hb2:a0.2.length+ss.length*1300<=900000:=by omega
  have V:∀s,InU U (zib l d (zax p) (ss.drop s) a0)/\(zib l d (zax p) (ss.drop s) a0).1<=900000/\(zib l d (zax p) (ss.drop s) a0).2.length<=900000:=λs=>by
   have hd:(ss.drop s).length<=ss.length:=by rw[List.length_drop];exact Nat.sub_le _ _
   have hd2:(ss.drop s).length*1300<=ss.length*1300:=Nat.mul_le_mul_right _ hd;have hd3:((ss.drop s).length:Int)*1300<=(ss.length:Int)*1300:=by omega
   obtain⟨F,e2,e3⟩:=zvc q.nlen (ss:=ss.drop s) (a:=a0) (λx P=>J x (List.mem_of_mem_drop P)) hA0 (Int.le_trans (Int.add_le_add_left hd3 _) hb1) (Wk (Nat.add_le_add_left hd2 _) hb2);exact⟨F,by omega,by omega⟩
  refine zo9 rfl (λc hc=>by rw[List.mem_singleton.1 hc];exact .iptr _ _) (zfW ss (by omega)) (λs x s' h=>by cases s with|zero=>cases h|succ s=>cases h;rfl) (lvKO o b (zax p) b.length D++[(10,.int .i64 k),(11,.ptr 7 0 0 0 0)]) (λa:MS=>lvHO o b b.length S c es++[(6,.row 3 ((setM a.1 a.2).map cm) 0),(7,.row 1 [[.mp 6 0]] 0)]) 8
   (λa s=>s<=ss.length/\a=zib l d (zax p) (ss.drop s) a0) (λa e=>False) a0 (λa s h=>trivial) ⟨Wj _,by rw[List.drop_length];rfl⟩ ?_ ?_ ?_ (λa e h=>h.elim)
  .simp only[lvKO,lvHO,Wl,Wm];exact(Xl [(0,0,0),(1,1,0),(2,2,0),(3,3,0),(4,4,0),(5,5,0),(6,8,0),(7,9,0)] [] rfl rfl rfl QA QA)
  .rintro a s x s' ⟨T,A⟩ P wf;clear wf
   cases s with
   |zero=>cases P
   |succ s=>
   simp only[zB3,Option.some.injEq,Prod.mk.injEq]at P;obtain⟨rfl,rfl⟩:=P;have O:s<ss.length:=by omega
   have hgs:ss.getD s noSt=ss[s]:=by simp[Wf,O]
   have hdr:ss.drop s=ss[s]::ss.drop (s+1):=WM O;have hnew:zib l d (zax p) (ss.drop s) a0=befT l d (zax p) ss[s] a:=by rw[hdr,A];rfl
   obtain⟨R,q2,q3⟩:=V (s+1);rw[<-A]at R q2 q3;have hst:=J ss[s] (Wd O);have hnl:=q.nlen;have W:=zhe a ss[s] l d (zax p) c es ht R.ok (by omega) m (by omega) q.exl q.n12 q.arg (by omega) (by omega);rw[hgs];rw[<-hnew]at W;have w:[ss[s].cells.getD 0 .undef,ss[s].cells.getD 1 .undef,ss[s].cells.getD 2 .undef,ss[s].cells.getD 3 .undef,ss[s].cells.getD 4 .undef,ss[s].cells.getD 5 .undef,ss[s].cells.getD 6 .undef,ss[s].cells.getD 7 .undef]=ss[s].cells:=St.eight _;simp only[znG,lvKO,lvHO,Wl,Wm];refine dcU zgD.eq_1 ?_;have hc8:ss[s].cells.length=8:=rfl;refine Gw2 @ub w ?_;intros;refine dcU zgL.eq_1 ?_;refine Gw3 @ub @zC w ?_;intros;refine zx [(0,6,0),(1,0,0)] 2 _ W rfl rfl (QI @zd @uh) (QI @zd @uh) ?_;rintro _ _ _ ⟨rfl,rfl,rfl⟩;simp only[bfH];refine Gw2 @renM @zdP ?_;intros;exact⟨_,⟨by omega,rfl⟩,(Xl [(0,0,0),(1,1,0),(2,2,0),(3,3,0),(4,4,0),(5,5,0),(6,6,0),(7,7,0)] [] rfl rfl rfl QA QA)⟩
  .rintro a s ⟨T,A⟩ P;have hs0:s=0:=by cases s with|zero=>rfl|succ s=>cases P
   subst hs0;rw[List.drop_zero]at A;simp only[lvKO,lvHO,Wl,Wm];refine Gw0 ?_;intros;refine dcU zgH.eq_1 ?_;obtain⟨R,q2,q3⟩:=V 0;rw[List.drop_zero,<-A]at R q2 q3;have hal:=R.len;have hUl:=q.len;have hSl:=(I.inU k n).len;have m1:=λ(H:AH) (nx:Nat) (h:H.get 6 0=some (.row 3 ((setM a.1 a.2).map cm) 0))=>zvd (nx:=nx) h
   have m2:=λ(H:AH) (nx:Nat) (h:H.get 5 (k+1)=some (.row 3 ((setM (S k).1 (S k).2).map cm) 0))=>zvd (nx:=nx) h
   refine Gw0 ?_;intros;rw[m1 _ _ rfl]
   (repeat first|simp(disch:=try exact dis1) only[evD,Xc,Xd,Xe,zs6,ztM n,Wq]|with_reducible first|intro _|refine aJ ?_)
   rw[m2 _ _ (zIO rfl n)];have X:∀y,0<=y->decide (y∈a.keys)=zhU ⟨o,b⟩ l d p y (zfe b.length S y) k:=λy hy=>by rw[A,zss hy,hout a0 hmm y];unfold zhU;rw[Y,hss]
   obtain⟨hs1,hs2⟩:=zEm (g:=⟨o,b⟩) I n R X q.pos;by_cases he:a.2.length=(S k).2.length
   ·(refine Qa ?_;intros);refine dcU zc3.eq_1 ?_;refine Gw0 ?_;intros;refine⟨(k,S,D),⟨by omega,I,B,λh=>?_⟩,Wo k,?_⟩
    .obtain⟨F,e2⟩:=C h;refine⟨F,λj hj1 hj2=>?_⟩;rcases Nat.lt_or_ge k j with hkj|hkj
     .exact e2 j hkj hj2
     .obtain rfl:j=k:=by simp only at hj1;omega
      rw[<-F];exact hs1 he
    .simp only[lvKO,lvHO,Wl,Wm];exact(Xl [(0,0,0),(1,1,0),(2,2,0),(3,3,0),(4,4,0),(5,5,0)] [] rfl rfl rfl QA QA)
   .obtain⟨hs3,N⟩:=hs2 he
    (repeat first|simp(disch:=try exact dis1) only[evD,Xc,Xd,Xe,dT,zs6,ztM n,Wq]|with_reducible first|intro _|refine aJ ?_)
    refine dcU zc3.eq_1 ?_;refine Gw0 ?_;intros;refine⟨(k,updF S k a,true),⟨by omega,hs3,λ_=>?_,λh=>by cases h⟩,Wo k,?_⟩
    .simp only at N⊢
     cases D with
     |true=>exact Nat.lt_trans N (B rfl)
     |false=>obtain⟨F,_⟩:=C rfl;rw[<-F];exact N
    .exact zC7 rfl rfl rfl rfl rfl rfl rfl ⟨.ptr _ _ _ _ _ _ _ _ _ rfl rfl,.ptr _ _ _ _ _ _ _ _ _ rfl rfl,.iptr _ _ _,.own _ _ _ 0 _ _ _ _ _ rfl rfl,.bool _ _,.int _ _ _,trivial⟩
def zEc(b:List Bl)(n:Nat)(S:Nat->MS)(c:Int)(d:List TE):AH:=[(0,.row 3 (tabM c d) 0),(1,.row 2 (b.map Xa) 0),(2,.row 1 (mps 3 n) 0),(3,famS n S)]
theorem lv_l6O(l)(at')(ex)(d)(b)(U)(m)(c)(es)(B:TabS l at' es)(q:SizC U ⟨d,b⟩ l at' (zax ex) m){Q}(k:∀(S:Nat->MS),LiveR U ⟨d,b⟩ l at' ex S->Q .normal [(3,.ptr 2 0 0 0 0),(4,.ptr 3 0 0 0 0),(5,.iptr 1 λj=>[za (zax ex)].getD j .undef),(7,.own 4 0 0 0 b.length),(28,.bool false)] (lvHO d b b.length S c es) 6){K}{H}{nx}(g:Ent 2 K H nx (lvKO d b (zax ex) b.length true) (lvHO d b b.length (λ_=>(0,[])) c es) 6) :
  znL Z9 2 zdb (zdB 2 Q) K H nx:=by
 have C:=hBig;have A:=q.blk;simp only at A
 refine zc (λs:(Nat->MS)×Bool=>(lvKO d b (zax ex) b.length s.2,lvHO d b b.length s.1 c es)) 6
  (λs=>LivS U ⟨d,b⟩ l at' ex s.1/\(s.2=false->∀j,j<b.length->∀y,0<=y->zhU ⟨d,b⟩ l at' ex y (zfe b.length s.1 y) j=(zfe b.length s.1 y).getD j false)) (λs=>2*muS b.length U.length s.1+(if s.2 then 1 else 0)) (λ_=>(0,[]),true)
  ⟨zBf U ⟨d,b⟩ l at' ex,λh=>by cases h⟩ g ?_
 rintro⟨S,u⟩ ⟨n,p⟩ wf;simp only at n p;clear wf;refine dcU zdb.eq_1 ?_;simp only[lvKO,lvHO,Wl,Wm]
 cases u with
 |false=>refine Gw0 ?_;intros;exact k S ⟨n.inU,zEh n (p rfl)⟩
 |true=>
  refine Gw2 @ub @zC ?_;intros;refine lv_l5O l at' ex d b U m c es B q S n (λt e w x o=>?_) ?_
  .simp only[lvKO,lvHO,Wl,Wm];refine Gw0 ?_;intros;refine⟨(t,e),⟨w,λh=>(o h).2⟩,?_,?_⟩
   .cases e with
    |true=>have:=x rfl;simp only[if_true];omega
    |false=>obtain⟨v,_⟩:=o rfl;subst v;simp
   .exact(Xl [(0,0,0),(1,1,0),(2,2,0),(3,3,0),(4,4,0),(5,5,0)] [] rfl rfl rfl QA QA)
  .simp only[lvKO,lvHO,Wl,Wm];exact(Xl [(0,0,0),(1,1,0),(2,2,0),(3,3,0),(4,4,0),(5,5,0)] [] rfl rfl rfl QA QA)
theorem zte(g)(l)(at')(ex)(U)(m)(c)(es)(o:TabS l at' es)(d:SizC U g l at' (zax ex) m):
  z7 Z9 zck [.agg [.int .u32 g.addr,.own 1 0 0 0 g.blocks.length],.mp 0 0,za (zax ex)] [(0,.row 3 (tabM c es) 0),(1,.row 2 (g.blocks.map Xa) 0)] 2
  (λv H p=>∃S,v=.own 2 0 0 0 g.blocks.length/\H=zEc g.blocks g.blocks.length S c es/\p=4/\LiveR U g l at' ex S):=by
 refine zS (fn_x ztr rfl ?_);refine dcU zm6.eq_1 ?_;have q:=hBig;obtain⟨ad,bl⟩:=g;have k:=d.blk;simp only at k⊢;refine Gw2 @ub @zC ?_;intros;refine⟨⟨rfl,rfl⟩,λ_=>⟨⟨by omega,by omega,by omega⟩,λ_=>?_⟩⟩
 refine zc (λi:Nat=>([(3,.ptr 2 0 0 0 0),(4,.ptr 3 0 0 0 0),(5,.iptr 1 λj=>[za (zax ex)].getD j .undef),(7,.own 4 0 0 0 bl.length),(19,.int .i64 bl.length),(20,.int .i64 i)],lvIO ad bl bl.length i c es)) 6
  (λi=>i<=bl.length) (λi=>bl.length-i) 0 (We _) ?_ ?_
 .simp only[Int.natCast_zero];exact zCO rfl rfl rfl rfl rfl ⟨.ptr _ _ _ _ _ _ _ _ _ rfl rfl,.ptr _ _ _ _ _ _ _ _ _ rfl rfl,.iptr _ _ _,.own _ _ _ 0 _ _ _ _ _ rfl rfl,.int _ _ _,.int _ _ _,trivial⟩
 rintro i s wf;clear wf;refine dcU zem.eq_1 ?_;simp only[lvIO];by_cases h:i<bl.length
 ·(refine Gw2 @dT @zD3 ?_;intros);exact⟨i+1,by omega,by omega,zFc rfl rfl rfl rfl rfl rfl rfl ⟨.ptr _ _ _ _ _ _ _ _ _ rfl rfl,.ptr _ _ _ _ _ _ _ _ _ rfl rfl,.iptr _ _ _,.own _ _ _ 0 _ _ _ _ _ rfl rfl,.int _ _ _,.int _ _ _,trivial⟩⟩
 .obtain rfl:i=bl.length:=by omega
  refine Qa ?_;intros;refine dcU zes.eq_1 ?_;refine Gw0 ?_;intros;refine lv_l6O l at' ex ad bl U m c es o d (λS e=>?_) ?_
  .simp only[lvHO];refine Gw0 ?_;intros;unfold zgE;refine Gw1 @zgn.eq_1 ?_;intros;exact⟨.own 2 0 0 0 bl.length,zEc bl bl.length S c es,4,(by unfold zEc;exact(Xl [(0,0,0),(1,1,0),(2,4,0),(3,5,0)] [] rfl rfl rfl QA QA)),S,rfl,rfl,rfl,e⟩
  .have b:=zHT (ad:=ad) (bl:=bl) (n:=bl.length) (c:=c) (es:=es);unfold lvIO at b;rw[b];simp only[lvKO,lvHO];exact(Xl [(0,0,0),(1,1,0),(2,2,0),(3,3,0),(4,4,0),(5,5,0)] [] rfl rfl rfl QA QA)
section
variable {l:List Sgn}{at':List Int}
theorem zFB{s}{a b}(h:s.op=1->a s.var=b s.var):remP s a=remP s b:=by
 unfold remP;by_cases c:s.op=1
 .rw[h c]
 .rw[decide_eq_false c,Bool.false_and,Bool.false_and]
theorem zt8{e e'}(h:∀v,0<=v->e v=e' v):∀{b:List St},(∀s∈b,OkS s)->ze1 l at' e b=ze1 l at' e' b
 |[],_=>rfl
 |
  s::b,hs=>by
  have d:remP s (bef l at' b e)=remP s (bef l at' b e'):=zFB λc=>by unfold bef;rw[h _ ((hs s List.mem_cons_self).var (.inl c))]
  unfold ze1;rw[d,zt8 h λt g=>hs t (WI _ g)]
theorem zKA{U}{g}{S}(j:LiveR U g l at' true S){y}(k:0<=y):zfe g.blocks.length S y=LI l at' g y:=by
 unfold LI;apply Wh (by rw[zpK,ztG]);intro b c e;rw[zpK]at c;have d:=zkt (S:=S) (y:=y) c;rw[j.bit y k b c]at d;have h:b<(zfe g.blocks.length S y).length:=by rw[zpK];exact c
 simpa [Wf,h,e]using d
theorem zEx{U:List Int}{g:G}{S:Nat->MS}(h:LiveR U g l at' true S)(m:∀b∈g.blocks,∀s∈b.stmts,OkS s){k:Nat}(c:k<g.blocks.length)(e:∀t∈edgB g k,t<g.blocks.length){a:MS}(j:∀y,y∈a.keys↔outY S (edgB g k) y):
  ze1 l at' (λv=>decide (v∈a.keys)) (blkG g k).stmts=zfk l at' g k:=by
 unfold zfk;refine zt8 (λv n=>?_) (λs d=>m _ (by rw[zaR c]at d⊢;exact Wd c) s d);rw[zDr c e (j v),zKA h n];rfl
def mixG(l:List Sgn)(at':List Int)(g:G)(k:Nat):List Bl:=(Wc g.blocks.length).map λi=>if i<k then zun l at' g i else blkG g i
theorem zzo{g}{k}:(mixG l at' g k).length=g.blocks.length:=by simp[mixG]
theorem zJ2{g}:mixG l at' g 0=g.blocks:=by apply Wh zzo;intro i c b;simp only[mixG,Xp,if_false,Wp,Wu];exact zaR b
theorem zKM{g}:mixG l at' g g.blocks.length=(zhv l at' g).blocks:=by unfold mixG zhv;exact Wv λi b=>if_pos (Wg.1 b)
theorem zLQ{g}{k}(h:k<g.blocks.length):((mixG l at' g k).map Xa).getD k []=(blkG g k).cells:=by rw[zk (f:=Xa) (d:=[]) (by rw[zzo];exact h)];simp[mixG]
theorem zMN{g}{k}(h:k<g.blocks.length):((mixG l at' g k).map Xa).set k (zun l at' g k).cells=(mixG l at' g (k+1)).map Xa:=by
 rw[<-List.map_set];congr 1;apply Wh (by simp[zzo]);intro i c d;rw[WD];simp only[mixG,Wp,Wu];split
 .rename_i e;subst e;rw[if_pos (Wo _)]
 .rename_i e;by_cases b:i<k
  .rw[if_pos b,if_pos (by omega)]
  .rw[if_neg b,if_neg (by omega)]
theorem zvG{g}(h:chgN l at' g g.blocks.length=false):zhv l at' g=g:=by
 obtain⟨c,b⟩:=g;unfold zhv;congr 1;apply Wh (by simp);intro i n j;simp only[Wp,Wu,zun];have k:¬(zfk l at' ⟨c,b⟩ i).length<(blkG ⟨c,b⟩ i).stmts.length:=λd=>by rw[show chgN l at' ⟨c,b⟩ b.length=true from WL.2 ⟨i,Wg.2 j,decide_eq_true d⟩]at h;cases h
 have m:zfk l at' ⟨c,b⟩ i=(blkG ⟨c,b⟩ i).stmts:=by have:=zxT (l:=l) (at':=at') (e:=LO l at' ⟨c,b⟩ i) (ss:=(blkG ⟨c,b⟩ i).stmts);exact this.eq_of_length (by unfold zfk at k;have:=this.length_le;omega)
 rw[m,zaR (g:=⟨c,b⟩) j]
structure RoundP(l:List Sgn)(at':List Int)(R z:G)(c:Bool):Prop where
 ok:PruG z
 more:∃m,cntG z<m/\zm8 l at' m z=R
 fin:c=false->z=R
theorem RoundP.next{R z}{c}(h:RoundP l at' R z c):RoundP l at' R (zhv l at' z) (chgN l at' z z.blocks.length):=by
 obtain⟨m,e,b⟩:=h.more
 cases m with
 |zero=>omega
 |succ m=>
 unfold zm8 at b
 cases d:chgN l at' z z.blocks.length with
 |true=>rw[d,if_pos rfl]at b;have g:=zvB d;exact⟨h.ok.step zwF,⟨m,by omega,b⟩,λh=>by cases h⟩
 |false=>rw[d,if_neg (by decide)]at b;rw[zvG d];exact⟨h.ok,⟨m+1,e,by unfold zm8;rw[d,if_neg (by decide)];exact b⟩,λ_=>b⟩
theorem RoundP.less{z}:2*cntG (zhv l at' z)+(if chgN l at' z z.blocks.length=true then 1 else 0)<2*cntG z+1:=by
 cases b:chgN l at' z z.blocks.length with
 |true=>have:=zvB b;rw[if_pos rfl];omega
 |false=>rw[zvG b,if_neg (by decide)];omega
theorem RoundP.start{g}(h:PruG g):RoundP l at' (zm8 l at' (cntG g+1) g) g true:=⟨h,⟨_,Wo _,rfl⟩,λh=>by cases h⟩
theorem zMl{g}(e:PruG g)(j:∀a,(zaJ l at' a).args.length<=9223372036854775807){S}(q:LiveR (allU g) g l at' true S){k}(h:k<g.blocks.length){a}(o:a.ok)(w:a.1<=(((edgB g k).length*(allU g).length:Nat):Int))(x:a.2.length<=(edgB g k).length*(allU g).length)(u:∀y,y∈a.keys↔outY S (edgB g k) y):
  RoomB (allU g) l at' 900 (blkG g k).stmts a:=by
 have d:=zCV e.few e.ok e.sts l at' true j;have A:=d.room k h;have b:blkG g k∈g.blocks:=by rw[zaR h];exact Wd h
 have p:=zrq d.ok h
 exact {
  sts:=λs c=>⟨d.uses _ b s c,d.more _ b s c,d.mlen _ b s c,(d.siz _ b s c).1⟩
  ok:=λs c=>e.sts _ b s c
  inU:=⟨o,λy v=>by
   obtain⟨t,m,n⟩:=(u y).1 v
   exact(q.inU t (p t m)).sub y n⟩
  b1:=by omega
  b2:=by omega
  m12:=by omega
  m1000:=by omega
  arg:=j }
theorem zJl{g:G}(c:PruG g){k:Nat}(d:k<g.blocks.length):zfk l at' g k≠[]:=by
 have b:blkG g k∈g.blocks:=by rw[zaR d];exact Wd d
 exact((zkk (l:=l) (at':=at') (e:=LO l at' g k) (ss:=(blkG g k).stmts)).subP (LeE.refl _)).endsOk (c.ends _ b) |>.2 λe=>c.ok.ends _ b (by rw[e];rfl)
end
end Go.Ab
