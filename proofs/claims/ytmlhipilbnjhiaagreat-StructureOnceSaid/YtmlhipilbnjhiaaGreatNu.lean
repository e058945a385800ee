/-
  Part 21 of the proof: how the calls of this program run, over values instead of memory, and what each function computes.
-/
import Derived.Test.YtmlhipilbnjhiaaGreatNt
set_option maxRecDepth 100000
set_option linter.unusedVariables false
set_option linter.unusedSimpArgs false
set_option linter.unnecessarySimpa false
set_option linter.unusedSectionVars false
open Classical renaming not_not->Xa,byContradiction->Xb,propDecidable->Xc,not_forall->Xd,axiomOfChoice->Xe
open List renaming mem_append_left→Wa,mem_singleton→Wc,getD_eq_getElem?_getD→Wd,mem_append→We,mem_append_right→Wf,mem_filter→Wg,mem_cons_of_mem→Wh,map_cons→Wi,mem_range→Wj,range→Wk,mem_cons_self→Wl,append_nil→Wm,count_pos_iff→Wp,getElem?_eq_getElem→Wq,length_filter_le→Wr,length_cons→Wt,mem_map→Wu,mem_cons→Wv,sum_cons→Ww,count_append→Wy,count_eq_zero_of_not_mem→Wz,filter_append→WA,nodup_iff_count→WB,map_congr_left→WC,filter_cons_of_neg→WE,filter_cons_of_pos→WF,cons_append→WG,mem_flatMap→WH,count_cons→WJ,getElem?_append_left→WK,length_append→WL,length_nil→WM,append_assoc→WN,flatMap_cons→WO,eq_nil_of_length_eq_zero→WP,getElem_mem→WQ,take_add_one→WR,take_of_length_le→WS,filter_congr→WU,getLast?_eq_getElem?→WV,getElem?_append_right→WW,replicate_succ'→WX,flatMap_append→WY,pairwise_map→WZ,getElem?_map→W0,take_succ_eq_append_getElem→W3,length_singleton→W5,any_eq_true→W6,drop_eq_getElem_cons→W7
open Nat renaming le_refl→Wn,zero_le→Wx,add_sub_cancel→WD
open Bool renaming or_false→Wo,or_eq_false_iff→Ws,and_eq_true→WI
namespace Go.Ab
open Go.RowKit Go.Proofs
section
variable {st:List PSt}{L:LabE}
def zup(n:Nd):Prop:=∀y∈allN n,zbE y.f.kind=true->y.l.length=1
end
mutual
def zf8(K:Int->Bool):Nd->Nd
 |.mk f c l=>.mk f c (zb9 K l)
def zb9(K:Int->Bool):List Nd->List Nd
 |[]=>[]
 |x::l=>if x.f.kind=10/\K x.f.label=false then zb9 K l else zf8 K x::zb9 K l
end
def addB(l:List (Int×List Int))(b:List Int):List (Int×List Int):=match l.getLast? with
 |some x=>l.dropLast++[(x.1,x.2++b)]
 |none=>l
def zN2(l:List (Int×Int)):List Int:=l.map Prod.fst
def RgN(a b:Nat)(k:Int):Prop:=(a:Int)<=k/\k<(b:Int)
structure InvP(p:PC):Prop where
 got:∀e∈p.got,RgN 0 p.st.length e.1
 brk:∀k∈brkL p.lp,RgN 0 p.st.length k
def DisP(p q:PC):Prop:=∀b c,q.lp=addB p.lp b->q.got=p.got++c->p.lp≠[]->∀k∈b,k∉zN2 c
structure ExtP(ls:List Int)(p q:PC):Prop where
 len:p.st.length<=q.st.length
 pre:∀k,k<p.st.length->q.st[k]?=p.st[k]?
 lp:∃bs,q.lp=addB p.lp bs/\∀k∈bs,RgN p.st.length q.st.length k
 got:∃gs,q.got=p.got++gs/\∀e∈gs,RgN p.st.length q.st.length e.1
 lab:∃vs,q.lab=p.lab++vs/\zN2 vs=ls
 dis:DisP p q
structure ExtB(ls:List Int)(at':Nat)(p q:PC)(es xs:List Int):Prop where
 len:p.st.length<=q.st.length
 pre:∀k,k<p.st.length->k≠at'->q.st[k]?=p.st[k]?
 dec:q.st[at']?=(p.st[at']?).map λs=>{ s with to:=s.to.map λl=>l++xs }
 ends:∀k∈es,RgN p.st.length q.st.length k
 lp:∃bs,q.lp=addB p.lp bs/\∀k∈bs,RgN p.st.length q.st.length k
 got:∃gs,q.got=p.got++gs/\∀e∈gs,RgN p.st.length q.st.length e.1
 lab:∃vs,q.lab=p.lab++vs/\zN2 vs=ls
 dis:DisP p q
structure Fut(q F:PC):Prop where
 got:∃r,F.got=q.got++r/\∀e∈r,(q.st.length:Int)<=e.1
 lab:∃r,F.lab=q.lab++r
def zed(a b:List Nd):Prop:=∀y∈b,(y.f=⟨1,0,0⟩/\y.cond=[])\/∃c∈a,y.f=c.f/\y.cond=c.cond/\(c.f.kind≠1->y.l.length=c.l.length)
abbrev zvd(n m:Nd):Prop:=zed (allN n) (allN m)
theorem zed.refl(a:List Nd):zed a a:=λy b=>.inr ⟨y,b,rfl,rfl,λ_=>rfl⟩
theorem zed.sub{a b:List Nd}(h:∀y∈b,y∈a):zed a b:=λy c=>.inr ⟨y,h y c,rfl,rfl,λ_=>rfl⟩
theorem zed.trans{a b c:List Nd}(h:zed a b)(k:zed b c):zed a c:=λy p=>by
 rcases k y p with e|⟨t,e,j,m,o⟩
 .exact .inl e
 rcases h t e with ⟨g,d⟩|⟨u,g,d,q,s⟩
 .exact .inl ⟨j.trans g,m.trans d⟩
 .exact .inr ⟨u,g,j.trans d,m.trans q,λn=>(o (by rw[d];exact n)).trans (s n)⟩
theorem zed.app{a j b m:List Nd}(h:zed a b)(k:zed j m):zed (a++j) (b++m):=λy c=>by
 rcases We.1 c with c|c
 .exact(h y c).imp id λ⟨g,d,e⟩=>⟨g,Wa _ d,e⟩
 .exact(k y c).imp id λ⟨g,d,e⟩=>⟨g,Wf _ d,e⟩
theorem zed.up{a b c:List Nd}(h:zed a b)(j:∀y∈a,y∈c):zed c b:=λy k=>(h y k).imp id λ⟨d,e,g⟩=>⟨d,j d e,g⟩
theorem zed.node{f:NdF}{c:List Ex}{l m:List Nd}(h:zed (zag l) (zag m))(g:f.kind≠1->m.length=l.length):zvd (.mk f c l) (.mk f c m):=λy b=>by
 rw[allN]at b;rw[allN];rcases Wv.1 b with rfl|b
 .exact .inr ⟨.mk f c l,Wl,rfl,rfl,g⟩
 .exact(h y b).imp id λ⟨j,d,e⟩=>⟨j,Wh _ d,e⟩
theorem zzs:∀a b:List Nd,zag (a++b)=zag a++zag b
 |[],b=>by rw[zag];rfl
 |x::a,b=>by rw[WG,zag,zag,zzs a b,WN]
theorem zpv:∀(l:List Nd)(y:Nd),y∈zag (zhM l)->y∈zag l
 |[],y,h=>h
 |
  x::l,y,h=>by
  unfold zhM at h;rw[WO,zzs]at h;rw[zag];rcases We.1 h with h|h
  .refine Wa _ ?_;obtain⟨f,c,k⟩:=x;split at h
   .rw[allN];exact Wh _ h
   .rw[zag,zag,Wm]at h;exact h
  .exact Wf _ (zpv l y h)
theorem zzr(n:Nd):zvd n (zu6 n):=by
 obtain⟨f,c,l⟩:=n;rw[zkM];by_cases b:f.kind=1
 .rw[if_pos b];unfold ztb;split
  .rename_i a e;refine zed.sub λy d=>?_
   rw[allN];refine Wh _ (zpv l y ?_);rw[e,zag,zag,Wm];exact d
  .exact zed.node (zed.sub (zpv l)) λh=>absurd b h
 .rw[if_neg b];exact zed.refl _
theorem zwr{g:Nd->Nd}:∀{l:List Nd},(∀x∈l,zvd x (g x))->zed (zag l) (zag (l.map g))
 |[],_=>zed.refl _
 |
  x::l,h=>by
  rw[Wi,zag,zag];exact(h x Wl).app (zwr λy b=>h y (Wh _ b))
theorem zvI:∀(k:Nat)(n:Nd),zap n<=k->zvd n (zeu n)
 |0,n,b=>by cases n;rw[zap]at b;omega
 |
  k+1,.mk f c l,b=>by
  rw[zap]at b;rw[zeu,zfX];exact(zed.node (zwr λx d=>zvI k x (by have:=zeM d;omega)) λ_=>by simp).trans (zzr _)
mutual
theorem zxN:∀n:Nd,zvd n (cutN n)
 |
  .mk f c l=>by
  rw[cutN];by_cases e:f.kind=8
  .rw[if_pos e];intro y g;rw[allN,zag,Wc]at g;exact .inl (by rw[g];exact⟨rfl,rfl⟩)
  rw[if_neg e];by_cases b:f.kind=1
  .rw[if_pos b];exact zed.node (zsu l) λh=>absurd b h
  rw[if_neg b];by_cases d:f.kind=3\/f.kind=6
  .rw[if_pos d];exact zed.node (zuR l) λ_=>by rw[zoa];simp
  rw[if_neg d];exact zed.refl _
theorem zsu:∀l:List Nd,zed (zag l) (zag (zbn l))
 |[]=>by rw[zbn];exact zed.refl _
 |
  [x]=>by
  rw[zbn,zag,zag,zag,zag];exact(zxN x).app (zed.refl _)
 |
  x::y::l=>by
  rw[zbn,zag,zag];exact(zed.refl _).app (zsu (y::l))
theorem zuR:∀l:List Nd,zed (zag l) (zag (zer l))
 |[]=>by rw[zer];exact zed.refl _
 |
  x::l=>by
  rw[zer,zag,zag];exact(zxN x).app (zuR l)
end
theorem zzX:∀(k:Nat)(n:Nd),zap n<=k->zvd n (zfe n)
 |0,n,b=>by cases n;rw[zap]at b;omega
 |
  k+1,.mk f c l,b=>by
  rw[zap]at b;rw[zfe,zjc];refine(zed.node (zwr λx e=>?_) λ_=>by simp).trans (zzr _);have d:=zzX k x (by have:=zeM e;omega);split
  .exact(d.trans (zxN _)).trans (zvI _ _ (Wn _))
  .exact d
theorem zvD:∀(a b:List Nd)(i:Bool),zJ (a++b) i=(zJ a i||zJ b i)
 |[],b,i=>by rw[zJ];simp
 |x::a,b,i=>by rw[WG,zJ,zJ,zvD a b i,Bool.or_assoc]
theorem zfP{f:NdF}{c:List Ex}{l:List Nd}{i:Bool}(h:f.kind=1):zbi (.mk f c l) i=zJ l i:=by rw[zbi,if_neg (by omega)];simp[h]
theorem zti:∀(l:List Nd)(i:Bool),zJ (zhM l) i=zJ l i
 |[],i=>rfl
 |
  x::l,i=>by
  unfold zhM;rw[WO,zvD,zJ];congr 1
  .obtain⟨f,c,k⟩:=x;by_cases h:f.kind=1
   .rw[if_pos (show(Nd.mk f c k).f.kind=1 from h),zfP h];rfl
   .rw[if_neg (show ¬(Nd.mk f c k).f.kind=1 from h),zJ,zJ,Wo]
  .exact zti l i
theorem zvM(n:Nd)(i:Bool):zbi (zu6 n) i=zbi n i:=by
 obtain⟨f,c,l⟩:=n;rw[zkM];by_cases b:f.kind=1
 .rw[if_pos b,zfP b,<-zti l i];unfold ztb;split
  .rename_i a e;rw[e,zJ,zJ,Wo]
  .exact zfP b
 .rw[if_neg b]
theorem ztf{g:Nd->Nd}{f:NdF}{c:List Ex}:∀{l:List Nd}{i:Bool},(∀x∈l,∀i,zbi x i=false->zbi (g x) i=false)->zJ l i=false->zJ (l.map g) i=false
 |[],i,_,h=>h
 |
  x::l,i,hx,h=>by
  rw[zJ,Ws]at h;rw[Wi,zJ,hx x Wl i h.1,ztf (f:=f) (c:=c) (λy b=>hx y (Wh _ b)) h.2];rfl
theorem zlo{f:NdF}{c:List Ex}{l m:List Nd}{i:Bool}(h:∀i,zJ l i=false->zJ m i=false)(b:zbi (.mk f c l) i=false):zbi (.mk f c m) i=false:=by
 rw[zbi]at b⊢;by_cases d:(f.kind=7\/f.kind=8)/\i=false
 .rw[if_pos d]at b;cases b
 .rw[if_neg d]at b⊢;exact h _ b
theorem zuS:∀(k:Nat)(n:Nd),zap n<=k->∀i,zbi n i=false->zbi (zeu n) i=false
 |0,n,b,_,_=>by cases n;rw[zap]at b;omega
 |
  k+1,.mk f c l,b,i,h=>by
  rw[zap]at b;rw[zeu,zfX,zvM];exact zlo (λi h=>ztf (f:=f) (c:=c) (λx d=>zuS k x (by have:=zeM d;omega)) h) h
mutual
theorem zuu:∀(n:Nd)(i:Bool),zbi n i=false->zbi (cutN n) i=false
 |
  .mk f c l,i,h=>by
  rw[cutN];by_cases e:f.kind=8
  .rw[if_pos e,zfP rfl,zJ]
  rw[if_neg e];by_cases b:f.kind=1
  .rw[if_pos b];exact zlo (λi h=>zpS l i h) h
  rw[if_neg b];by_cases d:f.kind=3\/f.kind=6
  .rw[if_pos d];exact zlo (λi h=>zsa l i h) h
  rw[if_neg d];exact h
theorem zpS:∀(l:List Nd)(i:Bool),zJ l i=false->zJ (zbn l) i=false
 |[],i,h=>by rw[zbn];exact h
 |
  [x],i,h=>by
  rw[zJ,Ws]at h;rw[zbn,zJ,zuu x i h.1,zJ];rfl
 |
  x::y::l,i,h=>by
  rw[zJ,Ws]at h;rw[zbn,zJ,h.1,zpS (y::l) i h.2];rfl
theorem zsa:∀(l:List Nd)(i:Bool),zJ l i=false->zJ (zer l) i=false
 |[],i,h=>by rw[zer];exact h
 |
  x::l,i,h=>by
  rw[zJ,Ws]at h;rw[zer,zJ,zuu x i h.1,zsa l i h.2];rfl
end
theorem zv8:∀(k:Nat)(n:Nd),zap n<=k->∀i,zbi n i=false->zbi (zfe n) i=false
 |0,n,b,_,_=>by cases n;rw[zap]at b;omega
 |
  k+1,.mk f c l,b,i,h=>by
  rw[zap]at b;rw[zfe,zjc,zvM];refine zlo (λi h=>ztf (f:=f) (c:=c) (λx e i h=>?_) h) h;have d:=zv8 k x (by have:=zeM e;omega) i h;split
  .exact zuS _ _ (Wn _) i (zuu _ i d)
  .exact d
mutual
theorem zuf(K:Int->Bool):∀(n:Nd)(i:Bool),zbi n i=false->zbi (zf8 K n) i=false
 |
  .mk f c l,i,h=>by
  rw[zf8];exact zlo (λi h=>znP K l i h) h
theorem znP(K:Int->Bool):∀(l:List Nd)(i:Bool),zJ l i=false->zJ (zb9 K l) i=false
 |[],i,h=>by rw[zb9];exact h
 |
  x::l,i,h=>by
  rw[zJ,Ws]at h;rw[zb9];split
  .exact znP K l i h.2
  .rw[zJ,zuf K x i h.1,znP K l i h.2];rfl
end
def zsR(k:Int):Prop:=k=1\/k=3\/k=4\/k=5\/k=6
def zso(n:Nd):Prop:=∀y∈allN n,¬zsR y.f.kind->y.l=[]
theorem zso.like{n m:Nd}(h:zso n)(k:zvd n m):zso m:=λy j b=>by
 rcases k y j with ⟨c,_⟩|⟨o,c,d,_,e⟩
 .rw[c]at b;exact absurd (.inl rfl) b
 .rw[d]at b;have:=e λg=>b (.inl g)
  rw[h o c b]at this;exact WP this
theorem zqB(n:Nd):n∈allN n:=by cases n;rw[allN];exact Wl
theorem zxo{f:NdF}{c:List Ex}{l:List Nd}{y:Nd}(h:y∈zag l):y∈allN (.mk f c l):=by rw[allN];exact Wh _ h
mutual
theorem zzk:∀n:Nd,zso n->zdC n=true
 |
  .mk f c l,h=>by
  have d:∀y∈zag l,¬zsR y.f.kind->y.l=[]:=λy e=>h y (zxo e)
  by_cases b:f.kind=8
  .have:l=[]:=h _ (zqB _) (by show ¬zsR f.kind;unfold zsR;omega);rw[this,zdC,zH];simp
  .exact zi7 (zvS l d) b
theorem zvS:∀l:List Nd,(∀y∈zag l,¬zsR y.f.kind->y.l=[])->zH l=true
 |[],_=>by rw[zH]
 |
  x::l,h=>by
  rw[zag]at h;rw[zH,zzk x λy b=>h y (Wa _ b),zvS l λy b=>h y (Wf _ b)];rfl
end
section
variable {S:Shp}{R:List Nat}{T:Nat->Option Nat}{st:List PSt}{L:LabE}
structure RunG(st:List PSt)(S:Shp)(R:List Nat):Prop where
 run:∀x∈R,Run st S x
 one:∀x∈R,∀p p',Vst st p x->Vst st p' x->p=p'
 tg:∀x∈R,∀t∈tgS (S.last x),∃u∈R,t=(u:Nat)
 ne:∀x∈R,(S.last x).op=8->(S.last x).cases≠[]
end
mutual
theorem zCK:∀(n:Nd)(b:Int),(coll labP n).count b=wN (wLab b) n
 |
  .mk f c l,b=>by
  rw[coll,wN,Wy,zzn l b];congr 1;unfold labP wLab;by_cases h:f.kind=10
  .rw[if_pos h];by_cases d:f.label=b
   .rw[if_pos ⟨h,d⟩,d];simp
   .rw[if_neg (λe=>d e.2),Wz (by simp;exact λh=>d h.symm)]
  .rw[if_neg h,if_neg (λe=>h e.1)];rfl
theorem zzn:∀(l:List Nd)(b:Int),(zby labP l).count b=wNs (wLab b) l
 |[],b=>by rw[zby,wNs];rfl
 |n::l,b=>by rw[zby,wNs,Wy,zCK n b,zzn l b]
end
mutual
theorem zCM:∀(n:Nd)(b:Int),(coll blkP n).count b=wN (wBlk b) n
 |
  .mk f c l,b=>by
  rw[coll,wN,Wy,zyq l b];congr 1;unfold blkP wBlk;by_cases h:f.kind=2\/f.kind=5
  .rw[if_pos h];by_cases d:f.block=b
   .rw[if_pos ⟨h,d⟩,d];simp
   .rw[if_neg (λe=>d e.2),Wz (by simp;exact λh=>d h.symm)]
  .rw[if_neg h,if_neg (λe=>h e.1)];rfl
theorem zyq:∀(l:List Nd)(b:Int),(zby blkP l).count b=wNs (wBlk b) l
 |[],b=>by rw[zby,wNs];rfl
 |n::l,b=>by rw[zby,wNs,Wy,zCM n b,zyq l b]
end
theorem zxm{p:NdF->List Int}{n:Nd}{x:Int}:x∈coll p n↔∃y∈allN n,x∈p y.f:=by rw[zs8,WH]
def zLT(n:Nd):Prop:=∀y∈allN n,y.f.kind≠1->∀z∈y.l,z.f.kind≠10
mutual
theorem zvL(K:Int->Bool):∀n:Nd,zLT n->zvd n (zf8 K n)
 |
  .mk f c l,h=>by
  rw[zf8];refine zed.node (zuw K l λy d=>h y (zxo d)) λb=>?_
  have:∀z∈l,z.f.kind≠10:=h _ (zqB _) b;clear h b
  induction l with
  |nil=>rfl
  |cons a l ih=>rw[zb9,if_neg (λh=>this a Wl h.1),Wt,Wt,ih λz e=>this z (Wh _ e)]
theorem zuw(K:Int->Bool):∀l:List Nd,(∀y∈zag l,y.f.kind≠1->∀z∈y.l,z.f.kind≠10)->zed (zag l) (zag (zb9 K l))
 |[],_=>by rw[zb9];exact zed.refl _
 |
  x::l,h=>by
  rw[zag]at h;have c:=zuw K l λy b=>h y (Wf _ b)
  rw[zb9];split
  .rw[zag];exact c.up λy b=>Wf _ b
  .rw[zag,zag];exact(zvL K x λy b=>h y (Wa _ b)).app c
end
mutual
theorem zrn{p:NdF->List Int}(K:Int->Bool)(b:∀f:NdF,f.kind=10->p f=[]):∀n:Nd,zso n->coll p (zf8 K n)=coll p n
 |
  .mk f c l,h=>by
  rw[zf8,coll,coll,zt4 K b l λy d=>h y (zxo d)]
theorem zt4{p:NdF->List Int}(K:Int->Bool)(b:∀f:NdF,f.kind=10->p f=[]):∀l:List Nd,(∀y∈zag l,¬zsR y.f.kind->y.l=[])->zby p (zb9 K l)=zby p l
 |[],_=>by rw[zb9]
 |
  x::l,h=>by
  rw[zag]at h;have e:=zt4 K b l λy d=>h y (Wf _ d)
  rw[zb9];split
  .rename_i g;rw[zby,e];obtain⟨f,c,k⟩:=x;have m:k=[]:=h (.mk f c k) (Wa _ (zqB _)) (by have j:f.kind=10:=g.1;show ¬zsR f.kind;unfold zsR;omega);rw[coll,m,zby,b f g.1];rfl
  .rw[zby,zby,e,zrn K b x λy d=>h y (Wa _ d)]
end
def onlyL(K:Int->Bool)(l:List Int):List Int:=l.filter K
mutual
theorem zyL(K:Int->Bool):∀n:Nd,zso n->(n.f.kind≠10\/K n.f.label=true)->coll labP (zf8 K n)=onlyL K (coll labP n)
 |
  .mk f c l,h,b=>by
  rw[zf8,coll,coll];unfold onlyL;rw[WA,zvO K l λy e=>h y (zxo e)];congr 1;unfold labP;split
  .rename_i d;rcases b with b|b
   .exact absurd d b
   .have b:K f.label=true:=b;simp[b]
  .rfl
theorem zvO(K:Int->Bool):∀l:List Nd,(∀y∈zag l,¬zsR y.f.kind->y.l=[])->zby labP (zb9 K l)=(zby labP l).filter K
 |[],_=>by rw[zb9,zby];rfl
 |
  x::l,h=>by
  rw[zag]at h;have m:=zvO K l λy j=>h y (Wf _ j)
  rw[zb9,zby,WA];split
  .rename_i d;rw[m];obtain⟨f,c,k⟩:=x;have b:f.kind=10:=d.1;have e:k=[]:=h (.mk f c k) (Wa _ (zqB _)) (by show ¬zsR f.kind;unfold zsR;omega);have g:K f.label=false:=d.2;rw[coll,e,zby];unfold labP;rw[if_pos b];simp[g]
  .rename_i d
   rw[zby,m,zyL K x (λy j=>h y (Wa _ j)) (by
    by_cases b:x.f.kind=10
    .exact .inr (by cases e:K x.f.label with|true=>rfl|false=>exact absurd ⟨b,e⟩ d)
    .exact .inl b)]
   rfl
end
section
variable {S:Shp}{R:List Nat}{T:Nat->Option Nat}
theorem zxd{x:Nat}{y:Nd}(h:EmP S x y):(¬zsR y.f.kind->y.l=[])/\(y.f.kind≠1->∀z∈y.l,z.f.kind≠10)/\(zbE y.f.kind=true->y.l.length=1):=by
 cases h with
 |seq l=>exact⟨λh=>absurd (.inl rfl) h,λh=>absurd rfl h,λh=>by simp[nSeq,Nd.f,zbE]at h⟩
 |label=>exact⟨λ_=>rfl,λ_ z d=>by simp[zax,Nd.l]at d,λh=>by simp[zax,Nd.f,zbE]at h⟩
 |block=>exact⟨λ_=>rfl,λ_ z d=>by simp[zax,Nd.l]at d,λh=>by simp[zax,Nd.f,zbE]at h⟩
 |loop n _ g=>exact⟨λh=>absurd (.inr (.inr (.inl rfl))) h,λ_ z d=>by rw[Wc.1 (show z∈[n]from d)];exact g,λ_=>rfl⟩
 |while_ n _ _ _ g=>exact⟨λh=>absurd (.inr (.inr (.inr (.inl rfl)))) h,λ_ z d=>by rw[Wc.1 (show z∈[n]from d)];exact g,λ_=>rfl⟩
 |if_ a b _ j k=>exact⟨λh=>absurd (.inr (.inl rfl)) h,λ_ z d=>by
   rcases Wv.1 (show z∈[a,b]from d)with rfl|d
   .exact j
   .rw[Wc.1 d];exact k,λh=>by simp[Nd.f,zbE]at h⟩
 |switch l _ _ e=>exact⟨λh=>absurd (.inr (.inr (.inr (.inr rfl)))) h,λ_ z d=>e z d,λh=>by simp[Nd.f,zbE]at h⟩
 |ret=>exact⟨λ_=>rfl,λ_ z d=>by simp[zax,Nd.l]at d,λh=>by simp[zax,Nd.f,zbE]at h⟩
 |halt=>exact⟨λ_=>rfl,λ_ z d=>by simp[zax,Nd.l]at d,λh=>by simp[zax,Nd.f,zbE]at h⟩
 |leaf t c _ _ _=>
  have e:(zeJ c t).l=[]:=by rcases zDb c t with ⟨_,h⟩|⟨_,h⟩|⟨_,h⟩|h<;>rw[h]<;>rfl
  refine⟨λ_=>e,λ_ z d=>(by rw[e]at d;cases d),λh=>?_⟩;have:=zi9 c t;unfold zbE at h;have:=of_decide_eq_true h;omega
theorem zMp{x:Nat}{y:Nd}(h:EmP S x y)(d:y.f.kind=10):y.f.label=(x:Int):=by
 cases h with
 |seq l=>cases d
 |label=>rfl
 |block=>cases d
 |loop n=>cases d
 |while_ n=>cases d
 |if_ a b=>cases d
 |switch l=>cases d
 |ret=>cases d
 |halt=>cases d
 |leaf t c _ _ _=>have:=zi9 c t;omega
theorem zMy{x:Nat}{y:Nd}(h:EmP S x y)(d:y.f.kind=2\/y.f.kind=5):y.f.block=(x:Int):=by
 cases h with
 |seq l=>rcases d with d|d<;>cases d
 |label=>rcases d with d|d<;>cases d
 |block=>rfl
 |loop n=>rcases d with d|d<;>cases d
 |while_ n=>rfl
 |if_ a b=>rcases d with d|d<;>cases d
 |switch l=>rcases d with d|d<;>cases d
 |ret=>rcases d with d|d<;>cases d
 |halt=>rcases d with d|d<;>cases d
 |leaf t c _ _ _=>have:=zi9 c t;omega
theorem zJL(D:Tr S R T){x:Nat}(m:x∈R){y:Nd}(h:EmP S x y)(d:y.f.kind=9):∃u∈R,y.f.label=(u:Int)/\(T u=none\/2<=S.cnt u):=by
 cases h with
 |seq l=>cases d
 |label=>cases d
 |block=>cases d
 |loop n=>cases d
 |while_ n=>cases d
 |if_ a b=>cases d
 |switch l=>cases d
 |ret=>cases d
 |halt=>cases d
 |leaf t c ht hi hc=>obtain⟨u,e,g,j,k⟩:=zKa D m hc ht hi d;exact⟨u,e,by rw[j,g];rfl,k⟩
def c0:Ctx:=⟨-1,-1,-1⟩
theorem zyM(l:List Nat)(c:Ctx):(zbf l c).h=c.h/\(zbf l c).x=c.x:=by cases l<;>exact⟨rfl,rfl⟩
def CtxS(c:Ctx)(i:Bool):Prop:=i=true\/(c.h = -1/\c.x = -1)
theorem CtxS.first{c:Ctx}{i:Bool}(h:CtxS c i)(l:List Nat):CtxS (zbf l c) i:=by unfold CtxS;rw[(zyM l c).1,(zyM l c).2];exact h
theorem zja{k b t:Int}{i:Bool}(h:k≠7)(e:k≠8):zbi (zax k b t) i=false:=by rw[zax,zbi,if_neg (by intro d;rcases d.1 with c|c<;>simp only at c<;>omega),zJ]
theorem zHN{code:Nat->Ctx->Nd}{k:Nat}{c:Ctx}{i:Bool}{t:Int}(g:0<=t)(b:CtxS c i)(d:∀u∈inlL S k,zbi (code u c) i=false):zbi (wayN S code k c t) i=false:=by
 unfold wayN;split
 .exact d _ ‹_›
 rcases zDb c t with ⟨_,h⟩|⟨e,h⟩|⟨e,h⟩|h
 .rw[h,nSeq,zfP rfl,zJ]
 .rw[h,zax,zbi,zJ];rcases b with b|b
  .rw[b,if_neg (λh=>by cases h.2)]
  .rw[b.1]at e;omega
 .rw[h,zax,zbi,zJ];rcases b with b|b
  .rw[b,if_neg (λh=>by cases h.2)]
  .rw[b.2]at e;omega
 .rw[h];exact zja (by decide) (by decide)
theorem zCk(D:Tr S R T){code:Nat->Ctx->Nd}{k:Nat}(o:k∈R){c:Ctx}{i:Bool}(n:CtxS c i)(d:∀u∈inlL S k,zbi (code u c) i=false):zbi (trN S code k c) i=false:=by
 have b:∀t∈tgS (S.last k),zbi (wayN S code k c t) i=false:=λt e=>by obtain⟨u,_,rfl⟩:=D.tg k o t e;exact zHN (by omega) n d
 unfold tgS at b;unfold trN;by_cases g:(S.last k).op=6
 .simp only[if_pos g]at b⊢;exact b _ (by simp)
 simp only[if_neg g]at b⊢;by_cases j:(S.last k).op=7
 .simp only[if_pos j]at b⊢;rw[zbi,if_neg (by intro h;rcases h.1 with h|h<;>cases h),zJ,zJ,zJ];simp only[show decide ((3:Int)=4)=false by decide,show decide ((3:Int)=5)=false by decide,Wo];rw[b _ (by simp),b _ (by simp)];rfl
 simp only[if_neg j]at b⊢;by_cases m:(S.last k).op=8
 .simp only[if_pos m]at b⊢;rw[zbi,if_neg (by intro h;rcases h.1 with h|h<;>cases h)];simp only[show decide ((6:Int)=4)=false by decide,show decide ((6:Int)=5)=false by decide,Wo];generalize (S.last k).cases=l at b
  induction l with
  |nil=>rw[List.map_nil,zJ]
  |cons a l p=>rw[Wi,zJ,b a Wl,p λt e=>b t (Wh _ e)];rfl
 simp only[if_neg m];split<;>exact zja (by decide) (by decide)
theorem zph{code:Nat->Ctx->Nd}{i:Bool}:∀{l:List Nat}{c:Ctx},CtxS c i->(∀u∈l,∀c,CtxS c i->zbi (code u c) i=false)->zJ (zbP code c l) i=false
 |[],c,_,_=>by rw[zbP,zJ]
 |
  a::l,c,hc,h=>by
  rw[zbP,zJ,h a Wl _ (hc.first l),zph hc λu b=>h u (Wh _ b)];rfl
theorem zwm(D:Tr S R T):∀(f k:Nat)(c:Ctx)(i:Bool),k∈R->CtxS c i->zbi (zeS S f k c) i=false
 |0,k,c,i,_,_=>by rw[zeS,nSeq,zfP rfl,zJ]
 |
  f+1,k,c,i,hk,hc=>by
  have j:∀u∈S.kids k,∀c i,CtxS c i->zbi (zeS S f u c) i=false:=λu d c i h=>zwm D f u c i ((D.kid k u).1 d).1 h
  have m:∀c i,CtxS c i->∀u∈inlL S k,zbi (zeS S f u c) i=false:=λc i h u d=>j u (zt0.1 d).1 c i h
  have g:∀c i,CtxS c i->zJ (zbP (zeS S f) c (zan S k)) i=false:=λc i h=>zph h λu d c h=>j u (zrm.1 d).1 c i h
  rw[zeS];split
  .rw[nSeq,zfP rfl,zJ,zJ,zja (by decide) (by decide),zph hc λu d c h=>j u (zs1 d) c i h];have b:CtxS (inC S k c) true:=.inl rfl;have e:=zCk D hk (b.first (zan S k)) (m _ _ (b.first (zan S k)))
   have o:zbi (zwF S (zeS S f) k c) i=false:=by
    unfold zwF;split
    .rename_i n;rw[WI]at n;obtain⟨q,p,s,t⟩:=zAe (zhs f) n.2;rw[p]at e⊢;simp only[Nd.cond,hd0,Nd.l,List.getD_cons_zero];rw[zbi,if_neg (by intro h;rcases h.1 with h|h<;>cases h),zJ,zJ]at e;simp only[show decide ((3:Int)=4)=false by decide,show decide ((3:Int)=5)=false by decide,Wo,Ws]at e;rw[zbi,if_neg (by intro h;rcases h.1 with h|h<;>cases h),zJ,zJ,nSeq,zfP rfl];simp only[show decide ((5:Int)=4)=false by decide,decide_true,Wo,Bool.or_true];rw[zJ,e.1,g _ _ b];rfl
    .rw[zbi,if_neg (by intro h;rcases h.1 with h|h<;>cases h),zJ,zJ,nSeq,zfP rfl];simp only[decide_true,show decide ((4:Int)=5)=false by decide,Wo,Bool.or_true];rw[zJ,zJ,zja (by decide) (by decide),e,g _ _ b];rfl
   rw[o];rfl
  .rw[nSeq,zfP rfl,zJ,zJ,zJ,zja (by decide) (by decide),zja (by decide) (by decide),zCk D hk (hc.first (zan S k)) (m _ _ (hc.first (zan S k))),g _ _ hc];rfl
end
section
variable {S:Shp}{R:List Nat}{T:Nat->Option Nat}
def bldN(S:Shp)(n:Nat):Nd:=zeS S n 0 c0
def zE4(N:Nd)(x:Int):Bool:=decide (x∈coll zm1 N)
def bld(S:Shp)(n:Nat):Nd:=zf8 (zE4 (bldN S n)) (bldN S n)
theorem zBP(k:Nat):∀l:List Nat,(l.map λx=>if x=k then 1 else 0).sum=l.count k
 |[]=>rfl
 |
  a::l=>by
  rw[Wi,Ww,zBP k l,WJ];by_cases h:a=k
  .rw[if_pos h,if_pos (by simp[h])];omega
  .rw[if_neg h,if_neg (by simp[h])];omega
theorem zlv(D:Tr S R T)(P:Top R T){n:Nat}(b:R.length<=n){y:Nd}(h:y∈allN (bldN S n)):∃x∈R,EmP S x y:=zvy D n 0 c0 P.zero (by rw[P.first];omega) h
theorem zFs(D:Tr S R T)(P:Top R T){n:Nat}(c:R.length<=n):zso (bldN S n)/\zLT (bldN S n)/\zup (bldN S n):=by
 refine⟨λy b=>?_,λy b=>?_,λy b=>?_⟩;all_goals obtain⟨x,_,h⟩:=zlv D P c b
 .exact(zxd h).1
 .exact(zxd h).2.1
 .exact(zxd h).2.2
theorem zKG{y:Nd}{x:Int}(h:x∈labP y.f):y.f.kind=10/\x=y.f.label:=by
 unfold labP at h;split at h
 .exact⟨‹_›,Wc.1 h⟩
 .cases h
theorem zKB{y:Nd}{x:Int}(h:x∈blkP y.f):(y.f.kind=2\/y.f.kind=5)/\x=y.f.block:=by
 unfold blkP at h;split at h
 .exact⟨‹_›,Wc.1 h⟩
 .cases h
theorem zGa{y:Nd}{x:Int}(h:x∈zm1 y.f):y.f.kind=9/\x=y.f.label:=by
 unfold zm1 at h;split at h
 .exact⟨‹_›,Wc.1 h⟩
 .cases h
theorem zIx(D:Tr S R T)(P:Top R T){n:Nat}(g:R.length<=n):(coll labP (bldN S n)).Nodup/\∀x,x∈coll labP (bldN S n)↔∃u∈R,x=(u:Nat):=by
 have b:∀u:Nat,(coll labP (bldN S n)).count (u:Int)=R.count u:=λu=>by rw[zCK,bldN,zFH D P (wLab u) (λx=>if x=u then 1 else 0) (λx _ v h=>zNB h) g,zBP]
 have e:∀x,x∈coll labP (bldN S n)->∃u∈R,x=(u:Nat):=λx d=>by obtain⟨y,p,j⟩:=zxm.1 d;obtain⟨k,m⟩:=zKG j;obtain⟨u,c,o⟩:=zlv D P g p;exact⟨u,c,by rw[m,zMp o k]⟩
 refine⟨WB.2 λx=>?_,λx=>⟨e x,?_⟩⟩
 .by_cases d:x∈coll labP (bldN S n)
  .obtain⟨u,c,rfl⟩:=e x d;rw[b];exact WB.1 D.nd u
  .rw[Wz d];omega
 .rintro⟨u,c,rfl⟩;refine Wp.1 ?_;rw[b];exact Wp.2 c
theorem zGF(D:Tr S R T)(P:Top R T){n:Nat}(g:R.length<=n):(coll blkP (bldN S n)).Nodup/\∀x,x∈coll blkP (bldN S n)↔∃u∈R,x=(u:Nat):=by
 have b:∀u:Nat,(coll blkP (bldN S n)).count (u:Int)=R.count u:=λu=>by rw[zCM,bldN,zFH D P (wBlk u) (λx=>if x=u then 1 else 0) (λx _ v h=>zMF h) g,zBP]
 have e:∀x,x∈coll blkP (bldN S n)->∃u∈R,x=(u:Nat):=λx d=>by obtain⟨y,p,j⟩:=zxm.1 d;obtain⟨k,m⟩:=zKB j;obtain⟨u,c,o⟩:=zlv D P g p;exact⟨u,c,by rw[m,zMy o k]⟩
 refine⟨WB.2 λx=>?_,λx=>⟨e x,?_⟩⟩
 .by_cases d:x∈coll blkP (bldN S n)
  .obtain⟨u,c,rfl⟩:=e x d;rw[b];exact WB.1 D.nd u
  .rw[Wz d];omega
 .rintro⟨u,c,rfl⟩;refine Wp.1 ?_;rw[b];exact Wp.2 c
theorem zGP(D:Tr S R T)(P:Top R T){n:Nat}(p:R.length<=n){x:Int}(h:x∈coll zm1 (bldN S n)):∃u∈R,x=(u:Nat)/\(T u=none\/2<=S.cnt u):=by obtain⟨y,q,b⟩:=zxm.1 h;obtain⟨c,d⟩:=zGa b;obtain⟨k,o,e⟩:=zlv D P p q;obtain⟨u,g,j,m⟩:=zJL D o e c;exact⟨u,g,by rw[d,j],m⟩
structure BldOk(S:Shp)(n:Nat)(e:Nd):Prop where
 like:zvd (bldN S n) e
 leaf:zso e
 loop:zup e
 labs:(coll labP e).Nodup
 lab:∀x,x∈coll labP e↔x∈coll zm1 (bldN S n)
 goto_:coll zm1 e=coll zm1 (bldN S n)
 blk:coll blkP e=coll blkP (bldN S n)
 stray:zbi e false=false
theorem zup.like{n m:Nd}(h:zup n)(k:zvd n m):zup m:=λy j b=>by
 rcases k y j with ⟨c,_⟩|⟨o,c,d,_,e⟩
 .rw[c]at b;simp[zbE]at b
 .rw[d]at b;rw[e λg=>by rw[g]at b;simp[zbE]at b];exact h o c b
theorem zL5(D:Tr S R T)(P:Top R T){n:Nat}(e:R.length<=n):BldOk S n (bld S n):=by obtain⟨c,g,j⟩:=zFs D P e;have d:=zvL (zE4 (bldN S n)) (bldN S n) g;have m:(bldN S n).f.kind=1:=zhs n 0 c0;have b:coll labP (bld S n)=(coll labP (bldN S n)).filter (zE4 (bldN S n)):=zyL _ _ c (.inl (by rw[m];decide));obtain⟨p,q⟩:=zIx D P e;refine⟨d,c.like d,j.like d,by rw[b];exact p.filter _,λx=>?_,zrn _ (λf k=>by unfold zm1;rw[if_neg (by omega)]) _ c,zrn _ (λf k=>by unfold blkP;rw[if_neg (by omega)]) _ c,zuf _ _ _ (zwm D n 0 c0 false P.zero (.inr ⟨rfl,rfl⟩))⟩;rw[b,Wg];unfold zE4;rw[decide_eq_true_eq];refine⟨λh=>h.2,λh=>⟨?_,h⟩⟩;obtain⟨u,o,rfl,_⟩:=zGP D P e h;exact(q _).2 ⟨u,o,rfl⟩
theorem zMe(D:Tr S R T)(P:Top R T){n:Nat}(j:R.length<=n):BldOk S n (zfe (bld S n)):=by have h:=zL5 D P j;have b:=zzX _ (bld S n) (Wn _);have c:=zzk _ h.leaf;have d:=zod zDX (bld S n) c;have e:=zod zBI (bld S n) c;have g:=zod zE1 (bld S n) c;exact⟨h.like.trans b,h.leaf.like b,h.loop.like b,by rw[d];exact h.labs,λx=>by rw[d];exact h.lab x,e.trans h.goto_,g.trans h.blk,zv8 _ _ (Wn _) _ h.stray⟩
end
end Go.Ab
namespace Go.Ab.Dm
open Go.RowKit Go.Proofs
theorem zli(g:Gr)(b:g.small):zo Tryz.prog zbu [.agg g.cells] (·=za (treeL g.E)):=by
 refine fn_x zra rfl ?_;refine dcU zlD.eq_1 ?_;have m:=hBig;have c:=g.E_len;have o:=b.1;refine Gw1 @uh ?_;intros;(refine zi (λh=>?_) (λh=>?_))<;>(try simp only[dcd]at h)
 ·(refine Gw1 @zhn.eq_1 ?_;intros);refine⟨_,?_,rfl⟩;have:treeL g.E=[]:=by unfold treeL;rw[show g.E.length=0 by omega];rfl
  rw[this];exact zb3 (l:=[]) trivial rfl (Wx _)
 ·(refine Gw1 @uo ?_;intros);refine zd (ze (zii g b) rfl) ?_;refine Gw0 ?_;intros;refine zaV [] 0 _ (zq5 g.E (Gr.E_small b) g.E_ok 0 (by omega)) rfl rfl (Gin4_1 @ud) (Gin4_1 @ud) ?_;rintro v k j ⟨T,d,rfl,rfl,rfl⟩;refine Gw1 @zhn.eq_1 ?_;intros;refine⟨_,?_,rfl⟩;rw[<-treeL_eq g.E_ok (by omega) d];have e:=zhD (n:=g.E.length) (T:=T);have:=zb3 (H:=[(0,.row 1 [] 0),(1,.row 1 ((outI g.E.length T).map cI) 0)]) (H2:=[]) (σ:=nos) (D:=allR) (t:=false) (r:=1) (q:=0) (g:=0) (l:=outI g.E.length T) trivial rfl (by omega)
  rwa [e]at this
theorem inB_order{E}(c:E.ok):inB E.length (orderL E)=reachL E:=by
 unfold inB reachL mapR;refine WC λb h=>?_
 have j:=Wj.1 h;have d:0<E.length:=by omega
 have e:orderL E=ordL E 0:=by unfold orderL ordL;rw[if_neg (by omega)]
 have g:b∈zk1 E 0 (-1)↔RA E (λ_=>False) 0 b:=zx6 c d;rw[e];exact decide_eq_decide.2 ((mem_ordL c d).trans g.symm)
theorem orderL_nd{E}(c:E.ok):NdL E.length (orderL E):=by
 by_cases d:0<E.length
 .have b:orderL E=ordL E 0:=by unfold orderL ordL;rw[if_neg (by omega)]
  rw[b];exact⟨(rpo c d).nd,(rpo c d).lt⟩
 .have b:orderL E=[]:=by unfold orderL;rw[if_pos (by omega)]
  rw[b];exact⟨by simp,by simp⟩
theorem dominator_Reachable_ok(g:Gr)(k:g.small):zo Tryz.prog zbe [.agg g.cells] (·=zR (reachL g.E)):=by
 refine fn_x zmY rfl ?_;refine dcU zg6.eq_1 ?_;have o:=hBig;have c:=g.E_len;have u:=k.1;rw[<-inB_order g.E_ok];have b:=orderL_nd g.E_ok;refine Gw2 @uh @uo ?_;intros;refine zd (ze (zgp g k) rfl) ?_;generalize orderL g.E=l at b⊢;generalize g.E.length=n at c b⊢;subst c;have m:=b.len;refine Gw1 @ue ?_;intros;refine zf (λi:Nat=>([(3,.own 0 0 0 0 g.blocks.length),(11,zc l),(12,.int .i64 l.length),(13,.int .i64 i)],[(0,.row 1 ((inB g.blocks.length (l.take i)).map cB) 0)])) 1 (λi=>i<=l.length) (λi=>l.length-i) 0 (Wx _) (Ent.tab [(0,1,0)] [] rfl (Gin4_1 @zxh) (Gin4_1 @zxh)) ?_;intro i p wf;refine dcU zfA.eq_1 ?_;refine Gw1 @ue ?_;intros;(refine zi (λh=>?_) (λh=>?_))<;>(try simp only[dcd]at h)
 .have d:i<l.length:=by omega
  have s:=b.lt _ (WQ d);have j:l.take (i+1)=l.take i++[l[i]]:=by rw[WR,Wq d];rfl
  refine Gw3 (gmp d) @zwy @zGs ?_;intros;exact⟨i+1,by omega,by omega,(Ent.tab [(0,0,0)] [] rfl (Gin4_1 j) (Gin4_1 j))⟩
 .unfold zfM;refine Gw1 @zhi.eq_1 ?_;intros;refine⟨_,?_,rfl⟩;rw[WS (by omega)];have e:=zwy (n:=g.blocks.length) (l:=l);have:=zmn (H:=[(0,.row 1 ((inB g.blocks.length l).map cB) 0)]) (H2:=[]) (σ:=nos) (D:=allR) (t:=false) (r:=0) (q:=0) (g:=0) (l:=inB g.blocks.length l) trivial rfl (by omega)
  rwa [e]at this
theorem zmZ(t:List Int)(a b:Int)(I:t.length<=1000):zo Tryz.prog zdk [za t,.int .i64 a,.int .i64 b] (·=.bool (domL t a b)):=by
 refine fn_x zm0 rfl ?_;refine dcU zg8.eq_1 ?_;have H:=hBig
 have out:∀c m,¬(0<=c/\c<(t.length:Int))->zxR t a m c=false:=by
  intro c m h
  cases m with
  |zero=>rfl
  |succ m=>simp only[zxR];rw[if_neg h]
 unfold domL;refine Gw1 @uf ?_;intros;generalize w:decide (a<0)=o;cases o<;>simp only[decide_eq_true_eq,decide_eq_false_iff_not,ne_eq,Xa]at w
 rotate_left
 ·(refine Gw1 @zao.eq_1 ?_;intros);rw[if_pos (.inl w)];exact bzO
 refine Gw0 ?_;intros;generalize x:decide (a >= t.length)=p;cases p<;>simp only[decide_eq_true_eq,decide_eq_false_iff_not,ne_eq,Xa]at x
 rotate_left
 ·(refine Gw1 @zao.eq_1 ?_;intros);rw[if_pos (.inr x)];exact bzO
 rw[if_neg (by omega)];refine Gw0 ?_;intros;generalize B:decide (b<0)=q;cases q<;>simp only[decide_eq_true_eq,decide_eq_false_iff_not,ne_eq,Xa]at B
 rotate_left
 ·(refine Gw1 @zao.eq_1 ?_;intros);rw[out b _ (by omega)];exact bzO
 refine Gw0 ?_;intros;(refine zi (λy=>?_) (λy=>?_))<;>(try simp only[dcd]at y)
 ·(refine Gw1 @zao.eq_1 ?_;intros);rw[out b _ (by omega)];exact bzO
 refine Gw0 ?_;intros;refine zf (λs:Nat×Int=>([(0,za t),(1,.int .i64 a),(2,.int .i64 s.2),(27,.int .i64 ((t.length:Int)+1)),(28,.int .i64 s.1)],[])) 0 (λs=>s.1<=t.length+1/\0<=s.2/\s.2<t.length/\zxR t a (t.length+1-s.1) s.2=zxR t a (t.length+1) b) (λs=>t.length+1-s.1) (0,b) ⟨Wx _,by simp only;omega,by simp only;omega,rfl⟩ (Ent.keep rfl fin5) ?_;rintro⟨i,c⟩ ⟨D,v,g,k⟩ wf;simp only at D v g k;rw[<-k];refine dcU zfr.eq_1 ?_;refine Gw0 ?_;intros;(refine zi (λz=>?_) (λz=>?_))<;>(try simp only[dcd]at z)
 .obtain⟨m,F⟩:∃m,t.length+1-i=m+1:=⟨t.length-i,by omega⟩;have j:c.toNat<t.length:=by omega
  have e:zxR t a (t.length+1-i) c=if a=c then true else zxR t a m (t[c.toNat]):=by rw[F];simp only[zxR];rw[if_pos ⟨by omega,g⟩,Wd,Wq j,Option.getD_some]
  refine Gw0 ?_;intros;(refine zi (λn=>?_) (λn=>?_))<;>(try simp only[dcd]at n)
  ·(refine Gw1 @zao.eq_1 ?_;intros);rw[e,if_pos n];exact bzO
  .rw[if_neg n]at e;refine Gw2 @uf (gmp j) ?_;intros;generalize t[c.toNat]=d at e⊢;generalize C:decide (d<0)=u;cases u<;>simp only[decide_eq_true_eq,decide_eq_false_iff_not,ne_eq,Xa]at C
   ·(refine Gw0 ?_;intros);(refine zi (λA=>?_) (λA=>?_))<;>(try simp only[dcd]at A)
    ·(refine Gw1 @zao.eq_1 ?_;intros);rw[e,out d m (by omega)];exact bzO
    ·(refine Gw0 ?_;intros);refine⟨(i+1,d),⟨by simp only;omega,by simp only;omega,by simp only;omega,?_⟩,by simp only;omega,Ent.keep rfl fin5⟩;simp only;rw[e,show t.length+1-(i+1)=m by omega]
   ·(refine Gw1 @zao.eq_1 ?_;intros);rw[e,out d m (by omega)];exact bzO
 .unfold zfI;refine Gw1 @zao.eq_1 ?_;intros;rw[show t.length+1-i=0 by omega];exact bzO
theorem zdh(l)(x:Nat):zo Tryz.prog zS [zc l,.int .i64 x] (·=.bool (decide (x∈l))):=by
 have d:zo Tryz.prog zbA [zc l,.int .i64 x] (λv=>∃r:Int,v=.int .i64 r /\ -1<=r/\(0<=r↔x∈l)):=by
  refine fn_x zgv rfl ?_;refine dcU zd4.eq_1 ?_;have j:=hBig;refine Gw1 @ue ?_;intros;refine zf (λi:Nat=>([(0,zc l),(1,.int .i64 x),(7,.int .i64 l.length),(8,.int .i64 i)],[])) 0 (λi=>i<=l.length/\x∉l.take i) (λi=>l.length-i) 0 ⟨Wx _,by simp⟩ (Ent.keep rfl fin5) ?_;intro i ⟨k,c⟩ wf;refine dcU zc9.eq_1 ?_;refine Gw1 @ue ?_;intros;(refine zi (λh=>?_) (λh=>?_))<;>(try simp only[dcd]at h)
  .have b:i<l.length:=by omega
   refine Gw1 (gmp b) ?_;intros;(refine zi (λe=>?_) (λe=>?_))<;>(try simp only[dcd]at e)
   ·(refine Gw1 @zbj.eq_1 ?_;intros);refine⟨_,.int _ _ _,i,rfl,by omega,λ_=>?_,λ_=>by omega⟩;rw[show x=l[i] by omega];exact WQ b
   ·(refine Gw0 ?_;intros);refine⟨i+1,⟨by omega,?_⟩,by omega,Ent.keep rfl fin5⟩;rw[WR,Wq b];simp only[We,not_or,Option.toList,Wc];exact⟨c,by omega⟩
  .unfold zc3;refine Gw1 @zbj.eq_1 ?_;intros;rw[WS (by omega)]at c;exact⟨_,.int _ _ _,-1,rfl,by omega,λh=>by omega,λh=>absurd h c⟩
 refine fn_x ze5 rfl ?_;refine dcU zc4.eq_1 ?_;refine Gw0 ?_;intros;refine zlq (D:=noR) d (.cons (.sl _ _ _ _) (.cons (.int _ _ _) .nil)) (λ_ _=>.inr λ_ _ h=>h) ?_;rintro v ⟨r,rfl,g,e⟩;refine Gw1 @zda.eq_1 ?_;intros;refine⟨_,.bool _ _,?_⟩;have:decide (r >= 0)=decide (x∈l):=decide_eq_decide.2 e;rw[this]
end Go.Ab.Dm
namespace Go.Ab.Dm
theorem RA.nx{E}{X}{a b}(h:RA E X a b):¬X b:=by
 cases h with
 |refl h=>exact h
 |step _ _ h=>exact h
end Go.Ab.Dm
namespace Go.Ab.Dm
open Go.RowKit Go.Proofs
theorem zt3{l:List Nat}{x:Nat}:keepL (l++[x]) l.length=keepL l l.length:=by
 unfold keepL;have h:∀j,j<l.length->(l++[x]).getD j 0=l.getD j 0:=λj b=>by rw[Wd,Wd,WK b]
 have d:filR (zls (l++[x])) l.length=filR (zls l) l.length:=by
  unfold filR;refine WU λj b=>?_
  have c:=Wj.1 b;unfold zls;rw[h j c,h (j-1) (by omega)]
 rw[d];refine WC λj b=>h j ?_
 exact Wj.1 (Wg.1 b).1
theorem zyu{l:List Nat}{x:Nat}(h:l.getLast? ≠ some x):zaT (l++[x])=zaT l++[x]:=by
 unfold zaT;have k:(l++[x]).length=l.length+1:=by simp
 have j:zls (l++[x]) l.length=true:=by
  unfold zls
  cases c:l.length with
  |zero=>rfl
  |succ m=>
   rw[WV,c]at h;have d:(l++[x]).getD (m+1) 0=x:=by rw[Wd,WW (by omega),c,Nat.sub_self];rfl
   have b:m<l.length:=by omega
   have g:(l++[x]).getD (m+1-1) 0=l[m]:=by rw[WD,Wd,WK b,Wq b];rfl
   rw[d,g];rw[WD,Wq b]at h;have:x≠l[m]:=λe=>h (by rw[e])
   simp[this]
 rw[k,zue (by omega) j,zt3];simp
theorem zyJ{l:List Nat}{x:Nat}(h:l.getLast?=some x):zaT (l++[x])=zaT l:=by
 unfold zaT;have j:(l++[x]).length=l.length+1:=by simp
 have g:zls (l++[x]) l.length=false:=by
  unfold zls
  cases c:l.length with
  |zero=>rw[WP c]at h;cases h
  |succ m=>
   rw[WV,c]at h;have d:(l++[x]).getD (m+1) 0=x:=by rw[Wd,WW (by omega),c,Nat.sub_self];rfl
   have b:m<l.length:=by omega
   have e:(l++[x]).getD (m+1-1) 0=l[m]:=by rw[WD,Wd,WK b,Wq b];rfl
   rw[d,e];rw[WD,Wq b]at h;have:x=l[m]:=(Option.some.inj h).symm;simp[this]
 rw[j,zxJ g,zt3]
theorem zr7{l:List Nat}{x:Nat}(h:x∉l):∀c,zaT (l++List.replicate c x)=zaT l++if c=0 then[]else[x]
 |0=>by simp
 |
  c+1=>by
  rw[WX,<-WN]
  cases c with
  |zero=>rw[List.replicate_zero,Wm,zyu (λb=>h (List.mem_of_getLast? b))];rfl
  |succ c=>rw[zyJ (by rw[List.getLast?_append];simp[WX]),zr7 h (c+1)];rfl
theorem zux{A:Adj}{b:Nat}:∀k,zaT (tLL A k b)=filR (λa=>decide (b∈suc A a)) k
 |0=>rfl
 |
  k+1=>by
  have d:tLL A (k+1) b=tLL A k b++List.replicate ((suc A k).count b) k:=by unfold tLL;rw[List.range_succ,WY];simp
  have e:k∉tLL A k b:=by unfold tLL;rw[WH];rintro⟨a,c,g⟩;have h:=Wj.1 c;have j:=List.eq_of_mem_replicate g;omega
  rw[d,zr7 e,zux k];by_cases c:b∈suc A k
  .have:=Wp.2 c;rw[if_neg (by omega),filR_pos (decide_eq_true c)]
  .rw[if_pos (List.count_eq_zero.2 c),filR_neg (decide_eq_false c),Wm]
theorem zw2(E:Adj):((Wk E.length).map λi=>zaT (tLL E E.length i))=predL E:=by
 unfold predL;refine WC λb _=>?_
 rw[zux];rfl
theorem mem_predL{E:Adj}{a b:Nat}(c:b<E.length):a∈suc (predL E) b↔a<E.length/\b∈suc E a:=by simp[suc,predL,Wd,c]
theorem Ch.anti{r:Nat}{l:List Nat}{T:Nat->Option Nat}(w:WT r l T)(c:r∈l){a b:Nat}(h:a∈l)(j:b∈l)(d:Ch T a b)(e:Ch T b a):a=b:=by obtain⟨_,k,g⟩:=w.mem c h d;obtain⟨_,m,_⟩:=w.mem c j e;exact(g (by omega)).symm
structure FrP(E:Adj)(T:Nat->Option Nat)(w j:Nat)(S:Nat->Bool):Prop where
 sub:∀x,S x=true->zHE E x w=true
 all:∀i p,i<j->(suc (predL E) w)[i]?=some p->p∈ordL E 0->∀x,Ch T p x->zHE E x w=true->S x=true
structure FrB(E:Adj)(T:Nat->Option Nat)(w j p:Nat)(b:Option Nat)(S:Nat->Bool):Prop extends FrP E T w j S where
 at_:(suc (predL E) w)[j]?=some p
 pl:p∈ordL E 0
 here:∀c,b=some c->Ch T p c
 rest:∀x,Ch T p x->zHE E x w=true->S x=true\/∃c,b=some c/\Ch T c x
section
variable {E:Adj}{T:Nat->Option Nat}{w j p:Nat}{S:Nat->Bool} (hE:E.ok) (hn:0<E.length) (D:DTree' E 0 (ordL E 0) T) (hw:w<E.length)
include hE hn
theorem z_mem:(0:Nat)∈ordL E 0:=(mem_ordL hE hn).2 (.refl (by simp))
include D
include hw
end
theorem zL2{P:Nat->Prop}{m:Nat->Nat}{B:Nat}(g:∀c,P c->m c<B):∀(d c:Nat),P c->B-m c<=d->∃c,P c/\∀x,P x->m x<=m c
 |0,c,b,h=>by have:=g c b;omega
 |
  d+1,c,b,h=>by
  by_cases e:∀x,P x->m x<=m c
  .exact⟨c,b,e⟩
  .simp only[Xd]at e;obtain⟨x,j,k⟩:=e;exact zL2 g d x j (by have:=g c b;omega)
theorem zMh{A:Adj}{r x c k:Nat}(d:x≠c)(h:RA A (λ_=>False) r k):RA A (λy=>y=x\/y=c) r k\/RA A (·=x) c k\/RA A (·=c) x k:=by
 induction h with
 |refl _=>
  by_cases j:r=x
  .subst j;exact .inr (.inr (.refl d))
  .by_cases m:r=c
   .subst m;exact .inr (.inl (.refl (λe=>d e.symm)))
   .exact .inl (.refl (by rintro(h|h);exact j h;exact m h))
 |@step b k' _ h3 _ g=>
  by_cases j:k'=x
  .subst j;exact .inr (.inr (.refl d))
  .by_cases m:k'=c
   .subst m;exact .inr (.inl (.refl (λe=>d e.symm)))
   .rcases g with g|g|g
    .exact .inl (g.step h3 (by rintro(h|h);exact j h;exact m h))
    .exact .inr (.inl (g.step h3 j))
    .exact .inr (.inr (g.step h3 m))
theorem zK6{A:Adj}{r x c k:Nat}(o:RA A (λ_=>False) r k)(g:Dm A r x k)(m:Dm A r c k):Dm A r x c\/Dm A r c x:=by
 by_cases b:x=c
 .subst b;exact .inl (Dm.refl _)
 .by_cases j:Dm A r x c
  .exact .inl j
  .refine .inr λn=>?_
   have d:RA A (·=x) r c:=Classical.not_not.1 j;rcases zMh b o with h|h|h
   .exact g (mono_RA (λ_ e=>.inl e) h)
   .exact g (d.trans h)
   .exact m (n.trans h)
theorem zJ2{A:Adj}{r x c k:Nat}(p:Dm A r x c)(o:Dm A r c k)(q:RA A (λ_=>False) r k):Dm A r x k:=by
 intro h;by_cases n:x=c
 .subst n;exact o h
 .have key:∀{b},RA A (·=x) r b->RA A (·=c) r b\/RA A (·=x) r c:=by
   intro b m
   induction m with
   |refl h=>
    by_cases g:r=c
    .subst g;exact .inr (.refl h)
    .exact .inl (.refl g)
   |@step b k' m d h4 j=>
    rcases j with j|j
    .by_cases e:k'=c
     .subst e;exact .inr (m.step d h4)
     .exact .inl (j.step d e)
    .exact .inr j
  rcases key h with d|d
  .exact o d
  .exact p d
theorem dtree_ex{E:Adj}(N:E.ok)(R:0<E.length):∃T,DTree' E 0 (ordL E 0) T:=by
 obtain⟨f,L⟩:=(rpo N R).lay;have Q:∀x,x∈ordL E 0↔RA E (λ_=>False) 0 x:=λx=>mem_ordL N R
 have D:Lay E 0 (ordL E 0) f:=L;generalize ordL E 0=l at *
 have early:∀(n k x:Nat),k∈l->l.idxOf k<=n->l.idxOf k<l.idxOf x->RA E (·=x) 0 k:=by
  intro n
  induction n with
  |zero=>
   intro k x d g m;have:k=0:=Xb λh=>by have:=D.pos d h;omega
   subst this;exact .refl (λe=>by subst e;omega)
  |succ n A=>
   intro k x d g m;by_cases p:k=0
   .subst p;exact .refl (λe=>by subst e;omega)
   .obtain⟨y,w,C⟩:=D.fm k d p;exact(A (f k) x y (by omega) (by omega)).step w (λe=>by subst e;omega)
 have t:∀{x k},x∈l->k∈l->Dm E 0 x k->x≠k->l.idxOf x<l.idxOf k:=by
  intro x k v d hd K;rcases Nat.lt_trichotomy (l.idxOf x) (l.idxOf k)with h|h|h
  .exact h
  .exact absurd (D.inj v d h) K
  .exact absurd (early _ k x d (Wn _) h) hd
 have z:∀k,Dm E 0 0 k:=λk h=>by
  have:∀{b},RA E (·=0) 0 b->False:=by
   intro b V
   induction V with
   |refl h=>exact h rfl
   |step _ _ _ A=>exact A
  exact this h
 have J:∀k,k∈l/\k≠0->∃c,(c∈l/\c≠k/\Dm E 0 c k)/\∀x,(x∈l/\x≠k/\Dm E 0 x k)->l.idxOf x<=l.idxOf c:=λk d=>
  zL2 (B:=l.length) (λc W=>zln W.1) l.length 0 ⟨D.root,λe=>d.2 e.symm,z k⟩ (by omega)
 obtain⟨T,F,s⟩:∃T:Nat->Option Nat,(∀k,¬(k∈l/\k≠0)->T k=none)/\∀k,k∈l/\k≠0->∃c,T k=some c/\(c∈l/\c≠k/\Dm E 0 c k)/\∀x,(x∈l/\x≠k/\Dm E 0 x k)->l.idxOf x<=l.idxOf c:=by
  have:∀k,∃o:Option Nat,(¬(k∈l/\k≠0)->o=none)/\(k∈l/\k≠0->∃c,o=some c/\(c∈l/\c≠k/\Dm E 0 c k)/\∀x,(x∈l/\x≠k/\Dm E 0 x k)->l.idxOf x<=l.idxOf c):=by
   intro k;by_cases d:k∈l/\k≠0
   .obtain⟨c,g,m⟩:=J k d;exact⟨some c,λh=>absurd d h,λ_=>⟨c,rfl,g,m⟩⟩
   .exact⟨none,λ_=>rfl,λh=>absurd h d⟩
  obtain⟨T,O⟩:=Xe this;exact⟨T,λk=>(O k).1,λk=>(O k).2⟩
 have u:∀k c,T k=some c->k∈l/\k≠0:=λk c h=>Xb λm=>by rw[F k m]at h;cases h
 refine⟨T,⟨F 0 (λh=>h.2 rfl),λk j h=>?_⟩,λk d p h=>?_,λk d x v=>⟨λh=>?_,λh=>?_⟩⟩
 .have d:=u k j h;obtain⟨c,g,⟨m,y,w⟩,_⟩:=s k d;rw[h]at g;cases g;refine⟨d.1,m,t m d.1 w y,?_⟩;by_cases P:j=0
  .exact .inl P
  .obtain⟨X,C,_⟩:=s j ⟨m,P⟩;exact .inr (by rw[C];simp)
 .obtain⟨c,g,_⟩:=s k ⟨d,p⟩;rw[h]at g;cases g
 .have:∀{k x},Ch T k x->k∈l->Dm E 0 x k:=by
   intro k x h
   induction h with
   |refl=>intro _;exact Dm.refl _
   |up g _ A=>intro d;obtain⟨c,m,⟨y,w,C⟩,_⟩:=s _ (u _ _ g);rw[g]at m;cases m;exact zJ2 (A y) C ((Q _).1 d)
  exact this h d
 .have:∀(n k:Nat),k∈l->l.idxOf k<=n->∀x,x∈l->Dm E 0 x k->Ch T k x:=by
   intro n
   induction n with
   |zero=>
    intro k d g x v hd;by_cases q:x=k
    .subst q;exact .refl _
    .have:=t v d hd q;omega
   |succ n A=>
    intro k d g x v hd;by_cases q:x=k
    .subst q;exact .refl _
    .have m:=t v d hd q;have p:k≠0:=λe=>by subst e;have:=D.pl0;omega
     obtain⟨c,y,⟨w,C,M⟩,h7⟩:=s k ⟨d,p⟩;have Y:=t w d M C;refine .up y (A c w (by omega) x v ?_);rcases zK6 ((Q k).1 d) hd M with I|I
     .exact I
     .by_cases H:x=c
      .subst H;exact Dm.refl _
      .have S:=t w v I (λe=>H e.symm);have U:=h7 x ⟨v,q,hd⟩;omega
  exact this _ k d (Wn _) x v h
end Go.Ab.Dm
namespace Go.Ab
open Go.RowKit Go.Proofs
structure EdgeOk(E:Dm.Adj)(last:Nat->St):Prop where
 ok:E.ok
 pos:0<E.length
 tg:∀k,k<E.length->tgS (last k)=(Dm.suc E k).map λ(t:Nat)=>(t:Int)
def ordE(E:Dm.Adj):List Nat:=Dm.ordL E 0
def zdw(E:Dm.Adj)(b:Nat):List Nat:=(ordE E).filter λk=>decide ((Dm.treeL E).getD k (-1)=(b:Int))
def cntE(E:Dm.Adj)(t:Nat):Nat:=((ordE E).map λk=>(Dm.suc E k).count t).sum
def zoB(E:Dm.Adj)(b:Nat):Bool:=(ordE E).any λp=>decide (b∈Dm.suc E p)&&Dm.domL (Dm.treeL E) b p
def zkx(E:Dm.Adj)(b x:Nat):Prop:=x=b\/∃p∈ordE E,b∈Dm.suc E p/\Dm.domL (Dm.treeL E) b p=true/\x∈ordE E/\Dm.RA E (·=b) x p
open Classical in
noncomputable def shpE(E:Dm.Adj)(last:Nat->St)(one:Nat->Bool):Shp:=⟨zdw E,cntE E,zoB E,λb x=>decide (zkx E b x),last,one⟩
theorem zwq{g:Nat->Nat}:∀{l:List Nat}{a b:Nat},a∈l->b∈l->a≠b->0<g a->0<g b->2<=(l.map g).sum
 |
  x::l,a,b,m,k,hne,h1,h2=>by
  rw[Wi,Ww];rcases Wv.1 m with h|d
  .rcases Wv.1 k with e|c
   .exact absurd (h.trans e.symm) hne
   .have j:g b<=(l.map g).sum:=zru g c;rw[<-h];omega
  .rcases Wv.1 k with e|c
   .have j:g a<=(l.map g).sum:=zru g d;rw[<-e];omega
   .have j:2<=(l.map g).sum:=zwq d c hne h1 h2;omega
section
variable {E:Dm.Adj}{last:Nat->St}{one:Nat->Bool} (h:EdgeOk E last)
include h
theorem zma{x:Nat}:x∈ordE E↔Dm.RA E (λ_=>False) 0 x:=Dm.mem_ordL h.ok h.pos
theorem zen{x:Nat}(b:x∈ordE E):x<E.length:=(Dm.rpo h.ok h.pos).lt x b
theorem zz1{k t:Nat}(b:k∈ordE E)(c:t∈Dm.suc E k):t∈ordE E:=(zma h).2 (((zma h).1 b).step c id)
theorem zxq{T:Nat->Option Nat}(D:Dm.DTree' E 0 (ordE E) T){k:Nat}(b:k<E.length):(Dm.treeL E).getD k (-1)=Dm.tI (T k):=by rw[<-Dm.treeL_eq h.ok h.pos D];simp[Dm.outI,Wd,b]
theorem zxQ{o:Option Nat}{b:Nat}:Dm.tI o=(b:Int)↔o=some b:=by
 cases o with
 |none=>exact⟨λe=>by simp only[Dm.tI]at e;omega,λe=>by cases e⟩
 |some a=>simp only[Dm.tI,Option.some.injEq];exact⟨λe=>Int.ofNat.inj e,λe=>by rw[e]⟩
omit h in
theorem zvQ(t:Nat):∀l:List Nat,(l.map λ(x:Nat)=>(x:Int)).count (t:Int)=l.count t
 |[]=>rfl
 |
  a::l=>by
  rw[Wi,WJ,WJ,zvQ t l];by_cases e:a=t
  .simp[e]
  .have b:¬((a:Int)=(t:Int)):=by omega
   simp[e,b]
omit h in
theorem zLP{X:Nat->Prop}{a b:Nat}(g:Dm.RA E X a b)(c:a≠b):∃m,Dm.RA E X a m/\b∈Dm.suc E m:=by
 cases g with
 |refl _=>exact absurd rfl c
 |step d e _=>exact⟨_,d,e⟩
theorem zIL{X:Nat->Prop}{m:Nat}(b:Dm.RA E X 0 m):m∈ordE E:=(zma h).2 (Dm.mono_RA (λy c=>c.elim) b)
theorem zzg{T:Nat->Option Nat}(D:Dm.DTree' E 0 (ordE E) T):Tr (shpE E last one) (ordE E) T:=by
 have hz:0∈ordE E:=Dm.z_mem h.ok h.pos;have o:=λ{x} (U:x∈ordE E)=>zen h U
 have F:∀t,cntE E t=(((ordE E).map λk=>(tgS (last k)).count (t:Int)).sum):=λt=>by
  unfold cntE;congr 1;refine WC λk d=>?_
  rw[h.tg k (o d),zvQ]
 have I:∀{k:Nat}{t:Int},k∈ordE E->t∈tgS (last k)->∃u∈Dm.suc E k,t=(u:Nat):=λ{k t} d q=>by rw[h.tg k (o d)]at q;obtain⟨u,A,rfl⟩:=Wu.1 q;exact⟨u,A,rfl⟩
 refine⟨(Dm.rpo h.ok h.pos).nd,λk t=>?_,λk=>((Dm.rpo h.ok h.pos).nd).filter _,λk t d q s=>(D.wt.up t k s).2.2.1,λk d t q=>?_,F,λk d t s q v=>?_,λt q k s=>?_⟩
 .show t∈zdw E k↔_;unfold zdw;rw[Wg,decide_eq_true_eq];exact⟨λ⟨v,n⟩=>⟨v,by rw[zxq h D (o v)]at n;exact(zxQ h).1 n⟩,λ⟨v,n⟩=>⟨v,by rw[zxq h D (o v)];exact(zxQ h).2 n⟩⟩
 .obtain⟨u,A,rfl⟩:=I d q;exact⟨u,zz1 h d A,rfl⟩
 .obtain⟨u,A,e⟩:=I d q;have e:t=u:=Int.ofNat.inj e;subst e;have z:=zz1 h d A;have H:t≠0:=λe=>s (e▸D.wt.root)
  have p:∀m∈ordE E,t∈Dm.suc E m->m=k:=λm J R=>Xb λy=>by have n:=zwq (g:=λk=>(Dm.suc E k).count t) d J (λe=>y e.symm) (Wp.2 A) (Wp.2 R);have M:cntE E t=1:=v;unfold cntE at M;omega
  have N:Dm.Dm E 0 k t:=λZ=>by obtain⟨m,n,C⟩:=zLP Z (λe=>H e.symm);exact n.nx (p m (zIL h n) C)
  obtain⟨j,B⟩:∃j,T t=some j:=by
   cases B:T t with
   |none=>exact absurd B s
   |some j=>exact⟨j,rfl⟩
  obtain⟨_,w,O,_⟩:=D.wt.up t j B
  have Q:k≠t:=λe=>by
   have S:∀x,Dm.RA E (λ_=>False) 0 x->x≠t:=λx U=>by
    induction U with
    |refl _=>exact λe=>H e.symm
    |@step b c n C _ ih=>exact λL=>ih ((p b (zIL h n) (L▸C)).trans e)
   exact S t ((zma h).1 z) rfl
  have W:Dm.Ch T t k:=(D.ch t z k d).2 N
  have X:Dm.Ch T j k:=by
   rcases W.cases' with e|⟨j',V,L⟩
   .exact absurd e Q
   .rw[B]at V;cases V;exact L
  have K:Dm.Dm E 0 j t:=(D.ch t z j w).1 (.up B (.refl j));have P:j≠t:=λe=>by rw[e]at O;omega
  have Y:Dm.Ch T k j:=(D.ch k d j w).2 (K.pred A P);rw[B,Dm.Ch.anti D.wt hz d w Y X]
 .have y:0≠t:=λe=>by rw[<-e,D.wt.root]at s;cases s
  obtain⟨m,n,C⟩:=zLP ((zma h).1 q) y;have J:=zIL h n;refine⟨(D.wt.up t k s).2.1,m,J,?_⟩;show(t:Int)∈tgS (last m);rw[h.tg m (o J)];exact Wu.2 ⟨t,C,rfl⟩
theorem zwt{T:Nat->Option Nat}(D:Dm.DTree' E 0 (ordE E) T):Top (ordE E) T:=by obtain⟨t,b⟩:=(Dm.rpo h.ok h.pos).head;refine⟨Dm.z_mem h.ok h.pos,?_,D.wt.root,D.held⟩;show(Dm.dfs E E.length 0 ([],[])).2.reverse.idxOf 0=0;rw[b];simp
end
def zu4(E:Dm.Adj)(b p:Nat):Prop:=p∈ordE E/\b∈Dm.suc E p/\Dm.domL (Dm.treeL E) b p=true
theorem zE0{E:Dm.Adj}{b p:Nat}(h:zu4 E b p):zkx E b p:=by
 by_cases c:p=b
 .exact .inl c
 .exact .inr ⟨p,h.1,h.2.1,h.2.2,h.1,.refl c⟩
theorem zBJ{E:Dm.Adj}{b x y:Nat}(h:zkx E b x)(e:x≠b)(n:y∈ordE E)(d:x∈Dm.suc E y):zkx E b y:=by
 by_cases c:y=b
 .exact .inl c
 rcases h with h|⟨p,g,j,k,_,m⟩
 .exact absurd h e
 .exact .inr ⟨p,g,j,k,n,((Dm.RA.refl (X:=(·=b)) c).step d e).trans m⟩
theorem zKn{E:Dm.Adj}{last:Nat->St}(j:EdgeOk E last){b:Nat}{S:List Nat}(t:b∈S)(e:∀p,zu4 E b p->p∈S)(d:∀x∈S,x≠b->∀y∈ordE E,x∈Dm.suc E y->y∈S){x:Nat}(h:zkx E b x):x∈S:=by
 rcases h with rfl|⟨p,k,n,o,q,s⟩
 .exact t
 .have key:∀z,Dm.RA E (·=b) x z->z∈S->x∈S:=λz v=>by
   induction v with
   |refl _=>exact id
   |@step m c hm hc hcb ih=>intro g;refine ih (d c g hcb m ?_ hc);exact(zma j).2 (((zma j).1 q).trans (Dm.mono_RA (λ_ u=>u.elim) hm))
  exact key p s (e p ⟨k,n,o⟩)
structure BodyI(E:Dm.Adj)(b:Nat)(S R:List Nat):Prop where
 nd:S.Nodup
 head:b∈S
 inl:∀x∈S,zkx E b x
 lt:∀x∈R,x<E.length
 new:∀x∈R,x∈ordE E->zkx E b x
 src:∀p,zu4 E b p->p∈S\/p∈R
 pre:∀x∈S,x≠b->∀y∈ordE E,x∈Dm.suc E y->y∈S\/y∈R
section
variable {E:Dm.Adj}{last:Nat->St}{b:Nat}{S R:List Nat}
theorem BodyI.start{l:List Nat}(g:EdgeOk E last)(d:∀p,p∈l↔zu4 E b p):BodyI E b [b] l :=
 ⟨by simp,by simp,λx c=>.inl (by simpa using c),λx c=>zen g ((d x).1 c).1,λx c _=>zE0 ((d x).1 c),λp h=>.inr ((d p).2 h),λx c e=>absurd (by simpa using c) e⟩
theorem BodyI.skip{x:Nat}(h:BodyI E b S (R++[x]))(g:x∈S\/x∉ordE E):BodyI E b S R:=by
 have e:∀y,y∈ordE E->(y∈S\/y∈R++[x])->y∈S\/y∈R:=λy d c=>by
  rcases c with c|c
  .exact .inl c
  .rcases We.1 c with c|c
   .exact .inr c
   .rw[Wc.1 c]at d⊢;rcases g with g|g
    .exact .inl g
    .exact absurd d g
 exact⟨h.nd,h.head,h.inl,λy d=>h.lt y (Wa _ d),λy d=>h.new y (Wa _ d),λp m=>e p m.1 (h.src p m),λz n k y d j=>e y d (h.pre z n k y d j)⟩
theorem BodyI.take{x:Nat}{l:List Nat}(h:BodyI E b S (R++[x]))(q:∀y,y∈l↔y<E.length/\x∈Dm.suc E y)(w:EdgeOk E last)(v:x∉S)(t:x∈ordE E):BodyI E b (S++[x]) (R++l):=by
 have s:x≠b:=λe=>v (e▸h.head)
 have m:=h.new x (by simp) t
 have k:∀y,(y∈S\/y∈R++[x])->y∈S++[x]\/y∈R++l:=λy g=>by
  rcases g with g|g
  .exact .inl (Wa _ g)
  .rcases We.1 g with g|g
   .exact .inr (Wa _ g)
   .exact .inl (Wf _ g)
 refine⟨?_,Wa _ h.head,λy d=>?_,λy d=>?_,λy d n=>?_,λp C=>k p (h.src p C),λz o u y d j=>?_⟩
 .rw[List.nodup_append];refine⟨h.nd,by simp,λa A c B=>?_⟩;rw[Wc.1 B];rintro rfl;exact v A
 .rcases We.1 d with d|d
  .exact h.inl y d
  .rw[Wc.1 d];exact m
 .rcases We.1 d with d|d
  .exact h.lt y (Wa _ d)
  .exact((q y).1 d).1
 .rcases We.1 d with d|d
  .exact h.new y (Wa _ d) n
  .exact zBJ m s n ((q y).1 d).2
 .rcases We.1 o with o|o
  .exact k y (h.pre z o u y d j)
  .rw[Wc.1 o]at j;exact .inr (Wf _ ((q y).2 ⟨zen w d,j⟩))
theorem BodyI.done(h:BodyI E b S [])(e:EdgeOk E last){x:Nat}:x∈S↔zkx E b x :=
 ⟨h.inl x,zKn e h.head (λp g=>(h.src p g).resolve_right (by simp)) (λz k d y j c=>(h.pre z k d y j c).resolve_right (by simp))⟩
end
def zFS(f:Nat->Nat)(n:Nat)(S:List Nat):Nat:=(((Wk n).filter λx=>decide (x∉S)).map f).sum
theorem zDj{f:Nat->Nat}{S:List Nat}{x:Nat}(j:x∉S):∀{l:List Nat},l.Nodup->((l.filter λy=>decide (y∉S)).map f).sum=((l.filter λy=>decide (y∉S++[x])).map f).sum+if x∈l then f x else 0
 |[],_=>by simp
 |
  y::l,h=>by
  have g:=List.nodup_cons.1 h;have d:=zDj (f:=f) j g.2;by_cases c:y∈S
  .have e:x≠y:=λe=>j (e▸c)
   rw[WE (by simp[c]),WE (by simp[c]),d];simp[e]
  .by_cases b:y=x
   .subst b;rw[WF (by simp[c]),WE (by simp),Wi,Ww,d,if_neg g.1,if_pos Wl];omega
   .have e:x≠y:=λe=>b e.symm
    rw[WF (by simp[c]),WF (by simp[c,b]),Wi,Ww,Wi,Ww,d];simp[e];omega
theorem zE6{f:Nat->Nat}{n:Nat}{S:List Nat}{x:Nat}(c:x∉S)(b:x<n):zFS f n S=zFS f n (S++[x])+f x:=by unfold zFS;rw[zDj c List.nodup_range,if_pos (Wj.2 b)]
open Classical in
noncomputable def zgl(E:Dm.Adj)(b:Nat):List Nat:=(Wk E.length).filter λx=>decide (zkx E b x)
theorem zuE{E:Dm.Adj}{last:Nat->St}(c:EdgeOk E last){b x:Nat}(d:b<E.length):x∈zgl E b↔zkx E b x:=by
 unfold zgl;rw[Wg,Wj,@decide_eq_true_iff _ (Xc _)];refine⟨λh=>h.2,λh=>⟨?_,h⟩⟩;rcases h with rfl|⟨_,_,_,_,h,_⟩
 .exact d
 .exact zen c h
theorem zp5{E:Dm.Adj}{b:Nat}:(zgl E b).length<=E.length:=by have:=Wr (λx=>@decide (zkx E b x) (Xc _)) (Wk E.length);simpa [zgl]using this
def zif(l:List Nat):List Int:=l.map λ(x:Nat)=>(x:Int)
theorem zk7{l:List Nat}:(zif l).length=l.length:=by simp[zif]
theorem zH7{l:List Nat}{x:Nat}:(x:Int)∈zif l↔x∈l:=by unfold zif;rw[Wu];exact⟨λ⟨y,b,c⟩=>by rw[<-Int.ofNat.inj c];exact b,λh=>⟨x,h,rfl⟩⟩
theorem zrH{l:List Nat}(h:l.Nodup):(zif l).Nodup:=by unfold zif List.Nodup;rw[WZ];exact List.Pairwise.imp (λb e=>b (Int.ofNat.inj e)) h
theorem zBg{E:Dm.Adj}{last:Nat->St}(c:EdgeOk E last){b:Nat}(d:b<E.length){S:List Nat}(g:S.Nodup)(e:∀x,x∈S↔zkx E b x):zj5 (zif S)=zif (zgl E b):=by
 refine zx8 ?_ (zkB _) ?_
 .refine(zdL _).trans ?_;unfold zif;refine List.Perm.map _ ((List.perm_ext_iff_of_nodup g ?_).2 λx=>?_)
  .exact List.nodup_range.filter _
  .rw[e,zuE c d]
 .unfold zif;rw[WZ];have:(zgl E b).Pairwise (· < ·):=List.pairwise_lt_range.filter _;exact this.imp λh=>by omega
def nx1(E:Dm.Adj)(b p:Nat):List Nat:=Dm.filR (λb=>decide (b∈Dm.suc E p)) b
def nx2(E:Dm.Adj)(b i p:Nat):List Nat:=nx1 E b p++if p∈(Dm.suc (Dm.predL E) b).take i then[b]else[]
def zm2(E:Dm.Adj):Dm.Adj:=(Wk E.length).map (nx1 E E.length)
section
variable {E:Dm.Adj}
theorem zLU{p b:Nat}(h:b∈Dm.suc E p):p<E.length:=by
 by_cases c:p<E.length
 .exact c
 .unfold Dm.suc at h;rw[Wd,List.getElem?_eq_none (by omega)]at h;cases h
theorem zEb{b:Nat}:(Dm.suc (Dm.predL E) b).Nodup:=by
 unfold Dm.suc Dm.predL;rw[Wd,W0]
 cases(Wk E.length)[b]? with
 |none=>exact List.nodup_nil
 |some b=>exact List.nodup_range.filter _
theorem zwQ{b:Nat}:(Dm.suc (Dm.predL E) b).length<=E.length:=by
 unfold Dm.suc Dm.predL;rw[Wd,W0]
 cases(Wk E.length)[b]? with
 |none=>exact Wx _
 |some b=>have:=Wr (λa=>decide (b∈Dm.suc E a)) (Wk E.length);rw[List.length_range]at this;exact this
theorem zL0{b p x:Nat}(h:x∈nx1 E b p):x<b/\x∈Dm.suc E p:=by unfold nx1 Dm.filR at h;rw[Wg,Wj,decide_eq_true_eq]at h;exact h
theorem zMA{b p x:Nat}:x∈nx1 E b p↔x<b/\x∈Dm.suc E p:=by unfold nx1 Dm.filR;rw[Wg,Wj,decide_eq_true_eq]
theorem zrt{b p:Nat}:(nx1 E b p).length<=b:=Dm.filR_le
theorem zC2:nx1 E 0=λ_=>[]:=rfl
theorem zLf{b p:Nat}:nx1 E (b+1) p=nx1 E b p++if b∈Dm.suc E p then[b]else[]:=by
 unfold nx1;by_cases h:b∈Dm.suc E p
 .rw[Dm.filR_pos (decide_eq_true h),if_pos h]
 .rw[Dm.filR_neg (decide_eq_false h),if_neg h,Wm]
theorem zDD{b:Nat}:nx2 E b 0=nx1 E b:=by funext p;simp[nx2]
theorem zNk{b:Nat}(c:b<E.length):nx2 E b (Dm.suc (Dm.predL E) b).length=nx1 E (b+1):=by
 funext p;unfold nx2;rw[List.take_length,zLf];congr 1;by_cases h:b∈Dm.suc E p
 .rw[if_pos h,if_pos ((Dm.mem_predL c).2 ⟨zLU h,h⟩)]
 .rw[if_neg h,if_neg λd=>h ((Dm.mem_predL c).1 d).2]
theorem zC0{l:List Nat}(h:l.Nodup){i:Nat}(b:i<l.length):l[i]∉l.take i:=λd=>by obtain⟨j,c,e⟩:=List.mem_iff_getElem.1 d;rw[List.length_take]at c;rw[List.getElem_take]at e;exact List.pairwise_iff_getElem.1 h j i (by omega) b (by omega) e
theorem zLV{b i:Nat}(c:i<(Dm.suc (Dm.predL E) b).length):nx2 E b i (Dm.suc (Dm.predL E) b)[i]=nx1 E b (Dm.suc (Dm.predL E) b)[i]:=by unfold nx2;rw[if_neg (zC0 zEb c),Wm]
theorem zLI{b i:Nat}(c:i<(Dm.suc (Dm.predL E) b).length):updF (nx2 E b i) (Dm.suc (Dm.predL E) b)[i] (nx2 E b i (Dm.suc (Dm.predL E) b)[i]++[b])=nx2 E b (i+1):=by
 rw[zLV c];funext p;by_cases h:p=(Dm.suc (Dm.predL E) b)[i]
 .subst h;rw[zhR];unfold nx2;rw[if_pos (by rw[W3 c];exact Wf _ (Wc.2 rfl))]
 .rw[zxC h];unfold nx2;congr 1;have:p∈(Dm.suc (Dm.predL E) b).take (i+1)↔p∈(Dm.suc (Dm.predL E) b).take i:=by rw[W3 c,We,Wc];exact⟨λd=>d.resolve_right h,.inl⟩
  simp only[this]
theorem zNt{b i:Nat}(c:i<(Dm.suc (Dm.predL E) b).length):b∉nx2 E b i (Dm.suc (Dm.predL E) b)[i]:=by rw[zLV c];intro h;have:=(zL0 h).1;omega
theorem zNJ{b i p:Nat}:(nx2 E b i p).length<=b+1:=by
 unfold nx2;rw[WL];have:=zrt (E:=E) (b:=b) (p:=p);split
 .rw[W5];omega
 .rw[WM];omega
def isBk(E:Dm.Adj)(a b:Nat):Bool:=Dm.domL (Dm.treeL E) b a
def bkA(E:Dm.Adj)(a:Nat)(l:List Nat):List (Nat×Nat):=(l.filter λb=>isBk E a b).map λb=>(a,b)
def bk1(E:Dm.Adj)(a:Nat):List (Nat×Nat):=(Wk a).flatMap λa=>if a∈ordE E then bkA E a (nx1 E E.length a)else[]
def zhW(E:Dm.Adj):List (Nat×Nat):=bk1 E E.length
theorem zxc{a:Nat}:bk1 E (a+1)=bk1 E a++if a∈ordE E then bkA E a (nx1 E E.length a)else[]:=by unfold bk1;rw[List.range_succ,WY];simp
theorem zLA{a:Nat}{l:List Nat}{i:Nat}(h:i<l.length):bkA E a (l.take (i+1))=bkA E a (l.take i)++if isBk E a l[i]then[(a,l[i])]else[]:=by unfold bkA;rw[Dm.filter_take_succ h,List.map_append];cases isBk E a l[i]<;>simp
theorem zIA{a:Nat}{l:List Nat}:(bkA E a l).length<=l.length:=by unfold bkA;rw[List.length_map];exact Wr _ _
theorem zBf{a:Nat}:(bk1 E a).length<=a*E.length:=by
 induction a with
 |zero=>simp[bk1]
 |succ a ih=>
  rw[zxc,WL,Nat.add_mul,Nat.one_mul];have c:=zIA (E:=E) (a:=a) (l:=nx1 E E.length a);have d:=zrt (E:=E) (b:=E.length) (p:=a);split
  .omega
  .rw[WM];omega
theorem zpY{last:Nat->St}(j:EdgeOk E last){a b:Nat}:(a,b)∈zhW E↔zu4 E b a:=by
 unfold zhW bk1 zu4;rw[WH];constructor
 .rintro⟨x,n,h⟩;split at h
  .rename_i k;unfold bkA at h;obtain⟨y,m,e⟩:=Wu.1 h;cases e;obtain⟨d,c⟩:=Wg.1 m;exact⟨k,(zL0 d).2,c⟩
  .cases h
 .rintro⟨d,c,g⟩;refine⟨a,Wj.2 (zLU c),?_⟩;rw[if_pos d];unfold bkA;exact Wu.2 ⟨b,Wg.2 ⟨zMA.2 ⟨j.ok _ _ c,c⟩,g⟩,rfl⟩
theorem zFz{b:Nat}:zoB E b=true↔∃p,zu4 E b p:=by
 unfold zoB zu4;rw[W6];constructor
 .rintro⟨p,d,c⟩;rw[WI,decide_eq_true_eq]at c;exact⟨p,d,c⟩
 .rintro⟨p,d,c⟩;exact⟨p,d,by rw[WI,decide_eq_true_eq];exact c⟩
theorem zJn{last:Nat->St}(g:EdgeOk E last){b:Nat}:(zhW E).any (λe=>decide (e.2=b))=zoB E b:=by
 rw[Bool.eq_iff_iff,zFz,W6];constructor
 .rintro⟨⟨a,c⟩,h,d⟩;rw[decide_eq_true_eq]at d;cases d;exact⟨a,(zpY g).1 h⟩
 .rintro⟨p,j⟩;exact⟨(p,b),(zpY g).2 j,by simp⟩
def srcL(E:Dm.Adj)(b:Nat)(l:List (Nat×Nat)):List Nat:=(l.filter λe=>decide (e.2=b)).map (·.1)
theorem zF5{b:Nat}{l:List (Nat×Nat)}{i:Nat}(h:i<l.length):srcL E b (l.take (i+1))=srcL E b (l.take i)++if l[i].2=b then[l[i].1]else[]:=by
 unfold srcL;rw[Dm.filter_take_succ h,List.map_append];by_cases c:l[i].2=b
 .simp[c]
 .simp[c]
theorem zCt{b:Nat}{l:List (Nat×Nat)}:(srcL E b l).length<=l.length:=by unfold srcL;rw[List.length_map];exact Wr _ _
theorem zJb{last:Nat->St}(e:EdgeOk E last){b p:Nat}:p∈srcL E b (zhW E)↔zu4 E b p:=by
 unfold srcL;rw[Wu];constructor
 .rintro⟨⟨a,c⟩,h1,rfl⟩;obtain⟨g,d⟩:=Wg.1 h1;rw[decide_eq_true_eq]at d;cases d;exact(zpY e).1 g
 .intro h;exact⟨(p,b),Wg.2 ⟨(zpY e).2 h,by simp⟩,rfl⟩
structure NatI(E:Dm.Adj)(b i:Nat)(out:List Nat):Prop where
 inl:∀x∈out,zkx E b x
 lt:∀x∈out,x<E.length
 src:∀p,zu4 E b p->p∈out
 head:out≠[]->b∈out/\zoB E b=true
 pre:∀j x,j<i->out[j]?=some x->x≠b->∀y∈ordE E,x∈Dm.suc E y->y∈out
end
def beyC(S:Shp)(k:Nat)(o:List Nat)(x:Nat):Bool := !S.inB k x&&(o.isEmpty||decide (S.cnt x≠1))
theorem zn4{S:Shp}{k x:Nat}:∀{l out:List Nat},zj1 S k (l++[x]) out=if beyC S k (zj1 S k l out) x then zj1 S k l out++[x]else zj1 S k l out
 |
  [],out=>by
  rw[List.nil_append,zj1,zj1,zj1,zj1];rfl
 |
  y::l,out=>by
  rw[WG,zj1,zj1];split
  .rw[zn4]
  .rw[zn4]
def aftG(S:Shp)(k:Nat)(l:List Nat):List Nat:=zj1 S k l []
def resG(S:Shp)(k:Nat)(l:List Nat):List Nat:=l.filter λx=>decide (x∉aftG S k l)
theorem zDG{S:Shp}{k x:Nat}{l:List Nat}(h:x∈aftG S k l):x∈l:=(zqL l [] x h).resolve_left (by simp)
theorem zCW{S:Shp}{k x:Nat}{l:List Nat}(h:beyC S k (aftG S k l) x=true):aftG S k (l++[x])=aftG S k l++[x]:=by unfold aftG at h⊢;rw[zn4,if_pos h]
theorem zIf{S:Shp}{k x:Nat}{l:List Nat}(h:beyC S k (aftG S k l) x=false):aftG S k (l++[x])=aftG S k l:=by unfold aftG at h⊢;rw[zn4,h];rfl
theorem zKh{S:Shp}{k x:Nat}{l:List Nat}(h:beyC S k (aftG S k l) x=true)(b:x∉l):resG S k (l++[x])=resG S k l:=by
 unfold resG;rw[zCW h,WA,WE (by simp),List.filter_nil,Wm];refine WU λy c=>?_
 have:y≠x:=λe=>b (e▸c)
 simp[this]
theorem zNK{S:Shp}{k x:Nat}{l:List Nat}(h:beyC S k (aftG S k l) x=false)(c:x∉l):resG S k (l++[x])=resG S k l++[x]:=by unfold resG;rw[zIf h,WA,WF (by simp;exact λb=>c (zDG b)),List.filter_nil]
theorem zDl{S:Shp}{k:Nat}{l:List Nat}:(aftG S k l).length<=l.length:=by
 unfold aftG
 have:∀(l out:List Nat),(zj1 S k l out).length<=out.length+l.length:=λl=>by
  induction l with
  |nil=>intro out;exact Wn _
  |cons y l ih=>
   intro out;unfold zj1;split
   .have:=ih (out++[y]);rw[WL,W5]at this;rw[Wt];omega
   .have:=ih out;rw[Wt];omega
 have h:=this l [];rw[WM]at h;omega
theorem zs3{S:Shp}{k:Nat}{l:List Nat}:(resG S k l).length<=l.length:=Wr _ _
theorem zyE{S:Shp}{k:Nat}(h:S.head k=true):beyL S k=aftG S k (S.kids k):=by unfold beyL;rw[if_pos h];rfl
theorem zDJ{S:Shp}{k:Nat}(h:S.head k=true):zpt S k=resG S k (S.kids k):=by unfold zpt resG;rw[zyE h]
theorem zM0{S:Shp}{k:Nat}(h:S.head k=false):beyL S k=[]:=by unfold beyL;rw[h];rfl
theorem zKz{S:Shp}{k:Nat}(h:S.head k=false):zpt S k=S.kids k:=by unfold zpt;rw[zM0 h,List.filter_eq_self];simp
def plG(S:Shp)(l:List Nat):List Nat:=l.filter λx=>decide (S.cnt x≠1)
def inG(S:Shp)(l:List Nat):List Nat:=l.filter λx=>decide (S.cnt x=1)
theorem zv7{S:Shp}{k:Nat}:zan S k=plG S (zpt S k):=rfl
theorem zFI{S:Shp}{k:Nat}:inlL S k=inG S (zpt S k):=rfl
theorem zIU{S:Shp}{l:List Nat}{i:Nat}(h:i<l.length):plG S (l.take (i+1))=plG S (l.take i)++if S.cnt l[i]=1 then[]else[l[i]]:=by unfold plG;rw[Dm.filter_take_succ h];by_cases b:S.cnt l[i]=1<;>simp[b]
theorem zKK{S:Shp}{l:List Nat}{i:Nat}(h:i<l.length):inG S (l.take (i+1))=inG S (l.take i)++if S.cnt l[i]=1 then[l[i]]else[]:=by unfold inG;rw[Dm.filter_take_succ h];by_cases b:S.cnt l[i]=1<;>simp[b]
theorem zxb{S:Shp}{l:List Nat}:(plG S l).length<=l.length:=Wr _ _
theorem zHK{S:Shp}{l:List Nat}:(inG S l).length<=l.length:=Wr _ _
theorem zAG{code:Nat->Ctx->Nd}{c:Ctx}{l:List Nat}{i:Nat}(h:i<l.length):zbP code c (l.drop i)=code l[i] (zbf (l.drop (i+1)) c)::zbP code c (l.drop (i+1)):=by rw[W7 h,zbP]
theorem zn1{code:Nat->Ctx->Nd}{c:Ctx}:∀{l:List Nat},(zbP code c l).length=l.length
 |[]=>rfl
 |k::l=>by rw[zbP,Wt,zn1,Wt]
theorem zGt{l:List Nat}{c:Ctx}{i:Nat}(h:i<l.length):zbf (l.drop i) c=⟨l[i],c.h,c.x⟩:=by rw[W7 h];rfl
theorem zEu{l:List Nat}{c:Ctx}{i:Nat}(h:l.length<=i):zbf (l.drop i) c=c:=by rw[List.drop_of_length_le h];rfl
end Go.Ab
