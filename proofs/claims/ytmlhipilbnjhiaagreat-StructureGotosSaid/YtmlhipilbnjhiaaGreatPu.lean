/-
  Part 21 of the proof: how the calls of this program run, over values instead of memory, and what each function computes.
-/
import Derived.Test.YtmlhipilbnjhiaaGreatPt
set_option maxRecDepth 100000
set_option linter.unusedVariables false
set_option linter.unusedSimpArgs false
set_option linter.unnecessarySimpa false
set_option linter.unusedSectionVars false
open Classical renaming not_not->Xa,byContradiction->Xb,propDecidable->Xc,not_forall->Xd,axiomOfChoice->Xe
open List renaming mem_append_left→Wa,mem_singleton→Wc,getD_eq_getElem?_getD→Wd,mem_filter→We,mem_append→Wf,mem_range→Wg,range→Wh,mem_append_right→Wi,map_cons→Wj,getElem?_eq_getElem→Wk,length_filter_le→Wl,mem_cons_self→Wm,length_cons→Wn,mem_map→Wo,mem_cons→Wp,mem_cons_of_mem→Wq,length_append→Wr,sum_cons→Wt,count_pos_iff→Wu,append_nil→Ww,filter_append→Wx,map_congr_left→Wy,filter_cons_of_neg→WA,filter_cons_of_pos→WB,mem_flatMap→WC,count_cons→WE,getElem?_append_left→WF,length_nil→WH,eq_nil_of_length_eq_zero→WJ,count_append→WK,count_eq_zero_of_not_mem→WL,nodup_iff_count→WM,getElem_mem→WN,take_add_one→WO,take_of_length_le→WP,filter_congr→WQ,getLast?_eq_getElem?→WR,getElem?_append_right→WS,replicate_succ'→WU,flatMap_append→WV,pairwise_map→WW,getElem?_map→WX,take_succ_eq_append_getElem→WY,length_singleton→WZ,any_eq_true→W0,drop_eq_getElem_cons→W3
open Bool renaming or_false→Ws,and_eq_true→WD,or_eq_false_iff→WI
open Nat renaming zero_le→Wv,add_sub_cancel→Wz,le_refl→WG
namespace Go.Ab
open Go.RowKit Go.Proofs
section
variable {st:List PSt}{L:LabE}
def zrI(n:Nd):Prop:=∀y∈allN n,zhh y.f.kind=true->y.l.length=1
end
mutual
def zec(K:Int->Bool):Nd->Nd
 |.mk f c l=>.mk f c (zaV K l)
def zaV(K:Int->Bool):List Nd->List Nd
 |[]=>[]
 |x::l=>if x.f.kind=10/\K x.f.label=false then zaV K l else zec K x::zaV K l
end
def addB(l:List (Int×List Int))(b:List Int):List (Int×List Int):=match l.getLast? with
 |some x=>l.dropLast++[(x.1,x.2++b)]
 |none=>l
def zJ2(l:List (Int×Int)):List Int:=l.map Prod.fst
def RgN(a b:Nat)(k:Int):Prop:=(a:Int)<=k/\k<(b:Int)
structure InvP(p:PC):Prop where
 got:∀e∈p.got,RgN 0 p.st.length e.1
 brk:∀k∈brkL p.lp,RgN 0 p.st.length k
def DisP(p q:PC):Prop:=∀b c,q.lp=addB p.lp b->q.got=p.got++c->p.lp≠[]->∀k∈b,k∉zJ2 c
structure ExtP(ls:List Int)(p q:PC):Prop where
 len:p.st.length<=q.st.length
 pre:∀k,k<p.st.length->q.st[k]?=p.st[k]?
 lp:∃bs,q.lp=addB p.lp bs/\∀k∈bs,RgN p.st.length q.st.length k
 got:∃gs,q.got=p.got++gs/\∀e∈gs,RgN p.st.length q.st.length e.1
 lab:∃vs,q.lab=p.lab++vs/\zJ2 vs=ls
 dis:DisP p q
structure ExtB(ls:List Int)(at':Nat)(p q:PC)(es xs:List Int):Prop where
 len:p.st.length<=q.st.length
 pre:∀k,k<p.st.length->k≠at'->q.st[k]?=p.st[k]?
 dec:q.st[at']?=(p.st[at']?).map λs=>{ s with to:=s.to.map λl=>l++xs }
 ends:∀k∈es,RgN p.st.length q.st.length k
 lp:∃bs,q.lp=addB p.lp bs/\∀k∈bs,RgN p.st.length q.st.length k
 got:∃gs,q.got=p.got++gs/\∀e∈gs,RgN p.st.length q.st.length e.1
 lab:∃vs,q.lab=p.lab++vs/\zJ2 vs=ls
 dis:DisP p q
structure Fut(q F:PC):Prop where
 got:∃r,F.got=q.got++r/\∀e∈r,(q.st.length:Int)<=e.1
 lab:∃r,F.lab=q.lab++r
def znH(a b:List Nd):Prop:=∀y∈b,(y.f=⟨1,0,0⟩/\y.cond=[])\/∃c∈a,y.f=c.f/\y.cond=c.cond/\(c.f.kind≠1->y.l.length=c.l.length)
abbrev zCX(n m:Nd):Prop:=znH (allN n) (allN m)
theorem znH.refl(a:List Nd):znH a a:=λy b=>.inr ⟨y,b,rfl,rfl,λ_=>rfl⟩
theorem znH.app{a j b m:List Nd}(h:znH a b)(k:znH j m):znH (a++j) (b++m):=λy c=>by
 rcases Wf.1 c with c|c
 .exact(h y c).imp id λ⟨g,d,e⟩=>⟨g,Wa _ d,e⟩
 .exact(k y c).imp id λ⟨g,d,e⟩=>⟨g,Wi _ d,e⟩
theorem znH.up{a b c:List Nd}(h:znH a b)(j:∀y∈a,y∈c):znH c b:=λy k=>(h y k).imp id λ⟨d,e,g⟩=>⟨d,j d e,g⟩
theorem znH.node{f:NdF}{c:List Ex}{l m:List Nd}(h:znH (zaI l) (zaI m))(g:f.kind≠1->m.length=l.length):zCX (.mk f c l) (.mk f c m):=λy b=>by
 rw[allN]at b;rw[allN];rcases Wp.1 b with rfl|b
 .exact .inr ⟨.mk f c l,Wm,rfl,rfl,g⟩
 .exact(h y b).imp id λ⟨j,d,e⟩=>⟨j,Wq _ d,e⟩
theorem zkf{f:NdF}{c:List Ex}{l:List Nd}{i:Bool}(h:f.kind=1):zcz (.mk f c l) i=zaj l i:=by rw[zcz,if_neg (by omega)];simp[h]
theorem zA9{f:NdF}{c:List Ex}{l m:List Nd}{i:Bool}(h:∀i,zaj l i=false->zaj m i=false)(b:zcz (.mk f c l) i=false):zcz (.mk f c m) i=false:=by
 rw[zcz]at b⊢;by_cases d:(f.kind=7\/f.kind=8)/\i=false
 .rw[if_pos d]at b;cases b
 .rw[if_neg d]at b⊢;exact h _ b
mutual
theorem zrE(K:Int->Bool):∀(n:Nd)(i:Bool),zcz n i=false->zcz (zec K n) i=false
 |
  .mk f c l,i,h=>by
  rw[zec];exact zA9 (λi h=>zmi K l i h) h
theorem zmi(K:Int->Bool):∀(l:List Nd)(i:Bool),zaj l i=false->zaj (zaV K l) i=false
 |[],i,h=>by rw[zaV];exact h
 |
  x::l,i,h=>by
  rw[zaj,WI]at h;rw[zaV];split
  .exact zmi K l i h.2
  .rw[zaj,zrE K x i h.1,zmi K l i h.2];rfl
end
def zv5(k:Int):Prop:=k=1\/k=3\/k=4\/k=5\/k=6
def zrC(n:Nd):Prop:=∀y∈allN n,¬zv5 y.f.kind->y.l=[]
theorem zrC.like{n m:Nd}(h:zrC n)(k:zCX n m):zrC m:=λy j b=>by
 rcases k y j with ⟨c,_⟩|⟨o,c,d,_,e⟩
 .rw[c]at b;exact absurd (.inl rfl) b
 .rw[d]at b;have:=e λg=>b (.inl g)
  rw[h o c b]at this;exact WJ this
theorem zj4(n:Nd):n∈allN n:=by cases n;rw[allN];exact Wm
theorem zpo{f:NdF}{c:List Ex}{l:List Nd}{y:Nd}(h:y∈zaI l):y∈allN (.mk f c l):=by rw[allN];exact Wq _ h
section
variable {S:Shp}{R:List Nat}{T:Nat->Option Nat}{st:List PSt}{L:LabE}
structure RunG(st:List PSt)(S:Shp)(R:List Nat):Prop where
 run:∀x∈R,Run st S x
 one:∀x∈R,∀p p',Vst st p x->Vst st p' x->p=p'
 tg:∀x∈R,∀t∈tgS (S.last x),∃u∈R,t=(u:Nat)
 ne:∀x∈R,(S.last x).op=8->(S.last x).cases≠[]
end
mutual
theorem zzd:∀(n:Nd)(b:Int),(coll labP n).count b=wN (wLab b) n
 |
  .mk f c l,b=>by
  rw[coll,wN,WK,zv4 l b];congr 1;unfold labP wLab;by_cases h:f.kind=10
  .rw[if_pos h];by_cases d:f.label=b
   .rw[if_pos ⟨h,d⟩,d];simp
   .rw[if_neg (λe=>d e.2),WL (by simp;exact λh=>d h.symm)]
  .rw[if_neg h,if_neg (λe=>h e.1)];rfl
theorem zv4:∀(l:List Nd)(b:Int),(zgT labP l).count b=wNs (wLab b) l
 |[],b=>by rw[zgT,wNs];rfl
 |n::l,b=>by rw[zgT,wNs,WK,zzd n b,zv4 l b]
end
mutual
theorem zsP:∀n:Nd,(coll zgg n).length=wN zmK n
 |
  .mk f c l=>by
  rw[coll,wN,Wr,zrv l];congr 1;unfold zgg zmK;split<;>rfl
theorem zrv:∀l:List Nd,(zgT zgg l).length=wNs zmK l
 |[]=>by rw[zgT,wNs];rfl
 |n::l=>by rw[zgT,wNs,Wr,zsP n,zrv l]
end
theorem zug{p:NdF->List Int}{n:Nd}{x:Int}:x∈coll p n↔∃y∈allN n,x∈p y.f:=by rw[zuI,WC]
def zHW(n:Nd):Prop:=∀y∈allN n,y.f.kind≠1->∀z∈y.l,z.f.kind≠10
mutual
theorem zsY(K:Int->Bool):∀n:Nd,zHW n->zCX n (zec K n)
 |
  .mk f c l,h=>by
  rw[zec];refine znH.node (zrQ K l λy d=>h y (zpo d)) λb=>?_
  have:∀z∈l,z.f.kind≠10:=h _ (zj4 _) b;clear h b
  induction l with
  |nil=>rfl
  |cons a l ih=>rw[zaV,if_neg (λh=>this a Wm h.1),Wn,Wn,ih λz e=>this z (Wq _ e)]
theorem zrQ(K:Int->Bool):∀l:List Nd,(∀y∈zaI l,y.f.kind≠1->∀z∈y.l,z.f.kind≠10)->znH (zaI l) (zaI (zaV K l))
 |[],_=>by rw[zaV];exact znH.refl _
 |
  x::l,h=>by
  rw[zaI]at h;have c:=zrQ K l λy b=>h y (Wi _ b)
  rw[zaV];split
  .rw[zaI];exact c.up λy b=>Wi _ b
  .rw[zaI,zaI];exact(zsY K x λy b=>h y (Wa _ b)).app c
end
mutual
theorem zpl{p:NdF->List Int}(K:Int->Bool)(b:∀f:NdF,f.kind=10->p f=[]):∀n:Nd,zrC n->coll p (zec K n)=coll p n
 |
  .mk f c l,h=>by
  rw[zec,coll,coll,zro K b l λy d=>h y (zpo d)]
theorem zro{p:NdF->List Int}(K:Int->Bool)(b:∀f:NdF,f.kind=10->p f=[]):∀l:List Nd,(∀y∈zaI l,¬zv5 y.f.kind->y.l=[])->zgT p (zaV K l)=zgT p l
 |[],_=>by rw[zaV]
 |
  x::l,h=>by
  rw[zaI]at h;have e:=zro K b l λy d=>h y (Wi _ d)
  rw[zaV];split
  .rename_i g;rw[zgT,e];obtain⟨f,c,k⟩:=x;have m:k=[]:=h (.mk f c k) (Wa _ (zj4 _)) (by have j:f.kind=10:=g.1;show ¬zv5 f.kind;unfold zv5;omega);rw[coll,m,zgT,b f g.1];rfl
  .rw[zgT,zgT,e,zpl K b x λy d=>h y (Wa _ d)]
end
def onlyL(K:Int->Bool)(l:List Int):List Int:=l.filter K
mutual
theorem zvu(K:Int->Bool):∀n:Nd,zrC n->(n.f.kind≠10\/K n.f.label=true)->coll labP (zec K n)=onlyL K (coll labP n)
 |
  .mk f c l,h,b=>by
  rw[zec,coll,coll];unfold onlyL;rw[Wx,zs0 K l λy e=>h y (zpo e)];congr 1;unfold labP;split
  .rename_i d;rcases b with b|b
   .exact absurd d b
   .have b:K f.label=true:=b;simp[b]
  .rfl
theorem zs0(K:Int->Bool):∀l:List Nd,(∀y∈zaI l,¬zv5 y.f.kind->y.l=[])->zgT labP (zaV K l)=(zgT labP l).filter K
 |[],_=>by rw[zaV,zgT];rfl
 |
  x::l,h=>by
  rw[zaI]at h;have m:=zs0 K l λy j=>h y (Wi _ j)
  rw[zaV,zgT,Wx];split
  .rename_i d;rw[m];obtain⟨f,c,k⟩:=x;have b:f.kind=10:=d.1;have e:k=[]:=h (.mk f c k) (Wa _ (zj4 _)) (by show ¬zv5 f.kind;unfold zv5;omega);have g:K f.label=false:=d.2;rw[coll,e,zgT];unfold labP;rw[if_pos b];simp[g]
  .rename_i d
   rw[zgT,m,zvu K x (λy j=>h y (Wa _ j)) (by
    by_cases b:x.f.kind=10
    .exact .inr (by cases e:K x.f.label with|true=>rfl|false=>exact absurd ⟨b,e⟩ d)
    .exact .inl b)]
   rfl
end
section
variable {S:Shp}{R:List Nat}{T:Nat->Option Nat}
theorem zt8{x:Nat}{y:Nd}(h:EmP S x y):(¬zv5 y.f.kind->y.l=[])/\(y.f.kind≠1->∀z∈y.l,z.f.kind≠10)/\(zhh y.f.kind=true->y.l.length=1):=by
 cases h with
 |seq l=>exact⟨λh=>absurd (.inl rfl) h,λh=>absurd rfl h,λh=>by simp[nSeq,Nd.f,zhh]at h⟩
 |label=>exact⟨λ_=>rfl,λ_ z d=>by simp[zag,Nd.l]at d,λh=>by simp[zag,Nd.f,zhh]at h⟩
 |block=>exact⟨λ_=>rfl,λ_ z d=>by simp[zag,Nd.l]at d,λh=>by simp[zag,Nd.f,zhh]at h⟩
 |loop n _ g=>exact⟨λh=>absurd (.inr (.inr (.inl rfl))) h,λ_ z d=>by rw[Wc.1 (show z∈[n]from d)];exact g,λ_=>rfl⟩
 |while_ n _ _ _ g=>exact⟨λh=>absurd (.inr (.inr (.inr (.inl rfl)))) h,λ_ z d=>by rw[Wc.1 (show z∈[n]from d)];exact g,λ_=>rfl⟩
 |if_ a b _ j k=>exact⟨λh=>absurd (.inr (.inl rfl)) h,λ_ z d=>by
   rcases Wp.1 (show z∈[a,b]from d)with rfl|d
   .exact j
   .rw[Wc.1 d];exact k,λh=>by simp[Nd.f,zhh]at h⟩
 |switch l _ _ e=>exact⟨λh=>absurd (.inr (.inr (.inr (.inr rfl)))) h,λ_ z d=>e z d,λh=>by simp[Nd.f,zhh]at h⟩
 |ret=>exact⟨λ_=>rfl,λ_ z d=>by simp[zag,Nd.l]at d,λh=>by simp[zag,Nd.f,zhh]at h⟩
 |halt=>exact⟨λ_=>rfl,λ_ z d=>by simp[zag,Nd.l]at d,λh=>by simp[zag,Nd.f,zhh]at h⟩
 |leaf t c _ _ _=>
  have e:(zcY c t).l=[]:=by rcases zzC c t with ⟨_,h⟩|⟨_,h⟩|⟨_,h⟩|h<;>rw[h]<;>rfl
  refine⟨λ_=>e,λ_ z d=>(by rw[e]at d;cases d),λh=>?_⟩;have:=zjK c t;unfold zhh at h;have:=of_decide_eq_true h;omega
theorem zIs{x:Nat}{y:Nd}(h:EmP S x y)(d:y.f.kind=10):y.f.label=(x:Int):=by
 cases h with
 |seq l=>cases d
 |label=>rfl
 |block=>cases d
 |loop n=>cases d
 |while_ n=>cases d
 |if_ a b=>cases d
 |switch l=>cases d
 |ret=>cases d
 |halt=>cases d
 |leaf t c _ _ _=>have:=zjK c t;omega
theorem zF1(D:Tr S R T){x:Nat}(m:x∈R){y:Nd}(h:EmP S x y)(d:y.f.kind=9):∃u∈R,y.f.label=(u:Int)/\(T u=none\/2<=S.cnt u):=by
 cases h with
 |seq l=>cases d
 |label=>cases d
 |block=>cases d
 |loop n=>cases d
 |while_ n=>cases d
 |if_ a b=>cases d
 |switch l=>cases d
 |ret=>cases d
 |halt=>cases d
 |leaf t c ht hi hc=>obtain⟨u,e,g,j,k⟩:=zzt D m hc ht hi d;exact⟨u,e,by rw[j,g];rfl,k⟩
def c0:Ctx:=⟨-1,-1,-1⟩
theorem zvv(l:List Nat)(c:Ctx):(zaM l c).h=c.h/\(zaM l c).x=c.x:=by cases l<;>exact⟨rfl,rfl⟩
def CtxS(c:Ctx)(i:Bool):Prop:=i=true\/(c.h = -1/\c.x = -1)
theorem CtxS.first{c:Ctx}{i:Bool}(h:CtxS c i)(l:List Nat):CtxS (zaM l c) i:=by unfold CtxS;rw[(zvv l c).1,(zvv l c).2];exact h
theorem zhY{k b t:Int}{i:Bool}(h:k≠7)(e:k≠8):zcz (zag k b t) i=false:=by rw[zag,zcz,if_neg (by intro d;rcases d.1 with c|c<;>simp only at c<;>omega),zaj]
theorem zD7{code:Nat->Ctx->Nd}{k:Nat}{c:Ctx}{i:Bool}{t:Int}(g:0<=t)(b:CtxS c i)(d:∀u∈inlL S k,zcz (code u c) i=false):zcz (wayN S code k c t) i=false:=by
 unfold wayN;split
 .exact d _ ‹_›
 rcases zzC c t with ⟨_,h⟩|⟨e,h⟩|⟨e,h⟩|h
 .rw[h,nSeq,zkf rfl,zaj]
 .rw[h,zag,zcz,zaj];rcases b with b|b
  .rw[b,if_neg (λh=>by cases h.2)]
  .rw[b.1]at e;omega
 .rw[h,zag,zcz,zaj];rcases b with b|b
  .rw[b,if_neg (λh=>by cases h.2)]
  .rw[b.2]at e;omega
 .rw[h];exact zhY (by decide) (by decide)
theorem zyI(D:Tr S R T){code:Nat->Ctx->Nd}{k:Nat}(o:k∈R){c:Ctx}{i:Bool}(n:CtxS c i)(d:∀u∈inlL S k,zcz (code u c) i=false):zcz (trN S code k c) i=false:=by
 have b:∀t∈tgS (S.last k),zcz (wayN S code k c t) i=false:=λt e=>by obtain⟨u,_,rfl⟩:=D.tg k o t e;exact zD7 (by omega) n d
 unfold tgS at b;unfold trN;by_cases g:(S.last k).op=6
 .simp only[if_pos g]at b⊢;exact b _ (by simp)
 simp only[if_neg g]at b⊢;by_cases j:(S.last k).op=7
 .simp only[if_pos j]at b⊢;rw[zcz,if_neg (by intro h;rcases h.1 with h|h<;>cases h),zaj,zaj,zaj];simp only[show decide ((3:Int)=4)=false by decide,show decide ((3:Int)=5)=false by decide,Ws];rw[b _ (by simp),b _ (by simp)];rfl
 simp only[if_neg j]at b⊢;by_cases m:(S.last k).op=8
 .simp only[if_pos m]at b⊢;rw[zcz,if_neg (by intro h;rcases h.1 with h|h<;>cases h)];simp only[show decide ((6:Int)=4)=false by decide,show decide ((6:Int)=5)=false by decide,Ws];generalize (S.last k).cases=l at b
  induction l with
  |nil=>rw[List.map_nil,zaj]
  |cons a l p=>rw[Wj,zaj,b a Wm,p λt e=>b t (Wq _ e)];rfl
 simp only[if_neg m];split<;>exact zhY (by decide) (by decide)
theorem znt{code:Nat->Ctx->Nd}{i:Bool}:∀{l:List Nat}{c:Ctx},CtxS c i->(∀u∈l,∀c,CtxS c i->zcz (code u c) i=false)->zaj (zbe code c l) i=false
 |[],c,_,_=>by rw[zbe,zaj]
 |
  a::l,c,hc,h=>by
  rw[zbe,zaj,h a Wm _ (hc.first l),znt hc λu b=>h u (Wq _ b)];rfl
theorem zto(D:Tr S R T):∀(f k:Nat)(c:Ctx)(i:Bool),k∈R->CtxS c i->zcz (zdP S f k c) i=false
 |0,k,c,i,_,_=>by rw[zdP,nSeq,zkf rfl,zaj]
 |
  f+1,k,c,i,hk,hc=>by
  have j:∀u∈S.kids k,∀c i,CtxS c i->zcz (zdP S f u c) i=false:=λu d c i h=>zto D f u c i ((D.kid k u).1 d).1 h
  have m:∀c i,CtxS c i->∀u∈inlL S k,zcz (zdP S f u c) i=false:=λc i h u d=>j u (zrj.1 d).1 c i h
  have g:∀c i,CtxS c i->zaj (zbe (zdP S f) c (zR S k)) i=false:=λc i h=>znt h λu d c h=>j u (zpk.1 d).1 c i h
  rw[zdP];split
  .rw[nSeq,zkf rfl,zaj,zaj,zhY (by decide) (by decide),znt hc λu d c h=>j u (zqx d) c i h];have b:CtxS (inC S k c) true:=.inl rfl;have e:=zyI D hk (b.first (zR S k)) (m _ _ (b.first (zR S k)))
   have o:zcz (ztD S (zdP S f) k c) i=false:=by
    unfold ztD;split
    .rename_i n;rw[WD]at n;obtain⟨q,p,s,t⟩:=zwK (zgp f) n.2;rw[p]at e⊢;simp only[Nd.cond,hd0,Nd.l,List.getD_cons_zero];rw[zcz,if_neg (by intro h;rcases h.1 with h|h<;>cases h),zaj,zaj]at e;simp only[show decide ((3:Int)=4)=false by decide,show decide ((3:Int)=5)=false by decide,Ws,WI]at e;rw[zcz,if_neg (by intro h;rcases h.1 with h|h<;>cases h),zaj,zaj,nSeq,zkf rfl];simp only[show decide ((5:Int)=4)=false by decide,decide_true,Ws,Bool.or_true];rw[zaj,e.1,g _ _ b];rfl
    .rw[zcz,if_neg (by intro h;rcases h.1 with h|h<;>cases h),zaj,zaj,nSeq,zkf rfl];simp only[decide_true,show decide ((4:Int)=5)=false by decide,Ws,Bool.or_true];rw[zaj,zaj,zhY (by decide) (by decide),e,g _ _ b];rfl
   rw[o];rfl
  .rw[nSeq,zkf rfl,zaj,zaj,zaj,zhY (by decide) (by decide),zhY (by decide) (by decide),zyI D hk (hc.first (zR S k)) (m _ _ (hc.first (zR S k))),g _ _ hc];rfl
end
section
variable {S:Shp}{R:List Nat}{T:Nat->Option Nat}
def bldN(S:Shp)(n:Nat):Nd:=zdP S n 0 c0
def zBu(N:Nd)(x:Int):Bool:=decide (x∈coll zgg N)
def bld(S:Shp)(n:Nat):Nd:=zec (zBu (bldN S n)) (bldN S n)
theorem zEG(k:Nat):∀l:List Nat,(l.map λx=>if x=k then 1 else 0).sum=l.count k
 |[]=>rfl
 |
  a::l=>by
  rw[Wj,Wt,zEG k l,WE];by_cases h:a=k
  .rw[if_pos h,if_pos (by simp[h])];omega
  .rw[if_neg h,if_neg (by simp[h])];omega
theorem zh1(D:Tr S R T)(P:Top R T){n:Nat}(b:R.length<=n){y:Nd}(h:y∈allN (bldN S n)):∃x∈R,EmP S x y:=zsM D n 0 c0 P.zero (by rw[P.first];omega) h
theorem zBQ(D:Tr S R T)(P:Top R T){n:Nat}(c:R.length<=n):zrC (bldN S n)/\zHW (bldN S n)/\zrI (bldN S n):=by
 refine⟨λy b=>?_,λy b=>?_,λy b=>?_⟩;all_goals obtain⟨x,_,h⟩:=zh1 D P c b
 .exact(zt8 h).1
 .exact(zt8 h).2.1
 .exact(zt8 h).2.2
theorem zGQ{y:Nd}{x:Int}(h:x∈labP y.f):y.f.kind=10/\x=y.f.label:=by
 unfold labP at h;split at h
 .exact⟨‹_›,Wc.1 h⟩
 .cases h
theorem zvb{y:Nd}{x:Int}(h:x∈zgg y.f):y.f.kind=9/\x=y.f.label:=by
 unfold zgg at h;split at h
 .exact⟨‹_›,Wc.1 h⟩
 .cases h
theorem zER(D:Tr S R T)(P:Top R T){n:Nat}(g:R.length<=n):(coll labP (bldN S n)).Nodup/\∀x,x∈coll labP (bldN S n)↔∃u∈R,x=(u:Nat):=by
 have b:∀u:Nat,(coll labP (bldN S n)).count (u:Int)=R.count u:=λu=>by rw[zzd,bldN,zwS D P (wLab u) (λx=>if x=u then 1 else 0) (λx _ v h=>zJz h) g,zEG]
 have e:∀x,x∈coll labP (bldN S n)->∃u∈R,x=(u:Nat):=λx d=>by obtain⟨y,p,j⟩:=zug.1 d;obtain⟨k,m⟩:=zGQ j;obtain⟨u,c,o⟩:=zh1 D P g p;exact⟨u,c,by rw[m,zIs o k]⟩
 refine⟨WM.2 λx=>?_,λx=>⟨e x,?_⟩⟩
 .by_cases d:x∈coll labP (bldN S n)
  .obtain⟨u,c,rfl⟩:=e x d;rw[b];exact WM.1 D.nd u
  .rw[WL d];omega
 .rintro⟨u,c,rfl⟩;refine Wu.1 ?_;rw[b];exact Wu.2 c
theorem zvy(D:Tr S R T)(P:Top R T){n:Nat}(p:R.length<=n){x:Int}(h:x∈coll zgg (bldN S n)):∃u∈R,x=(u:Nat)/\(T u=none\/2<=S.cnt u):=by obtain⟨y,q,b⟩:=zug.1 h;obtain⟨c,d⟩:=zvb b;obtain⟨k,o,e⟩:=zh1 D P p q;obtain⟨u,g,j,m⟩:=zF1 D o e c;exact⟨u,g,by rw[d,j],m⟩
structure BldOk(S:Shp)(n:Nat)(e:Nd):Prop where
 like:zCX (bldN S n) e
 leaf:zrC e
 loop:zrI e
 labs:(coll labP e).Nodup
 lab:∀x,x∈coll labP e↔x∈coll zgg (bldN S n)
 goto_:coll zgg e=coll zgg (bldN S n)
 blk:coll blkP e=coll blkP (bldN S n)
 stray:zcz e false=false
theorem zrI.like{n m:Nd}(h:zrI n)(k:zCX n m):zrI m:=λy j b=>by
 rcases k y j with ⟨c,_⟩|⟨o,c,d,_,e⟩
 .rw[c]at b;simp[zhh]at b
 .rw[d]at b;rw[e λg=>by rw[g]at b;simp[zhh]at b];exact h o c b
theorem zH9(D:Tr S R T)(P:Top R T){n:Nat}(e:R.length<=n):BldOk S n (bld S n):=by obtain⟨c,g,j⟩:=zBQ D P e;have d:=zsY (zBu (bldN S n)) (bldN S n) g;have m:(bldN S n).f.kind=1:=zgp n 0 c0;have b:coll labP (bld S n)=(coll labP (bldN S n)).filter (zBu (bldN S n)):=zvu _ _ c (.inl (by rw[m];decide));obtain⟨p,q⟩:=zER D P e;refine⟨d,c.like d,j.like d,by rw[b];exact p.filter _,λx=>?_,zpl _ (λf k=>by unfold zgg;rw[if_neg (by omega)]) _ c,zpl _ (λf k=>by unfold blkP;rw[if_neg (by omega)]) _ c,zrE _ _ _ (zto D n 0 c0 false P.zero (.inr ⟨rfl,rfl⟩))⟩;rw[b,We];unfold zBu;rw[decide_eq_true_eq];refine⟨λh=>h.2,λh=>⟨?_,h⟩⟩;obtain⟨u,o,rfl,_⟩:=zvy D P e h;exact(q _).2 ⟨u,o,rfl⟩
end
end Go.Ab
namespace Go.Ab.Dm
open Go.RowKit Go.Proofs
theorem zjU(g:Gr)(b:g.small):zq Tryz.prog zaY [.agg g.cells] (·=zb (treeL g.E)):=by
 refine fn_x zpa rfl ?_;refine dcU zkg.eq_1 ?_;have m:=hBig;have c:=g.E_len;have o:=b.1;refine Gw1 @ue ?_;intros;(refine zc (λh=>?_) (λh=>?_))<;>(try simp only[dcd]at h)
 ·(refine Gw1 @zgj.eq_1 ?_;intros);refine⟨_,?_,rfl⟩;have:treeL g.E=[]:=by unfold treeL;rw[show g.E.length=0 by omega];rfl
  rw[this];exact zcd (l:=[]) trivial rfl (Wv _)
 ·(refine Gw1 @uk ?_;intros);refine ze (zh (zhi g b) rfl) ?_;refine Gw0 ?_;intros;refine zb6 [] 0 _ (zo6 g.E (Gr.E_small b) g.E_ok 0 (by omega)) rfl rfl (Gin4_1 @ud) (Gin4_1 @ud) ?_;rintro v k j ⟨T,d,rfl,rfl,rfl⟩;refine Gw1 @zgj.eq_1 ?_;intros;refine⟨_,?_,rfl⟩;rw[<-treeL_eq g.E_ok (by omega) d];have e:=zgD (n:=g.E.length) (T:=T);have:=zcd (H:=[(0,.row 1 [] 0),(1,.row 1 ((outI g.E.length T).map cI) 0)]) (H2:=[]) (σ:=nos) (D:=allR) (t:=false) (r:=1) (q:=0) (g:=0) (l:=outI g.E.length T) trivial rfl (by omega)
  rwa [e]at this
theorem zvM{E}(c:E.ok):inB E.length (orderL E)=zlc E:=by
 unfold inB zlc mapR;refine Wy λb h=>?_
 have j:=Wg.1 h;have d:0<E.length:=by omega
 have e:orderL E=ordL E 0:=by unfold orderL ordL;rw[if_neg (by omega)]
 have g:b∈zbT E 0 (-1)↔RA E (λ_=>False) 0 b:=zuZ c d;rw[e];exact decide_eq_decide.2 ((mem_ordL c d).trans g.symm)
theorem zCF{E}(c:E.ok):NdL E.length (orderL E):=by
 by_cases d:0<E.length
 .have b:orderL E=ordL E 0:=by unfold orderL ordL;rw[if_neg (by omega)]
  rw[b];exact⟨(rpo c d).nd,(rpo c d).lt⟩
 .have b:orderL E=[]:=by unfold orderL;rw[if_pos (by omega)]
  rw[b];exact⟨by simp,by simp⟩
theorem zf9(g:Gr)(k:g.small):zq Tryz.prog zbm [.agg g.cells] (·=zcC (zlc g.E)):=by
 refine fn_x zlp rfl ?_;refine dcU zf0.eq_1 ?_;have o:=hBig;have c:=g.E_len;have u:=k.1;rw[<-zvM g.E_ok];have b:=zCF g.E_ok;refine Gw2 @ue @uk ?_;intros;refine ze (zh (zfp g k) rfl) ?_;generalize orderL g.E=l at b⊢;generalize g.E.length=n at c b⊢;subst c;have m:=b.len;refine Gw1 @ub ?_;intros;refine zd (λi:Nat=>([(3,.own 0 0 0 0 g.blocks.length),(11,za l),(12,.int .i64 l.length),(13,.int .i64 i)],[(0,.row 1 ((inB g.blocks.length (l.take i)).map cB) 0)])) 1 (λi=>i<=l.length) (λi=>l.length-i) 0 (Wv _) (Ent.tab [(0,1,0)] [] rfl (Gin4_1 @zuc) (Gin4_1 @zuc)) ?_;intro i p wf;refine dcU zeD.eq_1 ?_;refine Gw1 @ub ?_;intros;(refine zc (λh=>?_) (λh=>?_))<;>(try simp only[dcd]at h)
 .have d:i<l.length:=by omega
  have s:=b.lt _ (WN d);have j:l.take (i+1)=l.take i++[l[i]]:=by rw[WO,Wk d];rfl
  refine Gw3 (gmp d) @ztx @zCO ?_;intros;exact⟨i+1,by omega,by omega,(Ent.tab [(0,0,0)] [] rfl (Gin4_1 j) (Gin4_1 j))⟩
 .unfold zeP;refine Gw1 @zgc.eq_1 ?_;intros;refine⟨_,?_,rfl⟩;rw[WP (by omega)];have e:=ztx (n:=g.blocks.length) (l:=l);have:=zoU (H:=[(0,.row 1 ((inB g.blocks.length l).map cB) 0)]) (H2:=[]) (σ:=nos) (D:=allR) (t:=false) (r:=0) (q:=0) (g:=0) (l:=inB g.blocks.length l) trivial rfl (by omega)
  rwa [e]at this
theorem zlq(t:List Int)(a b:Int)(I:t.length<=1000):zq Tryz.prog zcq [zb t,.int .i64 a,.int .i64 b] (·=.bool (domL t a b)):=by
 refine fn_x zlr rfl ?_;refine dcU zf2.eq_1 ?_;have H:=hBig
 have out:∀c m,¬(0<=c/\c<(t.length:Int))->zmU t a m c=false:=by
  intro c m h
  cases m with
  |zero=>rfl
  |succ m=>simp only[zmU];rw[if_neg h]
 unfold domL;refine Gw1 @ug ?_;intros;generalize w:decide (a<0)=o;cases o<;>simp only[decide_eq_true_eq,decide_eq_false_iff_not,ne_eq,Xa]at w
 rotate_left
 ·(refine Gw1 @zT.eq_1 ?_;intros);rw[if_pos (.inl w)];exact bzO
 refine Gw0 ?_;intros;generalize x:decide (a >= t.length)=p;cases p<;>simp only[decide_eq_true_eq,decide_eq_false_iff_not,ne_eq,Xa]at x
 rotate_left
 ·(refine Gw1 @zT.eq_1 ?_;intros);rw[if_pos (.inr x)];exact bzO
 rw[if_neg (by omega)];refine Gw0 ?_;intros;generalize B:decide (b<0)=q;cases q<;>simp only[decide_eq_true_eq,decide_eq_false_iff_not,ne_eq,Xa]at B
 rotate_left
 ·(refine Gw1 @zT.eq_1 ?_;intros);rw[out b _ (by omega)];exact bzO
 refine Gw0 ?_;intros;(refine zc (λy=>?_) (λy=>?_))<;>(try simp only[dcd]at y)
 ·(refine Gw1 @zT.eq_1 ?_;intros);rw[out b _ (by omega)];exact bzO
 refine Gw0 ?_;intros;refine zd (λs:Nat×Int=>([(0,zb t),(1,.int .i64 a),(2,.int .i64 s.2),(27,.int .i64 ((t.length:Int)+1)),(28,.int .i64 s.1)],[])) 0 (λs=>s.1<=t.length+1/\0<=s.2/\s.2<t.length/\zmU t a (t.length+1-s.1) s.2=zmU t a (t.length+1) b) (λs=>t.length+1-s.1) (0,b) ⟨Wv _,by simp only;omega,by simp only;omega,rfl⟩ (Ent.keep rfl fin5) ?_;rintro⟨i,c⟩ ⟨D,v,g,k⟩ wf;simp only at D v g k;rw[<-k];refine dcU zew.eq_1 ?_;refine Gw0 ?_;intros;(refine zc (λz=>?_) (λz=>?_))<;>(try simp only[dcd]at z)
 .obtain⟨m,F⟩:∃m,t.length+1-i=m+1:=⟨t.length-i,by omega⟩;have j:c.toNat<t.length:=by omega
  have e:zmU t a (t.length+1-i) c=if a=c then true else zmU t a m (t[c.toNat]):=by rw[F];simp only[zmU];rw[if_pos ⟨by omega,g⟩,Wd,Wk j,Option.getD_some]
  refine Gw0 ?_;intros;(refine zc (λn=>?_) (λn=>?_))<;>(try simp only[dcd]at n)
  ·(refine Gw1 @zT.eq_1 ?_;intros);rw[e,if_pos n];exact bzO
  .rw[if_neg n]at e;refine Gw2 @ug (gmp j) ?_;intros;generalize t[c.toNat]=d at e⊢;generalize C:decide (d<0)=u;cases u<;>simp only[decide_eq_true_eq,decide_eq_false_iff_not,ne_eq,Xa]at C
   ·(refine Gw0 ?_;intros);(refine zc (λA=>?_) (λA=>?_))<;>(try simp only[dcd]at A)
    ·(refine Gw1 @zT.eq_1 ?_;intros);rw[e,out d m (by omega)];exact bzO
    ·(refine Gw0 ?_;intros);refine⟨(i+1,d),⟨by simp only;omega,by simp only;omega,by simp only;omega,?_⟩,by simp only;omega,Ent.keep rfl fin5⟩;simp only;rw[e,show t.length+1-(i+1)=m by omega]
   ·(refine Gw1 @zT.eq_1 ?_;intros);rw[e,out d m (by omega)];exact bzO
 .unfold zeK;refine Gw1 @zT.eq_1 ?_;intros;rw[show t.length+1-i=0 by omega];exact bzO
theorem zcm(l)(x:Nat):zq Tryz.prog zO [za l,.int .i64 x] (·=.bool (decide (x∈l))):=by
 have d:zq Tryz.prog zb7 [za l,.int .i64 x] (λv=>∃r:Int,v=.int .i64 r /\ -1<=r/\(0<=r↔x∈l)):=by
  refine fn_x zko rfl ?_;refine dcU zfR.eq_1 ?_;have j:=hBig;refine Gw1 @ub ?_;intros;refine zd (λi:Nat=>([(0,za l),(1,.int .i64 x),(7,.int .i64 l.length),(8,.int .i64 i)],[])) 0 (λi=>i<=l.length/\x∉l.take i) (λi=>l.length-i) 0 ⟨Wv _,by simp⟩ (Ent.keep rfl fin5) ?_;intro i ⟨k,c⟩ wf;refine dcU zej.eq_1 ?_;refine Gw1 @ub ?_;intros;(refine zc (λh=>?_) (λh=>?_))<;>(try simp only[dcd]at h)
  .have b:i<l.length:=by omega
   refine Gw1 (gmp b) ?_;intros;(refine zc (λe=>?_) (λe=>?_))<;>(try simp only[dcd]at e)
   ·(refine Gw1 @zc3.eq_1 ?_;intros);refine⟨_,.int _ _ _,i,rfl,by omega,λ_=>?_,λ_=>by omega⟩;rw[show x=l[i] by omega];exact WN b
   ·(refine Gw0 ?_;intros);refine⟨i+1,⟨by omega,?_⟩,by omega,Ent.keep rfl fin5⟩;rw[WO,Wk b];simp only[Wf,not_or,Option.toList,Wc];exact⟨c,by omega⟩
  .unfold zea;refine Gw1 @zc3.eq_1 ?_;intros;rw[WP (by omega)]at c;exact⟨_,.int _ _ _,-1,rfl,by omega,λh=>by omega,λh=>absurd h c⟩
 refine fn_x ziM rfl ?_;refine dcU zed.eq_1 ?_;refine Gw0 ?_;intros;refine zl3 (D:=noR) d (.cons (.sl _ _ _ _) (.cons (.int _ _ _) .nil)) (λ_ _=>.inr λ_ _ h=>h) ?_;rintro v ⟨r,rfl,g,e⟩;refine Gw1 @zek.eq_1 ?_;intros;refine⟨_,.bool _ _,?_⟩;have:decide (r >= 0)=decide (x∈l):=decide_eq_decide.2 e;rw[this]
end Go.Ab.Dm
namespace Go.Ab.Dm
theorem RA.nx{E}{X}{a b}(h:RA E X a b):¬X b:=by
 cases h with
 |refl h=>exact h
 |step _ _ h=>exact h
end Go.Ab.Dm
namespace Go.Ab.Dm
open Go.RowKit Go.Proofs
theorem zrn{l:List Nat}{x:Nat}:keepL (l++[x]) l.length=keepL l l.length:=by
 unfold keepL;have h:∀j,j<l.length->(l++[x]).getD j 0=l.getD j 0:=λj b=>by rw[Wd,Wd,WF b]
 have d:filR (zj5 (l++[x])) l.length=filR (zj5 l) l.length:=by
  unfold filR;refine WQ λj b=>?_
  have c:=Wg.1 b;unfold zj5;rw[h j c,h (j-1) (by omega)]
 rw[d];refine Wy λj b=>h j ?_
 exact Wg.1 (We.1 b).1
theorem zvc{l:List Nat}{x:Nat}(h:l.getLast? ≠ some x):zaq (l++[x])=zaq l++[x]:=by
 unfold zaq;have k:(l++[x]).length=l.length+1:=by simp
 have j:zj5 (l++[x]) l.length=true:=by
  unfold zj5
  cases c:l.length with
  |zero=>rfl
  |succ m=>
   rw[WR,c]at h;have d:(l++[x]).getD (m+1) 0=x:=by rw[Wd,WS (by omega),c,Nat.sub_self];rfl
   have b:m<l.length:=by omega
   have g:(l++[x]).getD (m+1-1) 0=l[m]:=by rw[Wz,Wd,WF b,Wk b];rfl
   rw[d,g];rw[Wz,Wk b]at h;have:x≠l[m]:=λe=>h (by rw[e])
   simp[this]
 rw[k,zrA (by omega) j,zrn];simp
theorem zvs{l:List Nat}{x:Nat}(h:l.getLast?=some x):zaq (l++[x])=zaq l:=by
 unfold zaq;have j:(l++[x]).length=l.length+1:=by simp
 have g:zj5 (l++[x]) l.length=false:=by
  unfold zj5
  cases c:l.length with
  |zero=>rw[WJ c]at h;cases h
  |succ m=>
   rw[WR,c]at h;have d:(l++[x]).getD (m+1) 0=x:=by rw[Wd,WS (by omega),c,Nat.sub_self];rfl
   have b:m<l.length:=by omega
   have e:(l++[x]).getD (m+1-1) 0=l[m]:=by rw[Wz,Wd,WF b,Wk b];rfl
   rw[d,e];rw[Wz,Wk b]at h;have:x=l[m]:=(Option.some.inj h).symm;simp[this]
 rw[j,zuG g,zrn]
theorem zpS{l:List Nat}{x:Nat}(h:x∉l):∀c,zaq (l++List.replicate c x)=zaq l++if c=0 then[]else[x]
 |0=>by simp
 |
  c+1=>by
  rw[WU,<-List.append_assoc]
  cases c with
  |zero=>rw[List.replicate_zero,Ww,zvc (λb=>h (List.mem_of_getLast? b))];rfl
  |succ c=>rw[zvs (by rw[List.getLast?_append];simp[WU]),zpS h (c+1)];rfl
theorem zrR{A:Adj}{b:Nat}:∀k,zaq (tLL A k b)=filR (λa=>decide (b∈suc A a)) k
 |0=>rfl
 |
  k+1=>by
  have d:tLL A (k+1) b=tLL A k b++List.replicate ((suc A k).count b) k:=by unfold tLL;rw[List.range_succ,WV];simp
  have e:k∉tLL A k b:=by unfold tLL;rw[WC];rintro⟨a,c,g⟩;have h:=Wg.1 c;have j:=List.eq_of_mem_replicate g;omega
  rw[d,zpS e,zrR k];by_cases c:b∈suc A k
  .have:=Wu.2 c;rw[if_neg (by omega),filR_pos (decide_eq_true c)]
  .rw[if_pos (List.count_eq_zero.2 c),filR_neg (decide_eq_false c),Ww]
theorem ztY(E:Adj):((Wh E.length).map λi=>zaq (tLL E E.length i))=predL E:=by
 unfold predL;refine Wy λb _=>?_
 rw[zrR];rfl
theorem mem_predL{E:Adj}{a b:Nat}(c:b<E.length):a∈suc (predL E) b↔a<E.length/\b∈suc E a:=by simp[suc,predL,Wd,c]
theorem Ch.anti{r:Nat}{l:List Nat}{T:Nat->Option Nat}(w:WT r l T)(c:r∈l){a b:Nat}(h:a∈l)(j:b∈l)(d:Ch T a b)(e:Ch T b a):a=b:=by obtain⟨_,k,g⟩:=w.mem c h d;obtain⟨_,m,_⟩:=w.mem c j e;exact(g (by omega)).symm
structure FrP(E:Adj)(T:Nat->Option Nat)(w j:Nat)(S:Nat->Bool):Prop where
 sub:∀x,S x=true->zDZ E x w=true
 all:∀i p,i<j->(suc (predL E) w)[i]?=some p->p∈ordL E 0->∀x,Ch T p x->zDZ E x w=true->S x=true
structure FrB(E:Adj)(T:Nat->Option Nat)(w j p:Nat)(b:Option Nat)(S:Nat->Bool):Prop extends FrP E T w j S where
 at_:(suc (predL E) w)[j]?=some p
 pl:p∈ordL E 0
 here:∀c,b=some c->Ch T p c
 rest:∀x,Ch T p x->zDZ E x w=true->S x=true\/∃c,b=some c/\Ch T c x
section
variable {E:Adj}{T:Nat->Option Nat}{w j p:Nat}{S:Nat->Bool} (hE:E.ok) (hn:0<E.length) (D:DTree' E 0 (ordL E 0) T) (hw:w<E.length)
include hE hn
theorem z_mem:(0:Nat)∈ordL E 0:=(mem_ordL hE hn).2 (.refl (by simp))
include D
include hw
end
theorem zH6{P:Nat->Prop}{m:Nat->Nat}{B:Nat}(g:∀c,P c->m c<B):∀(d c:Nat),P c->B-m c<=d->∃c,P c/\∀x,P x->m x<=m c
 |0,c,b,h=>by have:=g c b;omega
 |
  d+1,c,b,h=>by
  by_cases e:∀x,P x->m x<=m c
  .exact⟨c,b,e⟩
  .simp only[Xd]at e;obtain⟨x,j,k⟩:=e;exact zH6 g d x j (by have:=g c b;omega)
theorem zIl{A:Adj}{r x c k:Nat}(d:x≠c)(h:RA A (λ_=>False) r k):RA A (λy=>y=x\/y=c) r k\/RA A (·=x) c k\/RA A (·=c) x k:=by
 induction h with
 |refl _=>
  by_cases j:r=x
  .subst j;exact .inr (.inr (.refl d))
  .by_cases m:r=c
   .subst m;exact .inr (.inl (.refl (λe=>d e.symm)))
   .exact .inl (.refl (by rintro(h|h);exact j h;exact m h))
 |@step b k' _ h3 _ g=>
  by_cases j:k'=x
  .subst j;exact .inr (.inr (.refl d))
  .by_cases m:k'=c
   .subst m;exact .inr (.inl (.refl (λe=>d e.symm)))
   .rcases g with g|g|g
    .exact .inl (g.step h3 (by rintro(h|h);exact j h;exact m h))
    .exact .inr (.inl (g.step h3 j))
    .exact .inr (.inr (g.step h3 m))
theorem zHb{A:Adj}{r x c k:Nat}(o:RA A (λ_=>False) r k)(g:Dm A r x k)(m:Dm A r c k):Dm A r x c\/Dm A r c x:=by
 by_cases b:x=c
 .subst b;exact .inl (Dm.refl _)
 .by_cases j:Dm A r x c
  .exact .inl j
  .refine .inr λn=>?_
   have d:RA A (·=x) r c:=Classical.not_not.1 j;rcases zIl b o with h|h|h
   .exact g (mono_RA (λ_ e=>.inl e) h)
   .exact g (d.trans h)
   .exact m (n.trans h)
theorem zGh{A:Adj}{r x c k:Nat}(p:Dm A r x c)(o:Dm A r c k)(q:RA A (λ_=>False) r k):Dm A r x k:=by
 intro h;by_cases n:x=c
 .subst n;exact o h
 .have key:∀{b},RA A (·=x) r b->RA A (·=c) r b\/RA A (·=x) r c:=by
   intro b m
   induction m with
   |refl h=>
    by_cases g:r=c
    .subst g;exact .inr (.refl h)
    .exact .inl (.refl g)
   |@step b k' m d h4 j=>
    rcases j with j|j
    .by_cases e:k'=c
     .subst e;exact .inr (m.step d h4)
     .exact .inl (j.step d e)
    .exact .inr j
  rcases key h with d|d
  .exact o d
  .exact p d
theorem dtree_ex{E:Adj}(N:E.ok)(R:0<E.length):∃T,DTree' E 0 (ordL E 0) T:=by
 obtain⟨f,L⟩:=(rpo N R).lay;have Q:∀x,x∈ordL E 0↔RA E (λ_=>False) 0 x:=λx=>mem_ordL N R
 have D:Lay E 0 (ordL E 0) f:=L;generalize ordL E 0=l at *
 have early:∀(n k x:Nat),k∈l->l.idxOf k<=n->l.idxOf k<l.idxOf x->RA E (·=x) 0 k:=by
  intro n
  induction n with
  |zero=>
   intro k x d g m;have:k=0:=Xb λh=>by have:=D.pos d h;omega
   subst this;exact .refl (λe=>by subst e;omega)
  |succ n A=>
   intro k x d g m;by_cases p:k=0
   .subst p;exact .refl (λe=>by subst e;omega)
   .obtain⟨y,w,C⟩:=D.fm k d p;exact(A (f k) x y (by omega) (by omega)).step w (λe=>by subst e;omega)
 have t:∀{x k},x∈l->k∈l->Dm E 0 x k->x≠k->l.idxOf x<l.idxOf k:=by
  intro x k v d hd K;rcases Nat.lt_trichotomy (l.idxOf x) (l.idxOf k)with h|h|h
  .exact h
  .exact absurd (D.inj v d h) K
  .exact absurd (early _ k x d (WG _) h) hd
 have z:∀k,Dm E 0 0 k:=λk h=>by
  have:∀{b},RA E (·=0) 0 b->False:=by
   intro b V
   induction V with
   |refl h=>exact h rfl
   |step _ _ _ A=>exact A
  exact this h
 have J:∀k,k∈l/\k≠0->∃c,(c∈l/\c≠k/\Dm E 0 c k)/\∀x,(x∈l/\x≠k/\Dm E 0 x k)->l.idxOf x<=l.idxOf c:=λk d=>
  zH6 (B:=l.length) (λc W=>zj1 W.1) l.length 0 ⟨D.root,λe=>d.2 e.symm,z k⟩ (by omega)
 obtain⟨T,F,s⟩:∃T:Nat->Option Nat,(∀k,¬(k∈l/\k≠0)->T k=none)/\∀k,k∈l/\k≠0->∃c,T k=some c/\(c∈l/\c≠k/\Dm E 0 c k)/\∀x,(x∈l/\x≠k/\Dm E 0 x k)->l.idxOf x<=l.idxOf c:=by
  have:∀k,∃o:Option Nat,(¬(k∈l/\k≠0)->o=none)/\(k∈l/\k≠0->∃c,o=some c/\(c∈l/\c≠k/\Dm E 0 c k)/\∀x,(x∈l/\x≠k/\Dm E 0 x k)->l.idxOf x<=l.idxOf c):=by
   intro k;by_cases d:k∈l/\k≠0
   .obtain⟨c,g,m⟩:=J k d;exact⟨some c,λh=>absurd d h,λ_=>⟨c,rfl,g,m⟩⟩
   .exact⟨none,λ_=>rfl,λh=>absurd h d⟩
  obtain⟨T,O⟩:=Xe this;exact⟨T,λk=>(O k).1,λk=>(O k).2⟩
 have u:∀k c,T k=some c->k∈l/\k≠0:=λk c h=>Xb λm=>by rw[F k m]at h;cases h
 refine⟨T,⟨F 0 (λh=>h.2 rfl),λk j h=>?_⟩,λk d p h=>?_,λk d x v=>⟨λh=>?_,λh=>?_⟩⟩
 .have d:=u k j h;obtain⟨c,g,⟨m,y,w⟩,_⟩:=s k d;rw[h]at g;cases g;refine⟨d.1,m,t m d.1 w y,?_⟩;by_cases P:j=0
  .exact .inl P
  .obtain⟨X,C,_⟩:=s j ⟨m,P⟩;exact .inr (by rw[C];simp)
 .obtain⟨c,g,_⟩:=s k ⟨d,p⟩;rw[h]at g;cases g
 .have:∀{k x},Ch T k x->k∈l->Dm E 0 x k:=by
   intro k x h
   induction h with
   |refl=>intro _;exact Dm.refl _
   |up g _ A=>intro d;obtain⟨c,m,⟨y,w,C⟩,_⟩:=s _ (u _ _ g);rw[g]at m;cases m;exact zGh (A y) C ((Q _).1 d)
  exact this h d
 .have:∀(n k:Nat),k∈l->l.idxOf k<=n->∀x,x∈l->Dm E 0 x k->Ch T k x:=by
   intro n
   induction n with
   |zero=>
    intro k d g x v hd;by_cases q:x=k
    .subst q;exact .refl _
    .have:=t v d hd q;omega
   |succ n A=>
    intro k d g x v hd;by_cases q:x=k
    .subst q;exact .refl _
    .have m:=t v d hd q;have p:k≠0:=λe=>by subst e;have:=D.pl0;omega
     obtain⟨c,y,⟨w,C,M⟩,h7⟩:=s k ⟨d,p⟩;have Y:=t w d M C;refine .up y (A c w (by omega) x v ?_);rcases zHb ((Q k).1 d) hd M with I|I
     .exact I
     .by_cases H:x=c
      .subst H;exact Dm.refl _
      .have S:=t w v I (λe=>H e.symm);have U:=h7 x ⟨v,q,hd⟩;omega
  exact this _ k d (WG _) x v h
end Go.Ab.Dm
namespace Go.Ab
open Go.RowKit Go.Proofs
structure EdgeOk(E:Dm.Adj)(last:Nat->St):Prop where
 ok:E.ok
 pos:0<E.length
 tg:∀k,k<E.length->tgS (last k)=(Dm.suc E k).map λ(t:Nat)=>(t:Int)
def ordE(E:Dm.Adj):List Nat:=Dm.ordL E 0
def zcB(E:Dm.Adj)(b:Nat):List Nat:=(ordE E).filter λk=>decide ((Dm.treeL E).getD k (-1)=(b:Int))
def cntE(E:Dm.Adj)(t:Nat):Nat:=((ordE E).map λk=>(Dm.suc E k).count t).sum
def zeN(E:Dm.Adj)(b:Nat):Bool:=(ordE E).any λp=>decide (b∈Dm.suc E p)&&Dm.domL (Dm.treeL E) b p
def zi8(E:Dm.Adj)(b x:Nat):Prop:=x=b\/∃p∈ordE E,b∈Dm.suc E p/\Dm.domL (Dm.treeL E) b p=true/\x∈ordE E/\Dm.RA E (·=b) x p
open Classical in
noncomputable def shpE(E:Dm.Adj)(last:Nat->St)(one:Nat->Bool):Shp:=⟨zcB E,cntE E,zeN E,λb x=>decide (zi8 E b x),last,one⟩
theorem zts{g:Nat->Nat}:∀{l:List Nat}{a b:Nat},a∈l->b∈l->a≠b->0<g a->0<g b->2<=(l.map g).sum
 |
  x::l,a,b,m,k,hne,h1,h2=>by
  rw[Wj,Wt];rcases Wp.1 m with h|d
  .rcases Wp.1 k with e|c
   .exact absurd (h.trans e.symm) hne
   .have j:g b<=(l.map g).sum:=znM g c;rw[<-h];omega
  .rcases Wp.1 k with e|c
   .have j:g a<=(l.map g).sum:=znM g d;rw[<-e];omega
   .have j:2<=(l.map g).sum:=zts d c hne h1 h2;omega
section
variable {E:Dm.Adj}{last:Nat->St}{one:Nat->Bool} (h:EdgeOk E last)
include h
theorem zkG{x:Nat}:x∈ordE E↔Dm.RA E (λ_=>False) 0 x:=Dm.mem_ordL h.ok h.pos
theorem zbl{x:Nat}(b:x∈ordE E):x<E.length:=(Dm.rpo h.ok h.pos).lt x b
theorem zmj{k t:Nat}(b:k∈ordE E)(c:t∈Dm.suc E k):t∈ordE E:=(zkG h).2 (((zkG h).1 b).step c id)
theorem zuj{T:Nat->Option Nat}(D:Dm.DTree' E 0 (ordE E) T){k:Nat}(b:k<E.length):(Dm.treeL E).getD k (-1)=Dm.tI (T k):=by rw[<-Dm.treeL_eq h.ok h.pos D];simp[Dm.outI,Wd,b]
theorem zuM{o:Option Nat}{b:Nat}:Dm.tI o=(b:Int)↔o=some b:=by
 cases o with
 |none=>exact⟨λe=>by simp only[Dm.tI]at e;omega,λe=>by cases e⟩
 |some a=>simp only[Dm.tI,Option.some.injEq];exact⟨λe=>Int.ofNat.inj e,λe=>by rw[e]⟩
omit h in
theorem zs2(t:Nat):∀l:List Nat,(l.map λ(x:Nat)=>(x:Int)).count (t:Int)=l.count t
 |[]=>rfl
 |
  a::l=>by
  rw[Wj,WE,WE,zs2 t l];by_cases e:a=t
  .simp[e]
  .have b:¬((a:Int)=(t:Int)):=by omega
   simp[e,b]
omit h in
theorem zHR{X:Nat->Prop}{a b:Nat}(g:Dm.RA E X a b)(c:a≠b):∃m,Dm.RA E X a m/\b∈Dm.suc E m:=by
 cases g with
 |refl _=>exact absurd rfl c
 |step d e _=>exact⟨_,d,e⟩
theorem zE5{X:Nat->Prop}{m:Nat}(b:Dm.RA E X 0 m):m∈ordE E:=(zkG h).2 (Dm.mono_RA (λy c=>c.elim) b)
theorem znd{T:Nat->Option Nat}(D:Dm.DTree' E 0 (ordE E) T):Tr (shpE E last one) (ordE E) T:=by
 have hz:0∈ordE E:=Dm.z_mem h.ok h.pos;have o:=λ{x} (U:x∈ordE E)=>zbl h U
 have F:∀t,cntE E t=(((ordE E).map λk=>(tgS (last k)).count (t:Int)).sum):=λt=>by
  unfold cntE;congr 1;refine Wy λk d=>?_
  rw[h.tg k (o d),zs2]
 have I:∀{k:Nat}{t:Int},k∈ordE E->t∈tgS (last k)->∃u∈Dm.suc E k,t=(u:Nat):=λ{k t} d q=>by rw[h.tg k (o d)]at q;obtain⟨u,A,rfl⟩:=Wo.1 q;exact⟨u,A,rfl⟩
 refine⟨(Dm.rpo h.ok h.pos).nd,λk t=>?_,λk=>((Dm.rpo h.ok h.pos).nd).filter _,λk t d q s=>(D.wt.up t k s).2.2.1,λk d t q=>?_,F,λk d t s q v=>?_,λt q k s=>?_⟩
 .show t∈zcB E k↔_;unfold zcB;rw[We,decide_eq_true_eq];exact⟨λ⟨v,n⟩=>⟨v,by rw[zuj h D (o v)]at n;exact(zuM h).1 n⟩,λ⟨v,n⟩=>⟨v,by rw[zuj h D (o v)];exact(zuM h).2 n⟩⟩
 .obtain⟨u,A,rfl⟩:=I d q;exact⟨u,zmj h d A,rfl⟩
 .obtain⟨u,A,e⟩:=I d q;have e:t=u:=Int.ofNat.inj e;subst e;have z:=zmj h d A;have H:t≠0:=λe=>s (e▸D.wt.root)
  have p:∀m∈ordE E,t∈Dm.suc E m->m=k:=λm J R=>Xb λy=>by have n:=zts (g:=λk=>(Dm.suc E k).count t) d J (λe=>y e.symm) (Wu.2 A) (Wu.2 R);have M:cntE E t=1:=v;unfold cntE at M;omega
  have N:Dm.Dm E 0 k t:=λZ=>by obtain⟨m,n,C⟩:=zHR Z (λe=>H e.symm);exact n.nx (p m (zE5 h n) C)
  obtain⟨j,B⟩:∃j,T t=some j:=by
   cases B:T t with
   |none=>exact absurd B s
   |some j=>exact⟨j,rfl⟩
  obtain⟨_,w,O,_⟩:=D.wt.up t j B
  have Q:k≠t:=λe=>by
   have S:∀x,Dm.RA E (λ_=>False) 0 x->x≠t:=λx U=>by
    induction U with
    |refl _=>exact λe=>H e.symm
    |@step b c n C _ ih=>exact λL=>ih ((p b (zE5 h n) (L▸C)).trans e)
   exact S t ((zkG h).1 z) rfl
  have W:Dm.Ch T t k:=(D.ch t z k d).2 N
  have X:Dm.Ch T j k:=by
   rcases W.cases' with e|⟨j',V,L⟩
   .exact absurd e Q
   .rw[B]at V;cases V;exact L
  have K:Dm.Dm E 0 j t:=(D.ch t z j w).1 (.up B (.refl j));have P:j≠t:=λe=>by rw[e]at O;omega
  have Y:Dm.Ch T k j:=(D.ch k d j w).2 (K.pred A P);rw[B,Dm.Ch.anti D.wt hz d w Y X]
 .have y:0≠t:=λe=>by rw[<-e,D.wt.root]at s;cases s
  obtain⟨m,n,C⟩:=zHR ((zkG h).1 q) y;have J:=zE5 h n;refine⟨(D.wt.up t k s).2.1,m,J,?_⟩;show(t:Int)∈tgS (last m);rw[h.tg m (o J)];exact Wo.2 ⟨t,C,rfl⟩
theorem zkj{T:Nat->Option Nat}(D:Dm.DTree' E 0 (ordE E) T):Top (ordE E) T:=by obtain⟨t,b⟩:=(Dm.rpo h.ok h.pos).head;refine⟨Dm.z_mem h.ok h.pos,?_,D.wt.root,D.held⟩;show(Dm.dfs E E.length 0 ([],[])).2.reverse.idxOf 0=0;rw[b];simp
end
def zsj(E:Dm.Adj)(b p:Nat):Prop:=p∈ordE E/\b∈Dm.suc E p/\Dm.domL (Dm.treeL E) b p=true
theorem zBr{E:Dm.Adj}{b p:Nat}(h:zsj E b p):zi8 E b p:=by
 by_cases c:p=b
 .exact .inl c
 .exact .inr ⟨p,h.1,h.2.1,h.2.2,h.1,.refl c⟩
theorem zx9{E:Dm.Adj}{b x y:Nat}(h:zi8 E b x)(e:x≠b)(n:y∈ordE E)(d:x∈Dm.suc E y):zi8 E b y:=by
 by_cases c:y=b
 .exact .inl c
 rcases h with h|⟨p,g,j,k,_,m⟩
 .exact absurd h e
 .exact .inr ⟨p,g,j,k,n,((Dm.RA.refl (X:=(·=b)) c).step d e).trans m⟩
theorem zGB{E:Dm.Adj}{last:Nat->St}(j:EdgeOk E last){b:Nat}{S:List Nat}(t:b∈S)(e:∀p,zsj E b p->p∈S)(d:∀x∈S,x≠b->∀y∈ordE E,x∈Dm.suc E y->y∈S){x:Nat}(h:zi8 E b x):x∈S:=by
 rcases h with rfl|⟨p,k,n,o,q,s⟩
 .exact t
 .have key:∀z,Dm.RA E (·=b) x z->z∈S->x∈S:=λz v=>by
   induction v with
   |refl _=>exact id
   |@step m c hm hc hcb ih=>intro g;refine ih (d c g hcb m ?_ hc);exact(zkG j).2 (((zkG j).1 q).trans (Dm.mono_RA (λ_ u=>u.elim) hm))
  exact key p s (e p ⟨k,n,o⟩)
structure BodyI(E:Dm.Adj)(b:Nat)(S R:List Nat):Prop where
 nd:S.Nodup
 head:b∈S
 inl:∀x∈S,zi8 E b x
 lt:∀x∈R,x<E.length
 new:∀x∈R,x∈ordE E->zi8 E b x
 src:∀p,zsj E b p->p∈S\/p∈R
 pre:∀x∈S,x≠b->∀y∈ordE E,x∈Dm.suc E y->y∈S\/y∈R
section
variable {E:Dm.Adj}{last:Nat->St}{b:Nat}{S R:List Nat}
theorem BodyI.start{l:List Nat}(g:EdgeOk E last)(d:∀p,p∈l↔zsj E b p):BodyI E b [b] l :=
 ⟨by simp,by simp,λx c=>.inl (by simpa using c),λx c=>zbl g ((d x).1 c).1,λx c _=>zBr ((d x).1 c),λp h=>.inr ((d p).2 h),λx c e=>absurd (by simpa using c) e⟩
theorem BodyI.skip{x:Nat}(h:BodyI E b S (R++[x]))(g:x∈S\/x∉ordE E):BodyI E b S R:=by
 have e:∀y,y∈ordE E->(y∈S\/y∈R++[x])->y∈S\/y∈R:=λy d c=>by
  rcases c with c|c
  .exact .inl c
  .rcases Wf.1 c with c|c
   .exact .inr c
   .rw[Wc.1 c]at d⊢;rcases g with g|g
    .exact .inl g
    .exact absurd d g
 exact⟨h.nd,h.head,h.inl,λy d=>h.lt y (Wa _ d),λy d=>h.new y (Wa _ d),λp m=>e p m.1 (h.src p m),λz n k y d j=>e y d (h.pre z n k y d j)⟩
theorem BodyI.take{x:Nat}{l:List Nat}(h:BodyI E b S (R++[x]))(q:∀y,y∈l↔y<E.length/\x∈Dm.suc E y)(w:EdgeOk E last)(v:x∉S)(t:x∈ordE E):BodyI E b (S++[x]) (R++l):=by
 have s:x≠b:=λe=>v (e▸h.head)
 have m:=h.new x (by simp) t
 have k:∀y,(y∈S\/y∈R++[x])->y∈S++[x]\/y∈R++l:=λy g=>by
  rcases g with g|g
  .exact .inl (Wa _ g)
  .rcases Wf.1 g with g|g
   .exact .inr (Wa _ g)
   .exact .inl (Wi _ g)
 refine⟨?_,Wa _ h.head,λy d=>?_,λy d=>?_,λy d n=>?_,λp C=>k p (h.src p C),λz o u y d j=>?_⟩
 .rw[List.nodup_append];refine⟨h.nd,by simp,λa A c B=>?_⟩;rw[Wc.1 B];rintro rfl;exact v A
 .rcases Wf.1 d with d|d
  .exact h.inl y d
  .rw[Wc.1 d];exact m
 .rcases Wf.1 d with d|d
  .exact h.lt y (Wa _ d)
  .exact((q y).1 d).1
 .rcases Wf.1 d with d|d
  .exact h.new y (Wa _ d) n
  .exact zx9 m s n ((q y).1 d).2
 .rcases Wf.1 o with o|o
  .exact k y (h.pre z o u y d j)
  .rw[Wc.1 o]at j;exact .inr (Wi _ ((q y).2 ⟨zbl w d,j⟩))
theorem BodyI.done(h:BodyI E b S [])(e:EdgeOk E last){x:Nat}:x∈S↔zi8 E b x :=
 ⟨h.inl x,zGB e h.head (λp g=>(h.src p g).resolve_right (by simp)) (λz k d y j c=>(h.pre z k d y j c).resolve_right (by simp))⟩
end
def zCb(f:Nat->Nat)(n:Nat)(S:List Nat):Nat:=(((Wh n).filter λx=>decide (x∉S)).map f).sum
theorem zzK{f:Nat->Nat}{S:List Nat}{x:Nat}(j:x∉S):∀{l:List Nat},l.Nodup->((l.filter λy=>decide (y∉S)).map f).sum=((l.filter λy=>decide (y∉S++[x])).map f).sum+if x∈l then f x else 0
 |[],_=>by simp
 |
  y::l,h=>by
  have g:=List.nodup_cons.1 h;have d:=zzK (f:=f) j g.2;by_cases c:y∈S
  .have e:x≠y:=λe=>j (e▸c)
   rw[WA (by simp[c]),WA (by simp[c]),d];simp[e]
  .by_cases b:y=x
   .subst b;rw[WB (by simp[c]),WA (by simp),Wj,Wt,d,if_neg g.1,if_pos Wm];omega
   .have e:x≠y:=λe=>b e.symm
    rw[WB (by simp[c]),WB (by simp[c,b]),Wj,Wt,Wj,Wt,d];simp[e];omega
theorem zBw{f:Nat->Nat}{n:Nat}{S:List Nat}{x:Nat}(c:x∉S)(b:x<n):zCb f n S=zCb f n (S++[x])+f x:=by unfold zCb;rw[zzK c List.nodup_range,if_pos (Wg.2 b)]
open Classical in
noncomputable def zfm(E:Dm.Adj)(b:Nat):List Nat:=(Wh E.length).filter λx=>decide (zi8 E b x)
theorem zrX{E:Dm.Adj}{last:Nat->St}(c:EdgeOk E last){b x:Nat}(d:b<E.length):x∈zfm E b↔zi8 E b x:=by
 unfold zfm;rw[We,Wg,@decide_eq_true_iff _ (Xc _)];refine⟨λh=>h.2,λh=>⟨?_,h⟩⟩;rcases h with rfl|⟨_,_,_,_,h,_⟩
 .exact d
 .exact zbl c h
theorem zn6{E:Dm.Adj}{b:Nat}:(zfm E b).length<=E.length:=by have:=Wl (λx=>@decide (zi8 E b x) (Xc _)) (Wh E.length);simpa [zfm]using this
def zhe(l:List Nat):List Int:=l.map λ(x:Nat)=>(x:Int)
theorem zjJ{l:List Nat}:(zhe l).length=l.length:=by simp[zhe]
theorem zEq{l:List Nat}{x:Nat}:(x:Int)∈zhe l↔x∈l:=by unfold zhe;rw[Wo];exact⟨λ⟨y,b,c⟩=>by rw[<-Int.ofNat.inj c];exact b,λh=>⟨x,h,rfl⟩⟩
theorem ztm{l:List Nat}(h:l.Nodup):(zhe l).Nodup:=by unfold zhe List.Nodup;rw[WW];exact List.Pairwise.imp (λb e=>b (Int.ofNat.inj e)) h
theorem zxL{E:Dm.Adj}{last:Nat->St}(c:EdgeOk E last){b:Nat}(d:b<E.length){S:List Nat}(g:S.Nodup)(e:∀x,x∈S↔zi8 E b x):zmN (zhe S)=zhe (zfm E b):=by
 refine zu1 ?_ (zl2 _) ?_
 .refine(zd4 _).trans ?_;unfold zhe;refine List.Perm.map _ ((List.perm_ext_iff_of_nodup g ?_).2 λx=>?_)
  .exact List.nodup_range.filter _
  .rw[e,zrX c d]
 .unfold zhe;rw[WW];have:(zfm E b).Pairwise (· < ·):=List.pairwise_lt_range.filter _;exact this.imp λh=>by omega
def nx1(E:Dm.Adj)(b p:Nat):List Nat:=Dm.filR (λb=>decide (b∈Dm.suc E p)) b
def nx2(E:Dm.Adj)(b i p:Nat):List Nat:=nx1 E b p++if p∈(Dm.suc (Dm.predL E) b).take i then[b]else[]
def zls(E:Dm.Adj):Dm.Adj:=(Wh E.length).map (nx1 E E.length)
section
variable {E:Dm.Adj}
theorem zHY{p b:Nat}(h:b∈Dm.suc E p):p<E.length:=by
 by_cases c:p<E.length
 .exact c
 .unfold Dm.suc at h;rw[Wd,List.getElem?_eq_none (by omega)]at h;cases h
theorem zAC{b:Nat}:(Dm.suc (Dm.predL E) b).Nodup:=by
 unfold Dm.suc Dm.predL;rw[Wd,WX]
 cases(Wh E.length)[b]? with
 |none=>exact List.nodup_nil
 |some b=>exact List.nodup_range.filter _
theorem zqw{b:Nat}:(Dm.suc (Dm.predL E) b).length<=E.length:=by
 unfold Dm.suc Dm.predL;rw[Wd,WX]
 cases(Wh E.length)[b]? with
 |none=>exact Wv _
 |some b=>have:=Wl (λa=>decide (b∈Dm.suc E a)) (Wh E.length);rw[List.length_range]at this;exact this
theorem zH4{b p x:Nat}(h:x∈nx1 E b p):x<b/\x∈Dm.suc E p:=by unfold nx1 Dm.filR at h;rw[We,Wg,decide_eq_true_eq]at h;exact h
theorem zIC{b p x:Nat}:x∈nx1 E b p↔x<b/\x∈Dm.suc E p:=by unfold nx1 Dm.filR;rw[We,Wg,decide_eq_true_eq]
theorem zpr{b p:Nat}:(nx1 E b p).length<=b:=Dm.filR_le
theorem zzs:nx1 E 0=λ_=>[]:=rfl
theorem zHk{b p:Nat}:nx1 E (b+1) p=nx1 E b p++if b∈Dm.suc E p then[b]else[]:=by
 unfold nx1;by_cases h:b∈Dm.suc E p
 .rw[Dm.filR_pos (decide_eq_true h),if_pos h]
 .rw[Dm.filR_neg (decide_eq_false h),if_neg h,Ww]
theorem zz7{b:Nat}:nx2 E b 0=nx1 E b:=by funext p;simp[nx2]
theorem zJj{b:Nat}(c:b<E.length):nx2 E b (Dm.suc (Dm.predL E) b).length=nx1 E (b+1):=by
 funext p;unfold nx2;rw[List.take_length,zHk];congr 1;by_cases h:b∈Dm.suc E p
 .rw[if_pos h,if_pos ((Dm.mem_predL c).2 ⟨zHY h,h⟩)]
 .rw[if_neg h,if_neg λd=>h ((Dm.mem_predL c).1 d).2]
theorem zzq{l:List Nat}(h:l.Nodup){i:Nat}(b:i<l.length):l[i]∉l.take i:=λd=>by obtain⟨j,c,e⟩:=List.mem_iff_getElem.1 d;rw[List.length_take]at c;rw[List.getElem_take]at e;exact List.pairwise_iff_getElem.1 h j i (by omega) b (by omega) e
theorem zHZ{b i:Nat}(c:i<(Dm.suc (Dm.predL E) b).length):nx2 E b i (Dm.suc (Dm.predL E) b)[i]=nx1 E b (Dm.suc (Dm.predL E) b)[i]:=by unfold nx2;rw[if_neg (zzq zAC c),Ww]
theorem zHL{b i:Nat}(c:i<(Dm.suc (Dm.predL E) b).length):updF (nx2 E b i) (Dm.suc (Dm.predL E) b)[i] (nx2 E b i (Dm.suc (Dm.predL E) b)[i]++[b])=nx2 E b (i+1):=by
 rw[zHZ c];funext p;by_cases h:p=(Dm.suc (Dm.predL E) b)[i]
 .subst h;rw[zgQ];unfold nx2;rw[if_pos (by rw[WY c];exact Wi _ (Wc.2 rfl))]
 .rw[zux h];unfold nx2;congr 1;have:p∈(Dm.suc (Dm.predL E) b).take (i+1)↔p∈(Dm.suc (Dm.predL E) b).take i:=by rw[WY c,Wf,Wc];exact⟨λd=>d.resolve_right h,.inl⟩
  simp only[this]
theorem zJs{b i:Nat}(c:i<(Dm.suc (Dm.predL E) b).length):b∉nx2 E b i (Dm.suc (Dm.predL E) b)[i]:=by rw[zHZ c];intro h;have:=(zH4 h).1;omega
theorem zJH{b i p:Nat}:(nx2 E b i p).length<=b+1:=by
 unfold nx2;rw[Wr];have:=zpr (E:=E) (b:=b) (p:=p);split
 .rw[WZ];omega
 .rw[WH];omega
def isBk(E:Dm.Adj)(a b:Nat):Bool:=Dm.domL (Dm.treeL E) b a
def bkA(E:Dm.Adj)(a:Nat)(l:List Nat):List (Nat×Nat):=(l.filter λb=>isBk E a b).map λb=>(a,b)
def bk1(E:Dm.Adj)(a:Nat):List (Nat×Nat):=(Wh a).flatMap λa=>if a∈ordE E then bkA E a (nx1 E E.length a)else[]
def zgX(E:Dm.Adj):List (Nat×Nat):=bk1 E E.length
theorem zt7{a:Nat}:bk1 E (a+1)=bk1 E a++if a∈ordE E then bkA E a (nx1 E E.length a)else[]:=by unfold bk1;rw[List.range_succ,WV];simp
theorem zHD{a:Nat}{l:List Nat}{i:Nat}(h:i<l.length):bkA E a (l.take (i+1))=bkA E a (l.take i)++if isBk E a l[i]then[(a,l[i])]else[]:=by unfold bkA;rw[Dm.filter_take_succ h,List.map_append];cases isBk E a l[i]<;>simp
theorem zEU{a:Nat}{l:List Nat}:(bkA E a l).length<=l.length:=by unfold bkA;rw[List.length_map];exact Wl _ _
theorem zxK{a:Nat}:(bk1 E a).length<=a*E.length:=by
 induction a with
 |zero=>simp[bk1]
 |succ a ih=>
  rw[zt7,Wr,Nat.add_mul,Nat.one_mul];have c:=zEU (E:=E) (a:=a) (l:=nx1 E E.length a);have d:=zpr (E:=E) (b:=E.length) (p:=a);split
  .omega
  .rw[WH];omega
theorem zn0{last:Nat->St}(j:EdgeOk E last){a b:Nat}:(a,b)∈zgX E↔zsj E b a:=by
 unfold zgX bk1 zsj;rw[WC];constructor
 .rintro⟨x,n,h⟩;split at h
  .rename_i k;unfold bkA at h;obtain⟨y,m,e⟩:=Wo.1 h;cases e;obtain⟨d,c⟩:=We.1 m;exact⟨k,(zH4 d).2,c⟩
  .cases h
 .rintro⟨d,c,g⟩;refine⟨a,Wg.2 (zHY c),?_⟩;rw[if_pos d];unfold bkA;exact Wo.2 ⟨b,We.2 ⟨zIC.2 ⟨j.ok _ _ c,c⟩,g⟩,rfl⟩
theorem zBW{b:Nat}:zeN E b=true↔∃p,zsj E b p:=by
 unfold zeN zsj;rw[W0];constructor
 .rintro⟨p,d,c⟩;rw[WD,decide_eq_true_eq]at c;exact⟨p,d,c⟩
 .rintro⟨p,d,c⟩;exact⟨p,d,by rw[WD,decide_eq_true_eq];exact c⟩
theorem zFG{last:Nat->St}(g:EdgeOk E last){b:Nat}:(zgX E).any (λe=>decide (e.2=b))=zeN E b:=by
 rw[Bool.eq_iff_iff,zBW,W0];constructor
 .rintro⟨⟨a,c⟩,h,d⟩;rw[decide_eq_true_eq]at d;cases d;exact⟨a,(zn0 g).1 h⟩
 .rintro⟨p,j⟩;exact⟨(p,b),(zn0 g).2 j,by simp⟩
def srcL(E:Dm.Adj)(b:Nat)(l:List (Nat×Nat)):List Nat:=(l.filter λe=>decide (e.2=b)).map (·.1)
theorem zCp{b:Nat}{l:List (Nat×Nat)}{i:Nat}(h:i<l.length):srcL E b (l.take (i+1))=srcL E b (l.take i)++if l[i].2=b then[l[i].1]else[]:=by
 unfold srcL;rw[Dm.filter_take_succ h,List.map_append];by_cases c:l[i].2=b
 .simp[c]
 .simp[c]
theorem zyU{b:Nat}{l:List (Nat×Nat)}:(srcL E b l).length<=l.length:=by unfold srcL;rw[List.length_map];exact Wl _ _
theorem zFv{last:Nat->St}(e:EdgeOk E last){b p:Nat}:p∈srcL E b (zgX E)↔zsj E b p:=by
 unfold srcL;rw[Wo];constructor
 .rintro⟨⟨a,c⟩,h1,rfl⟩;obtain⟨g,d⟩:=We.1 h1;rw[decide_eq_true_eq]at d;cases d;exact(zn0 e).1 g
 .intro h;exact⟨(p,b),We.2 ⟨(zn0 e).2 h,by simp⟩,rfl⟩
structure NatI(E:Dm.Adj)(b i:Nat)(out:List Nat):Prop where
 inl:∀x∈out,zi8 E b x
 lt:∀x∈out,x<E.length
 src:∀p,zsj E b p->p∈out
 head:out≠[]->b∈out/\zeN E b=true
 pre:∀j x,j<i->out[j]?=some x->x≠b->∀y∈ordE E,x∈Dm.suc E y->y∈out
end
def beyC(S:Shp)(k:Nat)(o:List Nat)(x:Nat):Bool := !S.inB k x&&(o.isEmpty||decide (S.cnt x≠1))
theorem zmt{S:Shp}{k x:Nat}:∀{l out:List Nat},ziL S k (l++[x]) out=if beyC S k (ziL S k l out) x then ziL S k l out++[x]else ziL S k l out
 |
  [],out=>by
  rw[List.nil_append,ziL,ziL,ziL,ziL];rfl
 |
  y::l,out=>by
  rw[List.cons_append,ziL,ziL];split
  .rw[zmt]
  .rw[zmt]
def aftG(S:Shp)(k:Nat)(l:List Nat):List Nat:=ziL S k l []
def resG(S:Shp)(k:Nat)(l:List Nat):List Nat:=l.filter λx=>decide (x∉aftG S k l)
theorem zz8{S:Shp}{k x:Nat}{l:List Nat}(h:x∈aftG S k l):x∈l:=(zoL l [] x h).resolve_left (by simp)
theorem zzm{S:Shp}{k x:Nat}{l:List Nat}(h:beyC S k (aftG S k l) x=true):aftG S k (l++[x])=aftG S k l++[x]:=by unfold aftG at h⊢;rw[zmt,if_pos h]
theorem zEx{S:Shp}{k x:Nat}{l:List Nat}(h:beyC S k (aftG S k l) x=false):aftG S k (l++[x])=aftG S k l:=by unfold aftG at h⊢;rw[zmt,h];rfl
theorem zGu{S:Shp}{k x:Nat}{l:List Nat}(h:beyC S k (aftG S k l) x=true)(b:x∉l):resG S k (l++[x])=resG S k l:=by
 unfold resG;rw[zzm h,Wx,WA (by simp),List.filter_nil,Ww];refine WQ λy c=>?_
 have:y≠x:=λe=>b (e▸c)
 simp[this]
theorem zJI{S:Shp}{k x:Nat}{l:List Nat}(h:beyC S k (aftG S k l) x=false)(c:x∉l):resG S k (l++[x])=resG S k l++[x]:=by unfold resG;rw[zEx h,Wx,WB (by simp;exact λb=>c (zz8 b)),List.filter_nil]
theorem zzL{S:Shp}{k:Nat}{l:List Nat}:(aftG S k l).length<=l.length:=by
 unfold aftG
 have:∀(l out:List Nat),(ziL S k l out).length<=out.length+l.length:=λl=>by
  induction l with
  |nil=>intro out;exact WG _
  |cons y l ih=>
   intro out;unfold ziL;split
   .have:=ih (out++[y]);rw[Wr,WZ]at this;rw[Wn];omega
   .have:=ih out;rw[Wn];omega
 have h:=this l [];rw[WH]at h;omega
theorem zqz{S:Shp}{k:Nat}{l:List Nat}:(resG S k l).length<=l.length:=Wl _ _
theorem zvm{S:Shp}{k:Nat}(h:S.head k=true):beyL S k=aftG S k (S.kids k):=by unfold beyL;rw[if_pos h];rfl
theorem zAb{S:Shp}{k:Nat}(h:S.head k=true):znA S k=resG S k (S.kids k):=by unfold znA resG;rw[zvm h]
theorem zIZ{S:Shp}{k:Nat}(h:S.head k=false):beyL S k=[]:=by unfold beyL;rw[h];rfl
theorem zGL{S:Shp}{k:Nat}(h:S.head k=false):znA S k=S.kids k:=by unfold znA;rw[zIZ h,List.filter_eq_self];simp
def plG(S:Shp)(l:List Nat):List Nat:=l.filter λx=>decide (S.cnt x≠1)
def inG(S:Shp)(l:List Nat):List Nat:=l.filter λx=>decide (S.cnt x=1)
theorem zte{S:Shp}{k:Nat}:zR S k=plG S (znA S k):=rfl
theorem zB4{S:Shp}{k:Nat}:inlL S k=inG S (znA S k):=rfl
theorem zFd{S:Shp}{l:List Nat}{i:Nat}(h:i<l.length):plG S (l.take (i+1))=plG S (l.take i)++if S.cnt l[i]=1 then[]else[l[i]]:=by unfold plG;rw[Dm.filter_take_succ h];by_cases b:S.cnt l[i]=1<;>simp[b]
theorem zGU{S:Shp}{l:List Nat}{i:Nat}(h:i<l.length):inG S (l.take (i+1))=inG S (l.take i)++if S.cnt l[i]=1 then[l[i]]else[]:=by unfold inG;rw[Dm.filter_take_succ h];by_cases b:S.cnt l[i]=1<;>simp[b]
theorem zt6{S:Shp}{l:List Nat}:(plG S l).length<=l.length:=Wl _ _
theorem zD4{S:Shp}{l:List Nat}:(inG S l).length<=l.length:=Wl _ _
theorem zxe{code:Nat->Ctx->Nd}{c:Ctx}{l:List Nat}{i:Nat}(h:i<l.length):zbe code c (l.drop i)=code l[i] (zaM (l.drop (i+1)) c)::zbe code c (l.drop (i+1)):=by rw[W3 h,zbe]
theorem zms{code:Nat->Ctx->Nd}{c:Ctx}:∀{l:List Nat},(zbe code c l).length=l.length
 |[]=>rfl
 |k::l=>by rw[zbe,Wn,zms,Wn]
theorem zCP{l:List Nat}{c:Ctx}{i:Nat}(h:i<l.length):zaM (l.drop i) c=⟨l[i],c.h,c.x⟩:=by rw[W3 h];rfl
theorem zAV{l:List Nat}{c:Ctx}{i:Nat}(h:l.length<=i):zaM (l.drop i) c=c:=by rw[List.drop_of_length_le h];rfl
end Go.Ab
