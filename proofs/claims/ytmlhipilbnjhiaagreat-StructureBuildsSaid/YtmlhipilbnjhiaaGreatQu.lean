/-
  Part 21 of the proof: how the calls of this program run, over values instead of memory, and what each function computes.
-/
import Derived.Test.YtmlhipilbnjhiaaGreatQt
set_option maxRecDepth 100000
set_option linter.unusedVariables false
set_option linter.unusedSimpArgs false
set_option linter.unnecessarySimpa false
set_option linter.unusedSectionVars false
open Classical renaming not_not->Xa,byContradiction->Xb,propDecidable->Xc,not_forall->Xd,axiomOfChoice->Xe
open List renaming getD_eq_getElem?_getD→Wa,mem_append→Wc,mem_append_left→Wd,mem_range→We,mem_singleton→Wf,mem_filter→Wg,range→Wh,getElem?_eq_getElem→Wi,length_filter_le→Wj,mem_map→Wk,length_cons→Wl,append_nil→Wn,mem_flatMap→Wo,map_cons→Wp,length_nil→Wq,map_congr_left→Ws,getElem?_append_left→Wt,sum_cons→Wv,filter_cons_of_neg→Ww,filter_cons_of_pos→Wx,length_append→Wy,flatMap_append→Wz,count_pos_iff→WA,mem_cons→WC,mem_append_right→WD,take_succ_eq_append_getElem→WE,ne_nil_of_mem→WF,getElem_mem→WG,take_add_one→WH,take_of_length_le→WI,filter_congr→WJ,getLast?_eq_getElem?→WK,getElem?_append_right→WL,replicate_succ'→WM,pairwise_map→WN,getElem?_map→WO,mem_iff_getElem→WP,length_singleton→WQ,any_eq_true→WR,filter_append→WS,drop_eq_getElem_cons→WU
open Nat renaming zero_le→Wm,add_sub_cancel→Wu,le_refl→WB
open Bool renaming and_eq_true→Wr
namespace Go.Ab
open Go.RowKit Go.Proofs
section
variable {st:List PSt}{L:LabE}
def zKP(n:Nd):Prop:=∀y∈allN n,zKl y.f.kind=true->y.l.length=1
end
mutual
def zgg(K:Int->Bool):Nd->Nd
 |.mk f c l=>.mk f c (zeB K l)
def zeB(K:Int->Bool):List Nd->List Nd
 |[]=>[]
 |x::l=>if x.f.kind=10/\K x.f.label=false then zeB K l else zgg K x::zeB K l
end
def addB(l:List (Int×List Int))(b:List Int):List (Int×List Int):=match l.getLast? with
 |some x=>l.dropLast++[(x.1,x.2++b)]
 |none=>l
def zLn(l:List (Int×Int)):List Int:=l.map Prod.fst
def RgN(a b:Nat)(k:Int):Prop:=(a:Int)<=k/\k<(b:Int)
structure InvP(p:PC):Prop where
 got:∀e∈p.got,RgN 0 p.st.length e.1
 brk:∀k∈brkL p.lp,RgN 0 p.st.length k
def DisP(p q:PC):Prop:=∀b c,q.lp=addB p.lp b->q.got=p.got++c->p.lp≠[]->∀k∈b,k∉zLn c
structure ExtP(ls:List Int)(p q:PC):Prop where
 len:p.st.length<=q.st.length
 pre:∀k,k<p.st.length->q.st[k]?=p.st[k]?
 lp:∃bs,q.lp=addB p.lp bs/\∀k∈bs,RgN p.st.length q.st.length k
 got:∃gs,q.got=p.got++gs/\∀e∈gs,RgN p.st.length q.st.length e.1
 lab:∃vs,q.lab=p.lab++vs/\zLn vs=ls
 dis:DisP p q
structure ExtB(ls:List Int)(at':Nat)(p q:PC)(es xs:List Int):Prop where
 len:p.st.length<=q.st.length
 pre:∀k,k<p.st.length->k≠at'->q.st[k]?=p.st[k]?
 dec:q.st[at']?=(p.st[at']?).map λs=>{ s with to:=s.to.map λl=>l++xs }
 ends:∀k∈es,RgN p.st.length q.st.length k
 lp:∃bs,q.lp=addB p.lp bs/\∀k∈bs,RgN p.st.length q.st.length k
 got:∃gs,q.got=p.got++gs/\∀e∈gs,RgN p.st.length q.st.length e.1
 lab:∃vs,q.lab=p.lab++vs/\zLn vs=ls
 dis:DisP p q
structure Fut(q F:PC):Prop where
 got:∃r,F.got=q.got++r/\∀e∈r,(q.st.length:Int)<=e.1
 lab:∃r,F.lab=q.lab++r
def LikeL(a b:List Nd):Prop:=∀y∈b,(y.f=⟨1,0,0⟩/\y.cond=[])\/∃c∈a,y.f=c.f/\y.cond=c.cond/\(c.f.kind≠1->y.l.length=c.l.length)
abbrev LikeN(n m:Nd):Prop:=LikeL (allN n) (allN m)
def inner(k:Int):Prop:=k=1\/k=3\/k=4\/k=5\/k=6
def LeafOk(n:Nd):Prop:=∀y∈allN n,¬inner y.f.kind->y.l=[]
section
variable {S:Shp}{R:List Nat}{T:Nat->Option Nat}{st:List PSt}{L:LabE}
structure RunG(st:List PSt)(S:Shp)(R:List Nat):Prop where
 run:∀x∈R,Run st S x
 one:∀x∈R,∀p p',Vst st p x->Vst st p' x->p=p'
 tg:∀x∈R,∀t∈tgS (S.last x),∃u∈R,t=(u:Nat)
 ne:∀x∈R,(S.last x).op=8->(S.last x).cases≠[]
end
section
variable {S:Shp}{R:List Nat}{T:Nat->Option Nat}
def c0:Ctx:=⟨-1,-1,-1⟩
end
section
variable {S:Shp}{R:List Nat}{T:Nat->Option Nat}
def bldN(S:Shp)(n:Nat):Nd:=zex S n 0 c0
def zK9(N:Nd)(x:Int):Bool:=decide (x∈coll zpB N)
def bld(S:Shp)(n:Nat):Nd:=zgg (zK9 (bldN S n)) (bldN S n)
theorem zDb(D:Tr S R T)(P:Top R T){n:Nat}(b:R.length<=n){y:Nd}(h:y∈allN (bldN S n)):∃x∈R,EmP S x y:=zuN D n 0 c0 P.zero (by rw[P.first];omega) h
structure BldOk(S:Shp)(n:Nat)(e:Nd):Prop where
 like:LikeN (bldN S n) e
 leaf:LeafOk e
 loop:zKP e
 labs:(coll labP e).Nodup
 lab:∀x,x∈coll labP e↔x∈coll zpB (bldN S n)
 goto_:coll zpB e=coll zpB (bldN S n)
 blk:coll blkP e=coll blkP (bldN S n)
 stray:zJp e false=false
end
end Go.Ab
namespace Go.Ab.Dm
open Go.RowKit Go.Proofs
theorem zkp(g:Gr)(b:g.small):zn Tryz.prog za8 [.agg g.cells] (·=za (treeL g.E)):=by
 refine fn_x zqv rfl ?_;refine dcU zkU.eq_1 ?_;have m:=hBig;have c:=g.E_len;have o:=b.1;refine Gw1 @ug ?_;intros;(refine zf (λh=>?_) (λh=>?_))<;>(try simp only[dcd]at h)
 ·(refine Gw1 @zgw.eq_1 ?_;intros);refine⟨_,?_,rfl⟩;have:treeL g.E=[]:=by unfold treeL;rw[show g.E.length=0 by omega];rfl
  rw[this];exact zbz (l:=[]) trivial rfl (Wm _)
 ·(refine Gw1 @um ?_;intros);refine ze (zc (zhx g b) rfl) ?_;refine Gw0 ?_;intros;refine zbL [] 0 _ (zqr g.E (Gr.E_small b) g.E_ok 0 (by omega)) rfl rfl (Gin4_1 @ue) (Gin4_1 @ue) ?_;rintro v k j ⟨T,d,rfl,rfl,rfl⟩;refine Gw1 @zgw.eq_1 ?_;intros;refine⟨_,?_,rfl⟩;rw[<-treeL_eq g.E_ok (by omega) d];have e:=zgP (n:=g.E.length) (T:=T);have:=zbz (H:=[(0,.row 1 [] 0),(1,.row 1 ((outI g.E.length T).map cI) 0)]) (H2:=[]) (σ:=nos) (D:=allR) (t:=false) (r:=1) (q:=0) (g:=0) (l:=outI g.E.length T) trivial rfl (by omega)
  rwa [e]at this
theorem zxW{E}(c:E.ok):inB E.length (orderL E)=zlY E:=by
 unfold inB zlY mapR;refine Ws λb h=>?_
 have j:=We.1 h;have d:0<E.length:=by omega
 have e:orderL E=ordL E 0:=by unfold orderL ordL;rw[if_neg (by omega)]
 have g:b∈zb8 E 0 (-1)↔RA E (λ_=>False) 0 b:=zw2 c d;rw[e];exact decide_eq_decide.2 ((mem_ordL c d).trans g.symm)
theorem zEm{E}(c:E.ok):NdL E.length (orderL E):=by
 by_cases d:0<E.length
 .have b:orderL E=ordL E 0:=by unfold orderL ordL;rw[if_neg (by omega)]
  rw[b];exact⟨(rpo c d).nd,(rpo c d).lt⟩
 .have b:orderL E=[]:=by unfold orderL;rw[if_pos (by omega)]
  rw[b];exact⟨by simp,by simp⟩
theorem zgj(g:Gr)(k:g.small):zn Tryz.prog zbw [.agg g.cells] (·=zcL (zlY g.E)):=by
 refine fn_x zmc rfl ?_;refine dcU zga.eq_1 ?_;have o:=hBig;have c:=g.E_len;have u:=k.1;rw[<-zxW g.E_ok];have b:=zEm g.E_ok;refine Gw2 @ug @um ?_;intros;refine ze (zc (zfr g k) rfl) ?_;generalize orderL g.E=l at b⊢;generalize g.E.length=n at c b⊢;subst c;have m:=b.len;refine Gw1 @ub ?_;intros;refine zd (λi:Nat=>([(3,.own 0 0 0 0 g.blocks.length),(11,zb l),(12,.int .i64 l.length),(13,.int .i64 i)],[(0,.row 1 ((inB g.blocks.length (l.take i)).map cB) 0)])) 1 (λi=>i<=l.length) (λi=>l.length-i) 0 (Wm _) (Ent.tab [(0,1,0)] [] rfl (Gin4_1 @zwh) (Gin4_1 @zwh)) ?_;intro i p wf;refine dcU zeM.eq_1 ?_;refine Gw1 @ub ?_;intros;(refine zf (λh=>?_) (λh=>?_))<;>(try simp only[dcd]at h)
 .have d:i<l.length:=by omega
  have s:=b.lt _ (WG d);have j:l.take (i+1)=l.take i++[l[i]]:=by rw[WH,Wi d];rfl
  refine Gw3 (gmp d) @zvy @zEu ?_;intros;exact⟨i+1,by omega,by omega,(Ent.tab [(0,0,0)] [] rfl (Gin4_1 j) (Gin4_1 j))⟩
 .unfold zeW;refine Gw1 @zgn.eq_1 ?_;intros;refine⟨_,?_,rfl⟩;rw[WI (by omega)];have e:=zvy (n:=g.blocks.length) (l:=l);have:=zqc (H:=[(0,.row 1 ((inB g.blocks.length l).map cB) 0)]) (H2:=[]) (σ:=nos) (D:=allR) (t:=false) (r:=0) (q:=0) (g:=0) (l:=inB g.blocks.length l) trivial rfl (by omega)
  rwa [e]at this
theorem zmd(t:List Int)(a b:Int)(I:t.length<=1000):zn Tryz.prog zcD [za t,.int .i64 a,.int .i64 b] (·=.bool (domL t a b)):=by
 refine fn_x zme rfl ?_;refine dcU zgc.eq_1 ?_;have H:=hBig
 have out:∀c m,¬(0<=c/\c<(t.length:Int))->znM t a m c=false:=by
  intro c m h
  cases m with
  |zero=>rfl
  |succ m=>simp only[znM];rw[if_neg h]
 unfold domL;refine Gw1 @ud ?_;intros;generalize w:decide (a<0)=o;cases o<;>simp only[decide_eq_true_eq,decide_eq_false_iff_not,ne_eq,Xa]at w
 rotate_left
 ·(refine Gw1 @z7.eq_1 ?_;intros);rw[if_pos (.inl w)];exact bzO
 refine Gw0 ?_;intros;generalize x:decide (a >= t.length)=p;cases p<;>simp only[decide_eq_true_eq,decide_eq_false_iff_not,ne_eq,Xa]at x
 rotate_left
 ·(refine Gw1 @z7.eq_1 ?_;intros);rw[if_pos (.inr x)];exact bzO
 rw[if_neg (by omega)];refine Gw0 ?_;intros;generalize B:decide (b<0)=q;cases q<;>simp only[decide_eq_true_eq,decide_eq_false_iff_not,ne_eq,Xa]at B
 rotate_left
 ·(refine Gw1 @z7.eq_1 ?_;intros);rw[out b _ (by omega)];exact bzO
 refine Gw0 ?_;intros;(refine zf (λy=>?_) (λy=>?_))<;>(try simp only[dcd]at y)
 ·(refine Gw1 @z7.eq_1 ?_;intros);rw[out b _ (by omega)];exact bzO
 refine Gw0 ?_;intros;refine zd (λs:Nat×Int=>([(0,za t),(1,.int .i64 a),(2,.int .i64 s.2),(27,.int .i64 ((t.length:Int)+1)),(28,.int .i64 s.1)],[])) 0 (λs=>s.1<=t.length+1/\0<=s.2/\s.2<t.length/\znM t a (t.length+1-s.1) s.2=znM t a (t.length+1) b) (λs=>t.length+1-s.1) (0,b) ⟨Wm _,by simp only;omega,by simp only;omega,rfl⟩ (Ent.keep rfl fin5) ?_;rintro⟨i,c⟩ ⟨D,v,g,k⟩ wf;simp only at D v g k;rw[<-k];refine dcU zeE.eq_1 ?_;refine Gw0 ?_;intros;(refine zf (λz=>?_) (λz=>?_))<;>(try simp only[dcd]at z)
 .obtain⟨m,F⟩:∃m,t.length+1-i=m+1:=⟨t.length-i,by omega⟩;have j:c.toNat<t.length:=by omega
  have e:znM t a (t.length+1-i) c=if a=c then true else znM t a m (t[c.toNat]):=by rw[F];simp only[znM];rw[if_pos ⟨by omega,g⟩,Wa,Wi j,Option.getD_some]
  refine Gw0 ?_;intros;(refine zf (λn=>?_) (λn=>?_))<;>(try simp only[dcd]at n)
  ·(refine Gw1 @z7.eq_1 ?_;intros);rw[e,if_pos n];exact bzO
  .rw[if_neg n]at e;refine Gw2 @ud (gmp j) ?_;intros;generalize t[c.toNat]=d at e⊢;generalize C:decide (d<0)=u;cases u<;>simp only[decide_eq_true_eq,decide_eq_false_iff_not,ne_eq,Xa]at C
   ·(refine Gw0 ?_;intros);(refine zf (λA=>?_) (λA=>?_))<;>(try simp only[dcd]at A)
    ·(refine Gw1 @z7.eq_1 ?_;intros);rw[e,out d m (by omega)];exact bzO
    ·(refine Gw0 ?_;intros);refine⟨(i+1,d),⟨by simp only;omega,by simp only;omega,by simp only;omega,?_⟩,by simp only;omega,Ent.keep rfl fin5⟩;simp only;rw[e,show t.length+1-(i+1)=m by omega]
   ·(refine Gw1 @z7.eq_1 ?_;intros);rw[e,out d m (by omega)];exact bzO
 .unfold zeS;refine Gw1 @z7.eq_1 ?_;intros;rw[show t.length+1-i=0 by omega];exact bzO
theorem zcB(l)(x:Nat):zn Tryz.prog zX [zb l,.int .i64 x] (·=.bool (decide (x∈l))):=by
 have d:zn Tryz.prog zcp [zb l,.int .i64 x] (λv=>∃r:Int,v=.int .i64 r /\ -1<=r/\(0<=r↔x∈l)):=by
  refine fn_x zk2 rfl ?_;refine dcU zfZ.eq_1 ?_;have j:=hBig;refine Gw1 @ub ?_;intros;refine zd (λi:Nat=>([(0,zb l),(1,.int .i64 x),(7,.int .i64 l.length),(8,.int .i64 i)],[])) 0 (λi=>i<=l.length/\x∉l.take i) (λi=>l.length-i) 0 ⟨Wm _,by simp⟩ (Ent.keep rfl fin5) ?_;intro i ⟨k,c⟩ wf;refine dcU zep.eq_1 ?_;refine Gw1 @ub ?_;intros;(refine zf (λh=>?_) (λh=>?_))<;>(try simp only[dcd]at h)
  .have b:i<l.length:=by omega
   refine Gw1 (gmp b) ?_;intros;(refine zf (λe=>?_) (λe=>?_))<;>(try simp only[dcd]at e)
   ·(refine Gw1 @zdc.eq_1 ?_;intros);refine⟨_,.int _ _ _,i,rfl,by omega,λ_=>?_,λ_=>by omega⟩;rw[show x=l[i] by omega];exact WG b
   ·(refine Gw0 ?_;intros);refine⟨i+1,⟨by omega,?_⟩,by omega,Ent.keep rfl fin5⟩;rw[WH,Wi b];simp only[Wc,not_or,Option.toList,Wf];exact⟨c,by omega⟩
  .unfold zeh;refine Gw1 @zdc.eq_1 ?_;intros;rw[WI (by omega)]at c;exact⟨_,.int _ _ _,-1,rfl,by omega,λh=>by omega,λh=>absurd h c⟩
 refine fn_x zjc rfl ?_;refine dcU zei.eq_1 ?_;refine Gw0 ?_;intros;refine zmV (D:=noR) d (.cons (.sl _ _ _ _) (.cons (.int _ _ _) .nil)) (λ_ _=>.inr λ_ _ h=>h) ?_;rintro v ⟨r,rfl,g,e⟩;refine Gw1 @zeq.eq_1 ?_;intros;refine⟨_,.bool _ _,?_⟩;have:decide (r >= 0)=decide (x∈l):=decide_eq_decide.2 e;rw[this]
end Go.Ab.Dm
namespace Go.Ab.Dm
theorem RA.nx{E}{X}{a b}(h:RA E X a b):¬X b:=by
 cases h with
 |refl h=>exact h
 |step _ _ h=>exact h
end Go.Ab.Dm
namespace Go.Ab.Dm
open Go.RowKit Go.Proofs
theorem ztb{l:List Nat}{x:Nat}:keepL (l++[x]) l.length=keepL l l.length:=by
 unfold keepL;have h:∀j,j<l.length->(l++[x]).getD j 0=l.getD j 0:=λj b=>by rw[Wa,Wa,Wt b]
 have d:filR (zkF (l++[x])) l.length=filR (zkF l) l.length:=by
  unfold filR;refine WJ λj b=>?_
  have c:=We.1 b;unfold zkF;rw[h j c,h (j-1) (by omega)]
 rw[d];refine Ws λj b=>h j ?_
 exact We.1 (Wg.1 b).1
theorem zxl{l:List Nat}{x:Nat}(h:l.getLast? ≠ some x):zaB (l++[x])=zaB l++[x]:=by
 unfold zaB;have k:(l++[x]).length=l.length+1:=by simp
 have j:zkF (l++[x]) l.length=true:=by
  unfold zkF
  cases c:l.length with
  |zero=>rfl
  |succ m=>
   rw[WK,c]at h;have d:(l++[x]).getD (m+1) 0=x:=by rw[Wa,WL (by omega),c,Nat.sub_self];rfl
   have b:m<l.length:=by omega
   have g:(l++[x]).getD (m+1-1) 0=l[m]:=by rw[Wu,Wa,Wt b,Wi b];rfl
   rw[d,g];rw[Wu,Wi b]at h;have:x≠l[m]:=λe=>h (by rw[e])
   simp[this]
 rw[k,ztn (by omega) j,ztb];simp
theorem zxC{l:List Nat}{x:Nat}(h:l.getLast?=some x):zaB (l++[x])=zaB l:=by
 unfold zaB;have j:(l++[x]).length=l.length+1:=by simp
 have g:zkF (l++[x]) l.length=false:=by
  unfold zkF
  cases c:l.length with
  |zero=>rw[List.eq_nil_of_length_eq_zero c]at h;cases h
  |succ m=>
   rw[WK,c]at h;have d:(l++[x]).getD (m+1) 0=x:=by rw[Wa,WL (by omega),c,Nat.sub_self];rfl
   have b:m<l.length:=by omega
   have e:(l++[x]).getD (m+1-1) 0=l[m]:=by rw[Wu,Wa,Wt b,Wi b];rfl
   rw[d,e];rw[Wu,Wi b]at h;have:x=l[m]:=(Option.some.inj h).symm;simp[this]
 rw[j,zwG g,ztb]
theorem zrl{l:List Nat}{x:Nat}(h:x∉l):∀c,zaB (l++List.replicate c x)=zaB l++if c=0 then[]else[x]
 |0=>by simp
 |
  c+1=>by
  rw[WM,<-List.append_assoc]
  cases c with
  |zero=>rw[List.replicate_zero,Wn,zxl (λb=>h (List.mem_of_getLast? b))];rfl
  |succ c=>rw[zxC (by rw[List.getLast?_append];simp[WM]),zrl h (c+1)];rfl
theorem ztH{A:Adj}{b:Nat}:∀k,zaB (tLL A k b)=filR (λa=>decide (b∈suc A a)) k
 |0=>rfl
 |
  k+1=>by
  have d:tLL A (k+1) b=tLL A k b++List.replicate ((suc A k).count b) k:=by unfold tLL;rw[List.range_succ,Wz];simp
  have e:k∉tLL A k b:=by unfold tLL;rw[Wo];rintro⟨a,c,g⟩;have h:=We.1 c;have j:=List.eq_of_mem_replicate g;omega
  rw[d,zrl e,ztH k];by_cases c:b∈suc A k
  .have:=WA.2 c;rw[if_neg (by omega),filR_pos (decide_eq_true c)]
  .rw[if_pos (List.count_eq_zero.2 c),filR_neg (decide_eq_false c),Wn]
theorem zv3(E:Adj):((Wh E.length).map λi=>zaB (tLL E E.length i))=predL E:=by
 unfold predL;refine Ws λb _=>?_
 rw[ztH];rfl
theorem mem_predL{E:Adj}{a b:Nat}(c:b<E.length):a∈suc (predL E) b↔a<E.length/\b∈suc E a:=by simp[suc,predL,Wa,c]
theorem Ch.anti{r:Nat}{l:List Nat}{T:Nat->Option Nat}(w:WT r l T)(c:r∈l){a b:Nat}(h:a∈l)(j:b∈l)(d:Ch T a b)(e:Ch T b a):a=b:=by obtain⟨_,k,g⟩:=w.mem c h d;obtain⟨_,m,_⟩:=w.mem c j e;exact(g (by omega)).symm
structure FrP(E:Adj)(T:Nat->Option Nat)(w j:Nat)(S:Nat->Bool):Prop where
 sub:∀x,S x=true->zFz E x w=true
 all:∀i p,i<j->(suc (predL E) w)[i]?=some p->p∈ordL E 0->∀x,Ch T p x->zFz E x w=true->S x=true
structure FrB(E:Adj)(T:Nat->Option Nat)(w j p:Nat)(b:Option Nat)(S:Nat->Bool):Prop extends FrP E T w j S where
 at_:(suc (predL E) w)[j]?=some p
 pl:p∈ordL E 0
 here:∀c,b=some c->Ch T p c
 rest:∀x,Ch T p x->zFz E x w=true->S x=true\/∃c,b=some c/\Ch T c x
section
variable {E:Adj}{T:Nat->Option Nat}{w j p:Nat}{S:Nat->Bool} (hE:E.ok) (hn:0<E.length) (D:DTree' E 0 (ordL E 0) T) (hw:w<E.length)
include hE hn
theorem z_mem:(0:Nat)∈ordL E 0:=(mem_ordL hE hn).2 (.refl (by simp))
include D
include hw
end
theorem zJv{P:Nat->Prop}{m:Nat->Nat}{B:Nat}(g:∀c,P c->m c<B):∀(d c:Nat),P c->B-m c<=d->∃c,P c/\∀x,P x->m x<=m c
 |0,c,b,h=>by have:=g c b;omega
 |
  d+1,c,b,h=>by
  by_cases e:∀x,P x->m x<=m c
  .exact⟨c,b,e⟩
  .simp only[Xd]at e;obtain⟨x,j,k⟩:=e;exact zJv g d x j (by have:=g c b;omega)
theorem zJI{A:Adj}{r x c k:Nat}(d:x≠c)(h:RA A (λ_=>False) r k):RA A (λy=>y=x\/y=c) r k\/RA A (·=x) c k\/RA A (·=c) x k:=by
 induction h with
 |refl _=>
  by_cases j:r=x
  .subst j;exact .inr (.inr (.refl d))
  .by_cases m:r=c
   .subst m;exact .inr (.inl (.refl (λe=>d e.symm)))
   .exact .inl (.refl (by rintro(h|h);exact j h;exact m h))
 |@step b k' _ h3 _ g=>
  by_cases j:k'=x
  .subst j;exact .inr (.inr (.refl d))
  .by_cases m:k'=c
   .subst m;exact .inr (.inl (.refl (λe=>d e.symm)))
   .rcases g with g|g|g
    .exact .inl (g.step h3 (by rintro(h|h);exact j h;exact m h))
    .exact .inr (.inl (g.step h3 j))
    .exact .inr (.inr (g.step h3 m))
theorem zID{A:Adj}{r x c k:Nat}(o:RA A (λ_=>False) r k)(g:Dm A r x k)(m:Dm A r c k):Dm A r x c\/Dm A r c x:=by
 by_cases b:x=c
 .subst b;exact .inl (Dm.refl _)
 .by_cases j:Dm A r x c
  .exact .inl j
  .refine .inr λn=>?_
   have d:RA A (·=x) r c:=Classical.not_not.1 j;rcases zJI b o with h|h|h
   .exact g (mono_RA (λ_ e=>.inl e) h)
   .exact g (d.trans h)
   .exact m (n.trans h)
theorem zHL{A:Adj}{r x c k:Nat}(p:Dm A r x c)(o:Dm A r c k)(q:RA A (λ_=>False) r k):Dm A r x k:=by
 intro h;by_cases n:x=c
 .subst n;exact o h
 .have key:∀{b},RA A (·=x) r b->RA A (·=c) r b\/RA A (·=x) r c:=by
   intro b m
   induction m with
   |refl h=>
    by_cases g:r=c
    .subst g;exact .inr (.refl h)
    .exact .inl (.refl g)
   |@step b k' m d h4 j=>
    rcases j with j|j
    .by_cases e:k'=c
     .subst e;exact .inr (m.step d h4)
     .exact .inl (j.step d e)
    .exact .inr j
  rcases key h with d|d
  .exact o d
  .exact p d
theorem dtree_ex{E:Adj}(N:E.ok)(R:0<E.length):∃T,DTree' E 0 (ordL E 0) T:=by
 obtain⟨f,L⟩:=(rpo N R).lay;have Q:∀x,x∈ordL E 0↔RA E (λ_=>False) 0 x:=λx=>mem_ordL N R
 have D:Lay E 0 (ordL E 0) f:=L;generalize ordL E 0=l at *
 have early:∀(n k x:Nat),k∈l->l.idxOf k<=n->l.idxOf k<l.idxOf x->RA E (·=x) 0 k:=by
  intro n
  induction n with
  |zero=>
   intro k x d g m;have:k=0:=Xb λh=>by have:=D.pos d h;omega
   subst this;exact .refl (λe=>by subst e;omega)
  |succ n A=>
   intro k x d g m;by_cases p:k=0
   .subst p;exact .refl (λe=>by subst e;omega)
   .obtain⟨y,w,C⟩:=D.fm k d p;exact(A (f k) x y (by omega) (by omega)).step w (λe=>by subst e;omega)
 have t:∀{x k},x∈l->k∈l->Dm E 0 x k->x≠k->l.idxOf x<l.idxOf k:=by
  intro x k v d hd K;rcases Nat.lt_trichotomy (l.idxOf x) (l.idxOf k)with h|h|h
  .exact h
  .exact absurd (D.inj v d h) K
  .exact absurd (early _ k x d (WB _) h) hd
 have z:∀k,Dm E 0 0 k:=λk h=>by
  have:∀{b},RA E (·=0) 0 b->False:=by
   intro b V
   induction V with
   |refl h=>exact h rfl
   |step _ _ _ A=>exact A
  exact this h
 have J:∀k,k∈l/\k≠0->∃c,(c∈l/\c≠k/\Dm E 0 c k)/\∀x,(x∈l/\x≠k/\Dm E 0 x k)->l.idxOf x<=l.idxOf c:=λk d=>
  zJv (B:=l.length) (λc W=>zkB W.1) l.length 0 ⟨D.root,λe=>d.2 e.symm,z k⟩ (by omega)
 obtain⟨T,F,s⟩:∃T:Nat->Option Nat,(∀k,¬(k∈l/\k≠0)->T k=none)/\∀k,k∈l/\k≠0->∃c,T k=some c/\(c∈l/\c≠k/\Dm E 0 c k)/\∀x,(x∈l/\x≠k/\Dm E 0 x k)->l.idxOf x<=l.idxOf c:=by
  have:∀k,∃o:Option Nat,(¬(k∈l/\k≠0)->o=none)/\(k∈l/\k≠0->∃c,o=some c/\(c∈l/\c≠k/\Dm E 0 c k)/\∀x,(x∈l/\x≠k/\Dm E 0 x k)->l.idxOf x<=l.idxOf c):=by
   intro k;by_cases d:k∈l/\k≠0
   .obtain⟨c,g,m⟩:=J k d;exact⟨some c,λh=>absurd d h,λ_=>⟨c,rfl,g,m⟩⟩
   .exact⟨none,λ_=>rfl,λh=>absurd h d⟩
  obtain⟨T,O⟩:=Xe this;exact⟨T,λk=>(O k).1,λk=>(O k).2⟩
 have u:∀k c,T k=some c->k∈l/\k≠0:=λk c h=>Xb λm=>by rw[F k m]at h;cases h
 refine⟨T,⟨F 0 (λh=>h.2 rfl),λk j h=>?_⟩,λk d p h=>?_,λk d x v=>⟨λh=>?_,λh=>?_⟩⟩
 .have d:=u k j h;obtain⟨c,g,⟨m,y,w⟩,_⟩:=s k d;rw[h]at g;cases g;refine⟨d.1,m,t m d.1 w y,?_⟩;by_cases P:j=0
  .exact .inl P
  .obtain⟨X,C,_⟩:=s j ⟨m,P⟩;exact .inr (by rw[C];simp)
 .obtain⟨c,g,_⟩:=s k ⟨d,p⟩;rw[h]at g;cases g
 .have:∀{k x},Ch T k x->k∈l->Dm E 0 x k:=by
   intro k x h
   induction h with
   |refl=>intro _;exact Dm.refl _
   |up g _ A=>intro d;obtain⟨c,m,⟨y,w,C⟩,_⟩:=s _ (u _ _ g);rw[g]at m;cases m;exact zHL (A y) C ((Q _).1 d)
  exact this h d
 .have:∀(n k:Nat),k∈l->l.idxOf k<=n->∀x,x∈l->Dm E 0 x k->Ch T k x:=by
   intro n
   induction n with
   |zero=>
    intro k d g x v hd;by_cases q:x=k
    .subst q;exact .refl _
    .have:=t v d hd q;omega
   |succ n A=>
    intro k d g x v hd;by_cases q:x=k
    .subst q;exact .refl _
    .have m:=t v d hd q;have p:k≠0:=λe=>by subst e;have:=D.pl0;omega
     obtain⟨c,y,⟨w,C,M⟩,h7⟩:=s k ⟨d,p⟩;have Y:=t w d M C;refine .up y (A c w (by omega) x v ?_);rcases zID ((Q k).1 d) hd M with I|I
     .exact I
     .by_cases H:x=c
      .subst H;exact Dm.refl _
      .have S:=t w v I (λe=>H e.symm);have U:=h7 x ⟨v,q,hd⟩;omega
  exact this _ k d (WB _) x v h
end Go.Ab.Dm
namespace Go.Ab
open Go.RowKit Go.Proofs
structure EdgeOk(E:Dm.Adj)(last:Nat->St):Prop where
 ok:E.ok
 pos:0<E.length
 tg:∀k,k<E.length->tgS (last k)=(Dm.suc E k).map λ(t:Nat)=>(t:Int)
def ordE(E:Dm.Adj):List Nat:=Dm.ordL E 0
def zaQ(E:Dm.Adj)(b:Nat):List Nat:=(ordE E).filter λk=>decide ((Dm.treeL E).getD k (-1)=(b:Int))
def cntE(E:Dm.Adj)(t:Nat):Nat:=((ordE E).map λk=>(Dm.suc E k).count t).sum
def zhz(E:Dm.Adj)(b:Nat):Bool:=(ordE E).any λp=>decide (b∈Dm.suc E p)&&Dm.domL (Dm.treeL E) b p
def zgi(E:Dm.Adj)(b x:Nat):Prop:=x=b\/∃p∈ordE E,b∈Dm.suc E p/\Dm.domL (Dm.treeL E) b p=true/\x∈ordE E/\Dm.RA E (·=b) x p
open Classical in
noncomputable def shpE(E:Dm.Adj)(last:Nat->St)(one:Nat->Bool):Shp:=⟨zaQ E,cntE E,zhz E,λb x=>decide (zgi E b x),last,one⟩
theorem zvt{g:Nat->Nat}:∀{l:List Nat}{a b:Nat},a∈l->b∈l->a≠b->0<g a->0<g b->2<=(l.map g).sum
 |
  x::l,a,b,m,k,hne,h1,h2=>by
  rw[Wp,Wv];rcases WC.1 m with h|d
  .rcases WC.1 k with e|c
   .exact absurd (h.trans e.symm) hne
   .have j:g b<=(l.map g).sum:=ztq g c;rw[<-h];omega
  .rcases WC.1 k with e|c
   .have j:g a<=(l.map g).sum:=ztq g d;rw[<-e];omega
   .have j:2<=(l.map g).sum:=zvt d c hne h1 h2;omega
section
variable {E:Dm.Adj}{last:Nat->St}{one:Nat->Bool} (h:EdgeOk E last)
include h
theorem zln{x:Nat}:x∈ordE E↔Dm.RA E (λ_=>False) 0 x:=Dm.mem_ordL h.ok h.pos
theorem zaT{x:Nat}(b:x∈ordE E):x<E.length:=(Dm.rpo h.ok h.pos).lt x b
theorem zt4{k t:Nat}(b:k∈ordE E)(c:t∈Dm.suc E k):t∈ordE E:=(zln h).2 (((zln h).1 b).step c id)
theorem zsf{T:Nat->Option Nat}(D:Dm.DTree' E 0 (ordE E) T){k:Nat}(b:k<E.length):(Dm.treeL E).getD k (-1)=Dm.tI (T k):=by rw[<-Dm.treeL_eq h.ok h.pos D];simp[Dm.outI,Wa,b]
theorem zt6{o:Option Nat}{b:Nat}:Dm.tI o=(b:Int)↔o=some b:=by
 cases o with
 |none=>exact⟨λe=>by simp only[Dm.tI]at e;omega,λe=>by cases e⟩
 |some a=>simp only[Dm.tI,Option.some.injEq];exact⟨λe=>Int.ofNat.inj e,λe=>by rw[e]⟩
omit h in
theorem zu1(t:Nat):∀l:List Nat,(l.map λ(x:Nat)=>(x:Int)).count (t:Int)=l.count t
 |[]=>rfl
 |
  a::l=>by
  rw[Wp,List.count_cons,List.count_cons,zu1 t l];by_cases e:a=t
  .simp[e]
  .have b:¬((a:Int)=(t:Int)):=by omega
   simp[e,b]
omit h in
theorem zJh{X:Nat->Prop}{a b:Nat}(g:Dm.RA E X a b)(c:a≠b):∃m,Dm.RA E X a m/\b∈Dm.suc E m:=by
 cases g with
 |refl _=>exact absurd rfl c
 |step d e _=>exact⟨_,d,e⟩
theorem zGE{X:Nat->Prop}{m:Nat}(b:Dm.RA E X 0 m):m∈ordE E:=(zln h).2 (Dm.mono_RA (λy c=>c.elim) b)
theorem zBz{T:Nat->Option Nat}(D:Dm.DTree' E 0 (ordE E) T):Tr (shpE E last one) (ordE E) T:=by
 have hz:0∈ordE E:=Dm.z_mem h.ok h.pos;have o:=λ{x} (U:x∈ordE E)=>zaT h U
 have F:∀t,cntE E t=(((ordE E).map λk=>(tgS (last k)).count (t:Int)).sum):=λt=>by
  unfold cntE;congr 1;refine Ws λk d=>?_
  rw[h.tg k (o d),zu1]
 have I:∀{k:Nat}{t:Int},k∈ordE E->t∈tgS (last k)->∃u∈Dm.suc E k,t=(u:Nat):=λ{k t} d q=>by rw[h.tg k (o d)]at q;obtain⟨u,A,rfl⟩:=Wk.1 q;exact⟨u,A,rfl⟩
 refine⟨(Dm.rpo h.ok h.pos).nd,λk t=>?_,λk=>((Dm.rpo h.ok h.pos).nd).filter _,λk t d q s=>(D.wt.up t k s).2.2.1,λk d t q=>?_,F,λk d t s q v=>?_,λt q k s=>?_⟩
 .show t∈zaQ E k↔_;unfold zaQ;rw[Wg,decide_eq_true_eq];exact⟨λ⟨v,n⟩=>⟨v,by rw[zsf h D (o v)]at n;exact(zt6 h).1 n⟩,λ⟨v,n⟩=>⟨v,by rw[zsf h D (o v)];exact(zt6 h).2 n⟩⟩
 .obtain⟨u,A,rfl⟩:=I d q;exact⟨u,zt4 h d A,rfl⟩
 .obtain⟨u,A,e⟩:=I d q;have e:t=u:=Int.ofNat.inj e;subst e;have z:=zt4 h d A;have H:t≠0:=λe=>s (e▸D.wt.root)
  have p:∀m∈ordE E,t∈Dm.suc E m->m=k:=λm J R=>Xb λy=>by have n:=zvt (g:=λk=>(Dm.suc E k).count t) d J (λe=>y e.symm) (WA.2 A) (WA.2 R);have M:cntE E t=1:=v;unfold cntE at M;omega
  have N:Dm.Dm E 0 k t:=λZ=>by obtain⟨m,n,C⟩:=zJh Z (λe=>H e.symm);exact n.nx (p m (zGE h n) C)
  obtain⟨j,B⟩:∃j,T t=some j:=by
   cases B:T t with
   |none=>exact absurd B s
   |some j=>exact⟨j,rfl⟩
  obtain⟨_,w,O,_⟩:=D.wt.up t j B
  have Q:k≠t:=λe=>by
   have S:∀x,Dm.RA E (λ_=>False) 0 x->x≠t:=λx U=>by
    induction U with
    |refl _=>exact λe=>H e.symm
    |@step b c n C _ ih=>exact λL=>ih ((p b (zGE h n) (L▸C)).trans e)
   exact S t ((zln h).1 z) rfl
  have W:Dm.Ch T t k:=(D.ch t z k d).2 N
  have X:Dm.Ch T j k:=by
   rcases W.cases' with e|⟨j',V,L⟩
   .exact absurd e Q
   .rw[B]at V;cases V;exact L
  have K:Dm.Dm E 0 j t:=(D.ch t z j w).1 (.up B (.refl j));have P:j≠t:=λe=>by rw[e]at O;omega
  have Y:Dm.Ch T k j:=(D.ch k d j w).2 (K.pred A P);rw[B,Dm.Ch.anti D.wt hz d w Y X]
 .have y:0≠t:=λe=>by rw[<-e,D.wt.root]at s;cases s
  obtain⟨m,n,C⟩:=zJh ((zln h).1 q) y;have J:=zGE h n;refine⟨(D.wt.up t k s).2.1,m,J,?_⟩;show(t:Int)∈tgS (last m);rw[h.tg m (o J)];exact Wk.2 ⟨t,C,rfl⟩
theorem zDA{T:Nat->Option Nat}(D:Dm.DTree' E 0 (ordE E) T):Top (ordE E) T:=by obtain⟨t,b⟩:=(Dm.rpo h.ok h.pos).head;refine⟨Dm.z_mem h.ok h.pos,?_,D.wt.root,D.held⟩;show(Dm.dfs E E.length 0 ([],[])).2.reverse.idxOf 0=0;rw[b];simp
end
def zsq(E:Dm.Adj)(b p:Nat):Prop:=p∈ordE E/\b∈Dm.suc E p/\Dm.domL (Dm.treeL E) b p=true
theorem zvj{E:Dm.Adj}{b p:Nat}(h:zsq E b p):zgi E b p:=by
 by_cases c:p=b
 .exact .inl c
 .exact .inr ⟨p,h.1,h.2.1,h.2.2,h.1,.refl c⟩
theorem ztO{E:Dm.Adj}{b x y:Nat}(h:zgi E b x)(e:x≠b)(n:y∈ordE E)(d:x∈Dm.suc E y):zgi E b y:=by
 by_cases c:y=b
 .exact .inl c
 rcases h with h|⟨p,g,j,k,_,m⟩
 .exact absurd h e
 .exact .inr ⟨p,g,j,k,n,((Dm.RA.refl (X:=(·=b)) c).step d e).trans m⟩
theorem zBx{E:Dm.Adj}{last:Nat->St}(j:EdgeOk E last){b:Nat}{S:List Nat}(t:b∈S)(e:∀p,zsq E b p->p∈S)(d:∀x∈S,x≠b->∀y∈ordE E,x∈Dm.suc E y->y∈S){x:Nat}(h:zgi E b x):x∈S:=by
 rcases h with rfl|⟨p,k,n,o,q,s⟩
 .exact t
 .have key:∀z,Dm.RA E (·=b) x z->z∈S->x∈S:=λz v=>by
   induction v with
   |refl _=>exact id
   |@step m c hm hc hcb ih=>intro g;refine ih (d c g hcb m ?_ hc);exact(zln j).2 (((zln j).1 q).trans (Dm.mono_RA (λ_ u=>u.elim) hm))
  exact key p s (e p ⟨k,n,o⟩)
structure BodyI(E:Dm.Adj)(b:Nat)(S R:List Nat):Prop where
 nd:S.Nodup
 head:b∈S
 inl:∀x∈S,zgi E b x
 lt:∀x∈R,x<E.length
 new:∀x∈R,x∈ordE E->zgi E b x
 src:∀p,zsq E b p->p∈S\/p∈R
 pre:∀x∈S,x≠b->∀y∈ordE E,x∈Dm.suc E y->y∈S\/y∈R
section
variable {E:Dm.Adj}{last:Nat->St}{b:Nat}{S R:List Nat}
theorem BodyI.start{l:List Nat}(g:EdgeOk E last)(d:∀p,p∈l↔zsq E b p):BodyI E b [b] l :=
 ⟨by simp,by simp,λx c=>.inl (by simpa using c),λx c=>zaT g ((d x).1 c).1,λx c _=>zvj ((d x).1 c),λp h=>.inr ((d p).2 h),λx c e=>absurd (by simpa using c) e⟩
theorem BodyI.skip{x:Nat}(h:BodyI E b S (R++[x]))(g:x∈S\/x∉ordE E):BodyI E b S R:=by
 have e:∀y,y∈ordE E->(y∈S\/y∈R++[x])->y∈S\/y∈R:=λy d c=>by
  rcases c with c|c
  .exact .inl c
  .rcases Wc.1 c with c|c
   .exact .inr c
   .rw[Wf.1 c]at d⊢;rcases g with g|g
    .exact .inl g
    .exact absurd d g
 exact⟨h.nd,h.head,h.inl,λy d=>h.lt y (Wd _ d),λy d=>h.new y (Wd _ d),λp m=>e p m.1 (h.src p m),λz n k y d j=>e y d (h.pre z n k y d j)⟩
theorem BodyI.take{x:Nat}{l:List Nat}(h:BodyI E b S (R++[x]))(q:∀y,y∈l↔y<E.length/\x∈Dm.suc E y)(w:EdgeOk E last)(v:x∉S)(t:x∈ordE E):BodyI E b (S++[x]) (R++l):=by
 have s:x≠b:=λe=>v (e▸h.head)
 have m:=h.new x (by simp) t
 have k:∀y,(y∈S\/y∈R++[x])->y∈S++[x]\/y∈R++l:=λy g=>by
  rcases g with g|g
  .exact .inl (Wd _ g)
  .rcases Wc.1 g with g|g
   .exact .inr (Wd _ g)
   .exact .inl (WD _ g)
 refine⟨?_,Wd _ h.head,λy d=>?_,λy d=>?_,λy d n=>?_,λp C=>k p (h.src p C),λz o u y d j=>?_⟩
 .rw[List.nodup_append];refine⟨h.nd,by simp,λa A c B=>?_⟩;rw[Wf.1 B];rintro rfl;exact v A
 .rcases Wc.1 d with d|d
  .exact h.inl y d
  .rw[Wf.1 d];exact m
 .rcases Wc.1 d with d|d
  .exact h.lt y (Wd _ d)
  .exact((q y).1 d).1
 .rcases Wc.1 d with d|d
  .exact h.new y (Wd _ d) n
  .exact ztO m s n ((q y).1 d).2
 .rcases Wc.1 o with o|o
  .exact k y (h.pre z o u y d j)
  .rw[Wf.1 o]at j;exact .inr (WD _ ((q y).2 ⟨zaT w d,j⟩))
theorem BodyI.done(h:BodyI E b S [])(e:EdgeOk E last){x:Nat}:x∈S↔zgi E b x :=
 ⟨h.inl x,zBx e h.head (λp g=>(h.src p g).resolve_right (by simp)) (λz k d y j c=>(h.pre z k d y j c).resolve_right (by simp))⟩
end
def zDW(f:Nat->Nat)(n:Nat)(S:List Nat):Nat:=(((Wh n).filter λx=>decide (x∉S)).map f).sum
theorem zBJ{f:Nat->Nat}{S:List Nat}{x:Nat}(j:x∉S):∀{l:List Nat},l.Nodup->((l.filter λy=>decide (y∉S)).map f).sum=((l.filter λy=>decide (y∉S++[x])).map f).sum+if x∈l then f x else 0
 |[],_=>by simp
 |
  y::l,h=>by
  have g:=List.nodup_cons.1 h;have d:=zBJ (f:=f) j g.2;by_cases c:y∈S
  .have e:x≠y:=λe=>j (e▸c)
   rw[Ww (by simp[c]),Ww (by simp[c]),d];simp[e]
  .by_cases b:y=x
   .subst b;rw[Wx (by simp[c]),Ww (by simp),Wp,Wv,d,if_neg g.1,if_pos List.mem_cons_self];omega
   .have e:x≠y:=λe=>b e.symm
    rw[Wx (by simp[c]),Wx (by simp[c,b]),Wp,Wv,Wp,Wv,d];simp[e];omega
theorem zDg{f:Nat->Nat}{n:Nat}{S:List Nat}{x:Nat}(c:x∉S)(b:x<n):zDW f n S=zDW f n (S++[x])+f x:=by unfold zDW;rw[zBJ c List.nodup_range,if_pos (We.2 b)]
open Classical in
noncomputable def zfo(E:Dm.Adj)(b:Nat):List Nat:=(Wh E.length).filter λx=>decide (zgi E b x)
theorem ztP{E:Dm.Adj}{last:Nat->St}(c:EdgeOk E last){b x:Nat}(d:b<E.length):x∈zfo E b↔zgi E b x:=by
 unfold zfo;rw[Wg,We,@decide_eq_true_iff _ (Xc _)];refine⟨λh=>h.2,λh=>⟨?_,h⟩⟩;rcases h with rfl|⟨_,_,_,_,h,_⟩
 .exact d
 .exact zaT c h
theorem zpg{E:Dm.Adj}{b:Nat}:(zfo E b).length<=E.length:=by have:=Wj (λx=>@decide (zgi E b x) (Xc _)) (Wh E.length);simpa [zfo]using this
def zhu(l:List Nat):List Int:=l.map λ(x:Nat)=>(x:Int)
theorem zkb{l:List Nat}:(zhu l).length=l.length:=by simp[zhu]
theorem zF0{l:List Nat}{x:Nat}:(x:Int)∈zhu l↔x∈l:=by unfold zhu;rw[Wk];exact⟨λ⟨y,b,c⟩=>by rw[<-Int.ofNat.inj c];exact b,λh=>⟨x,h,rfl⟩⟩
theorem zvo{l:List Nat}(h:l.Nodup):(zhu l).Nodup:=by unfold zhu List.Nodup;rw[WN];exact List.Pairwise.imp (λb e=>b (Int.ofNat.inj e)) h
theorem zzQ{E:Dm.Adj}{last:Nat->St}(c:EdgeOk E last){b:Nat}(d:b<E.length){S:List Nat}(g:S.Nodup)(e:∀x,x∈S↔zgi E b x):znD (zhu S)=zhu (zfo E b):=by
 refine zw4 ?_ (zmU _) ?_
 .refine(zec _).trans ?_;unfold zhu;refine List.Perm.map _ ((List.perm_ext_iff_of_nodup g ?_).2 λx=>?_)
  .exact List.nodup_range.filter _
  .rw[e,ztP c d]
 .unfold zhu;rw[WN];have:(zfo E b).Pairwise (· < ·):=List.pairwise_lt_range.filter _;exact this.imp λh=>by omega
def nx1(E:Dm.Adj)(b p:Nat):List Nat:=Dm.filR (λb=>decide (b∈Dm.suc E p)) b
def nx2(E:Dm.Adj)(b i p:Nat):List Nat:=nx1 E b p++if p∈(Dm.suc (Dm.predL E) b).take i then[b]else[]
def zmf(E:Dm.Adj):Dm.Adj:=(Wh E.length).map (nx1 E E.length)
section
variable {E:Dm.Adj}
theorem zJl{p b:Nat}(h:b∈Dm.suc E p):p<E.length:=by
 by_cases c:p<E.length
 .exact c
 .unfold Dm.suc at h;rw[Wa,List.getElem?_eq_none (by omega)]at h;cases h
theorem zCs{b:Nat}:(Dm.suc (Dm.predL E) b).Nodup:=by
 unfold Dm.suc Dm.predL;rw[Wa,WO]
 cases(Wh E.length)[b]? with
 |none=>exact List.nodup_nil
 |some b=>exact List.nodup_range.filter _
theorem zpj{b:Nat}:(Dm.suc (Dm.predL E) b).length<=E.length:=by
 unfold Dm.suc Dm.predL;rw[Wa,WO]
 cases(Wh E.length)[b]? with
 |none=>exact Wm _
 |some b=>have:=Wj (λa=>decide (b∈Dm.suc E a)) (Wh E.length);rw[List.length_range]at this;exact this
theorem zJt{b p x:Nat}(h:x∈nx1 E b p):x<b/\x∈Dm.suc E p:=by unfold nx1 Dm.filR at h;rw[Wg,We,decide_eq_true_eq]at h;exact h
theorem zJW{b p x:Nat}:x∈nx1 E b p↔x<b/\x∈Dm.suc E p:=by unfold nx1 Dm.filR;rw[Wg,We,decide_eq_true_eq]
theorem zqM{b p:Nat}:(nx1 E b p).length<=b:=Dm.filR_le
theorem zBr:nx1 E 0=λ_=>[]:=rfl
theorem zIL{b p:Nat}:nx1 E (b+1) p=nx1 E b p++if b∈Dm.suc E p then[b]else[]:=by
 unfold nx1;by_cases h:b∈Dm.suc E p
 .rw[Dm.filR_pos (decide_eq_true h),if_pos h]
 .rw[Dm.filR_neg (decide_eq_false h),if_neg h,Wn]
theorem zB1{b:Nat}:nx2 E b 0=nx1 E b:=by funext p;simp[nx2]
theorem zKE{b:Nat}(c:b<E.length):nx2 E b (Dm.suc (Dm.predL E) b).length=nx1 E (b+1):=by
 funext p;unfold nx2;rw[List.take_length,zIL];congr 1;by_cases h:b∈Dm.suc E p
 .rw[if_pos h,if_pos ((Dm.mem_predL c).2 ⟨zJl h,h⟩)]
 .rw[if_neg h,if_neg λd=>h ((Dm.mem_predL c).1 d).2]
theorem zBo{l:List Nat}(h:l.Nodup){i:Nat}(b:i<l.length):l[i]∉l.take i:=λd=>by obtain⟨j,c,e⟩:=WP.1 d;rw[List.length_take]at c;rw[List.getElem_take]at e;exact List.pairwise_iff_getElem.1 h j i (by omega) b (by omega) e
theorem zJm{b i:Nat}(c:i<(Dm.suc (Dm.predL E) b).length):nx2 E b i (Dm.suc (Dm.predL E) b)[i]=nx1 E b (Dm.suc (Dm.predL E) b)[i]:=by unfold nx2;rw[if_neg (zBo zCs c),Wn]
theorem zJd{b i:Nat}(c:i<(Dm.suc (Dm.predL E) b).length):updF (nx2 E b i) (Dm.suc (Dm.predL E) b)[i] (nx2 E b i (Dm.suc (Dm.predL E) b)[i]++[b])=nx2 E b (i+1):=by
 rw[zJm c];funext p;by_cases h:p=(Dm.suc (Dm.predL E) b)[i]
 .subst h;rw[zg4];unfold nx2;rw[if_pos (by rw[WE c];exact WD _ (Wf.2 rfl))]
 .rw[zwx h];unfold nx2;congr 1;have:p∈(Dm.suc (Dm.predL E) b).take (i+1)↔p∈(Dm.suc (Dm.predL E) b).take i:=by rw[WE c,Wc,Wf];exact⟨λd=>d.resolve_right h,.inl⟩
  simp only[this]
theorem zKM{b i:Nat}(c:i<(Dm.suc (Dm.predL E) b).length):b∉nx2 E b i (Dm.suc (Dm.predL E) b)[i]:=by rw[zJm c];intro h;have:=(zJt h).1;omega
theorem zK1{b i p:Nat}:(nx2 E b i p).length<=b+1:=by
 unfold nx2;rw[Wy];have:=zqM (E:=E) (b:=b) (p:=p);split
 .rw[WQ];omega
 .rw[Wq];omega
def isBk(E:Dm.Adj)(a b:Nat):Bool:=Dm.domL (Dm.treeL E) b a
def bkA(E:Dm.Adj)(a:Nat)(l:List Nat):List (Nat×Nat):=(l.filter λb=>isBk E a b).map λb=>(a,b)
def bk1(E:Dm.Adj)(a:Nat):List (Nat×Nat):=(Wh a).flatMap λa=>if a∈ordE E then bkA E a (nx1 E E.length a)else[]
def zha(E:Dm.Adj):List (Nat×Nat):=bk1 E E.length
theorem zwc{a:Nat}:bk1 E (a+1)=bk1 E a++if a∈ordE E then bkA E a (nx1 E E.length a)else[]:=by unfold bk1;rw[List.range_succ,Wz];simp
theorem zI5{a:Nat}{l:List Nat}{i:Nat}(h:i<l.length):bkA E a (l.take (i+1))=bkA E a (l.take i)++if isBk E a l[i]then[(a,l[i])]else[]:=by unfold bkA;rw[Dm.filter_take_succ h,List.map_append];cases isBk E a l[i]<;>simp
theorem zGt{a:Nat}{l:List Nat}:(bkA E a l).length<=l.length:=by unfold bkA;rw[List.length_map];exact Wj _ _
theorem zzN{a:Nat}:(bk1 E a).length<=a*E.length:=by
 induction a with
 |zero=>simp[bk1]
 |succ a ih=>
  rw[zwc,Wy,Nat.add_mul,Nat.one_mul];have c:=zGt (E:=E) (a:=a) (l:=nx1 E E.length a);have d:=zqM (E:=E) (b:=E.length) (p:=a);split
  .omega
  .rw[Wq];omega
theorem zo9{last:Nat->St}(j:EdgeOk E last){a b:Nat}:(a,b)∈zha E↔zsq E b a:=by
 unfold zha bk1 zsq;rw[Wo];constructor
 .rintro⟨x,n,h⟩;split at h
  .rename_i k;unfold bkA at h;obtain⟨y,m,e⟩:=Wk.1 h;cases e;obtain⟨d,c⟩:=Wg.1 m;exact⟨k,(zJt d).2,c⟩
  .cases h
 .rintro⟨d,c,g⟩;refine⟨a,We.2 (zJl c),?_⟩;rw[if_pos d];unfold bkA;exact Wk.2 ⟨b,Wg.2 ⟨zJW.2 ⟨j.ok _ _ c,c⟩,g⟩,rfl⟩
theorem zsr{b:Nat}:zhz E b=true↔∃p,zsq E b p:=by
 unfold zhz zsq;rw[WR];constructor
 .rintro⟨p,d,c⟩;rw[Wr,decide_eq_true_eq]at c;exact⟨p,d,c⟩
 .rintro⟨p,d,c⟩;exact⟨p,d,by rw[Wr,decide_eq_true_eq];exact c⟩
theorem zHc{last:Nat->St}(g:EdgeOk E last){b:Nat}:(zha E).any (λe=>decide (e.2=b))=zhz E b:=by
 rw[Bool.eq_iff_iff,zsr,WR];constructor
 .rintro⟨⟨a,c⟩,h,d⟩;rw[decide_eq_true_eq]at d;cases d;exact⟨a,(zo9 g).1 h⟩
 .rintro⟨p,j⟩;exact⟨(p,b),(zo9 g).2 j,by simp⟩
def srcL(E:Dm.Adj)(b:Nat)(l:List (Nat×Nat)):List Nat:=(l.filter λe=>decide (e.2=b)).map (·.1)
theorem zD7{b:Nat}{l:List (Nat×Nat)}{i:Nat}(h:i<l.length):srcL E b (l.take (i+1))=srcL E b (l.take i)++if l[i].2=b then[l[i].1]else[]:=by
 unfold srcL;rw[Dm.filter_take_succ h,List.map_append];by_cases c:l[i].2=b
 .simp[c]
 .simp[c]
theorem zAW{b:Nat}{l:List (Nat×Nat)}:(srcL E b l).length<=l.length:=by unfold srcL;rw[List.length_map];exact Wj _ _
theorem zG2{last:Nat->St}(e:EdgeOk E last){b p:Nat}:p∈srcL E b (zha E)↔zsq E b p:=by
 unfold srcL;rw[Wk];constructor
 .rintro⟨⟨a,c⟩,h1,rfl⟩;obtain⟨g,d⟩:=Wg.1 h1;rw[decide_eq_true_eq]at d;cases d;exact(zo9 e).1 g
 .intro h;exact⟨(p,b),Wg.2 ⟨(zo9 e).2 h,by simp⟩,rfl⟩
def natP(E:Dm.Adj)(b p:Nat):Bool:=decide (p∈ordE E)&&Dm.domL (Dm.treeL E) b p
def nat0(E:Dm.Adj)(b:Nat)(l:List Nat):List Nat:=l.flatMap λp=>if natP E b p then[b,p]else[]
theorem zGi{b:Nat}{l:List Nat}{i:Nat}(h:i<l.length):nat0 E b (l.take (i+1))=nat0 E b (l.take i)++if natP E b l[i]then[b,l[i]]else[]:=by unfold nat0;rw[WE h,Wz];simp
theorem zA2{b:Nat}{l:List Nat}:(nat0 E b l).length<=2*l.length:=by
 induction l with
 |nil=>simp[nat0]
 |cons a l ih=>
  unfold nat0 at ih⊢;rw[List.flatMap_cons,Wy,Wl];split
  .simp only[Wl,Wq];omega
  .simp only[Wq];omega
structure NatI(E:Dm.Adj)(b i:Nat)(out:List Nat):Prop where
 inl:∀x∈out,zgi E b x
 lt:∀x∈out,x<E.length
 src:∀p,zsq E b p->p∈out
 head:out≠[]->b∈out/\zhz E b=true
 pre:∀j x,j<i->out[j]?=some x->x≠b->∀y∈ordE E,x∈Dm.suc E y->y∈out
theorem NatI.start{last:Nat->St}(k:EdgeOk E last){b:Nat}(e:b<E.length):NatI E b 0 (nat0 E b (Dm.suc (Dm.predL E) b)):=by
 have m:∀x,x∈nat0 E b (Dm.suc (Dm.predL E) b)->∃p,zsq E b p/\(x=b\/x=p):=λx d=>by
  unfold nat0 at d;obtain⟨p,c,h⟩:=Wo.1 d;split at h
  .rename_i g;unfold natP at g;rw[Wr,decide_eq_true_eq]at g;refine⟨p,⟨g.1,((Dm.mem_predL e).1 c).2,g.2⟩,?_⟩;simpa using h
  .cases h
 refine⟨λx d=>?_,λx d=>?_,λp c=>?_,λn=>?_,λj x o=>by omega⟩
 .obtain⟨p,c,h⟩:=m x d;rcases h with h|h
  .exact .inl h
  .rw[h];exact zvj c
 .obtain⟨p,c,h⟩:=m x d;rcases h with h|h
  .rw[h];exact e
  .rw[h];exact zaT k c.1
 .unfold nat0;refine Wo.2 ⟨p,(Dm.mem_predL e).2 ⟨zaT k c.1,c.2.1⟩,?_⟩;rw[if_pos (by unfold natP;rw[Wr,decide_eq_true_eq];exact⟨c.1,c.2.2⟩)];simp
 .obtain⟨x,d⟩:=List.exists_mem_of_ne_nil _ n;obtain⟨p,c,_⟩:=m x d;refine⟨?_,zsr.2 ⟨p,c⟩⟩;unfold nat0;refine Wo.2 ⟨p,(Dm.mem_predL e).2 ⟨zaT k c.1,c.2.1⟩,?_⟩;rw[if_pos (by unfold natP;rw[Wr,decide_eq_true_eq];exact⟨c.1,c.2.2⟩)];simp
theorem NatI.add{last:Nat->St}(o:EdgeOk E last){b i:Nat}{out:List Nat}(h:NatI E b i out)(u:i<out.length){x y:Nat}(m:x∈out)(e:x≠b)(n:y∈ordE E)(g:x∈Dm.suc E y):NatI E b i (out++[y]):=by
 refine⟨λz c=>?_,λz c=>?_,λp s=>Wd _ (h.src p s),λ_=>?_,λj z q c k w t d=>?_⟩
 .rcases Wc.1 c with c|c
  .exact h.inl z c
  .rw[Wf.1 c];exact ztO (h.inl x m) e n g
 .rcases Wc.1 c with c|c
  .exact h.lt z c
  .rw[Wf.1 c];exact zaT o n
 .have:=h.head (WF m);exact⟨Wd _ this.1,this.2⟩
 .rw[Wt (by omega)]at c;exact Wd _ (h.pre j z q c k w t d)
theorem NatI.next{b i:Nat}{out:List Nat}(h:NatI E b i out){x:Nat}(k:out[i]?=some x)(g:x≠b->∀y∈ordE E,x∈Dm.suc E y->y∈out):NatI E b (i+1) out:=by
 refine⟨h.inl,h.lt,h.src,h.head,λj z m e c=>?_⟩;by_cases d:j=i
 .subst d;rw[k]at e;cases e;exact g c
 .exact h.pre j z (by omega) e c
theorem NatI.done{last:Nat->St}(o:EdgeOk E last){b:Nat}{out:List Nat}(h:NatI E b out.length out){x:Nat}:x∈out↔zhz E b=true/\zgi E b x:=by
 constructor
 .intro k;exact⟨(h.head (WF k)).2,h.inl x k⟩
 .rintro⟨m,n⟩;obtain⟨p,s⟩:=zsr.1 m;have q:=(h.head (WF (h.src p s))).1;refine zBx o q h.src (λz u d y t c=>?_) n;obtain⟨j,g,e⟩:=WP.1 u;exact h.pre j z g (by rw[Wi g,e]) d y t c
end
def beyC(S:Shp)(k:Nat)(o:List Nat)(x:Nat):Bool := !S.inB k x&&(o.isEmpty||decide (S.cnt x≠1))
theorem zni{S:Shp}{k x:Nat}:∀{l out:List Nat},zj6 S k (l++[x]) out=if beyC S k (zj6 S k l out) x then zj6 S k l out++[x]else zj6 S k l out
 |
  [],out=>by
  rw[List.nil_append,zj6,zj6,zj6,zj6];rfl
 |
  y::l,out=>by
  rw[List.cons_append,zj6,zj6];split
  .rw[zni]
  .rw[zni]
def aftG(S:Shp)(k:Nat)(l:List Nat):List Nat:=zj6 S k l []
def resG(S:Shp)(k:Nat)(l:List Nat):List Nat:=l.filter λx=>decide (x∉aftG S k l)
theorem zBq{S:Shp}{k:Nat}:aftG S k []=[]:=rfl
theorem zB2{S:Shp}{k x:Nat}{l:List Nat}(h:x∈aftG S k l):x∈l:=(zp2 l [] x h).resolve_left (by simp)
theorem zv6{S:Shp}{k x:Nat}{l:List Nat}(h:beyC S k (aftG S k l) x=true):aftG S k (l++[x])=aftG S k l++[x]:=by unfold aftG at h⊢;rw[zni,if_pos h]
theorem zAg{S:Shp}{k x:Nat}{l:List Nat}(h:beyC S k (aftG S k l) x=false):aftG S k (l++[x])=aftG S k l:=by unfold aftG at h⊢;rw[zni,h];rfl
theorem zH0{S:Shp}{k x:Nat}{l:List Nat}(h:beyC S k (aftG S k l) x=true)(b:x∉l):resG S k (l++[x])=resG S k l:=by
 unfold resG;rw[zv6 h,WS,Ww (by simp),List.filter_nil,Wn];refine WJ λy c=>?_
 have:y≠x:=λe=>b (e▸c)
 simp[this]
theorem zK3{S:Shp}{k x:Nat}{l:List Nat}(h:beyC S k (aftG S k l) x=false)(c:x∉l):resG S k (l++[x])=resG S k l++[x]:=by unfold resG;rw[zAg h,WS,Wx (by simp;exact λb=>c (zB2 b)),List.filter_nil]
theorem zsh{S:Shp}{k:Nat}{l:List Nat}:(aftG S k l).length<=l.length:=by
 unfold aftG
 have:∀(l out:List Nat),(zj6 S k l out).length<=out.length+l.length:=λl=>by
  induction l with
  |nil=>intro out;exact WB _
  |cons y l ih=>
   intro out;unfold zj6;split
   .have:=ih (out++[y]);rw[Wy,WQ]at this;rw[Wl];omega
   .have:=ih out;rw[Wl];omega
 have h:=this l [];rw[Wq]at h;omega
theorem zsc{S:Shp}{k:Nat}{l:List Nat}:(resG S k l).length<=l.length:=Wj _ _
theorem zps{S:Shp}{k:Nat}(h:S.head k=true):beyL S k=aftG S k (S.kids k):=by unfold beyL;rw[if_pos h];rfl
theorem zB5{S:Shp}{k:Nat}(h:S.head k=true):zk4 S k=resG S k (S.kids k):=by unfold zk4 resG;rw[zps h]
theorem zE1{S:Shp}{k:Nat}(h:S.head k=false):beyL S k=[]:=by unfold beyL;rw[h];rfl
theorem zIf{S:Shp}{k:Nat}(h:S.head k=false):zk4 S k=S.kids k:=by unfold zk4;rw[zE1 h,List.filter_eq_self];simp
def plG(S:Shp)(l:List Nat):List Nat:=l.filter λx=>decide (S.cnt x≠1)
def inG(S:Shp)(l:List Nat):List Nat:=l.filter λx=>decide (S.cnt x=1)
theorem zvd{S:Shp}{k:Nat}:zJ S k=plG S (zk4 S k):=rfl
theorem zDP{S:Shp}{k:Nat}:inlL S k=inG S (zk4 S k):=rfl
theorem zGM{S:Shp}{l:List Nat}{i:Nat}(h:i<l.length):plG S (l.take (i+1))=plG S (l.take i)++if S.cnt l[i]=1 then[]else[l[i]]:=by unfold plG;rw[Dm.filter_take_succ h];by_cases b:S.cnt l[i]=1<;>simp[b]
theorem zIn{S:Shp}{l:List Nat}{i:Nat}(h:i<l.length):inG S (l.take (i+1))=inG S (l.take i)++if S.cnt l[i]=1 then[l[i]]else[]:=by unfold inG;rw[Dm.filter_take_succ h];by_cases b:S.cnt l[i]=1<;>simp[b]
theorem zwb{S:Shp}{l:List Nat}:(plG S l).length<=l.length:=Wj _ _
theorem zFF{S:Shp}{l:List Nat}:(inG S l).length<=l.length:=Wj _ _
theorem zoK{code:Nat->Ctx->Nd}{c:Ctx}{l:List Nat}{i:Nat}(h:i<l.length):zah code c (l.drop i)=code l[i] (zap (l.drop (i+1)) c)::zah code c (l.drop (i+1)):=by rw[WU h,zah]
theorem zij{code:Nat->Ctx->Nd}{c:Ctx}:∀{l:List Nat},(zah code c l).length=l.length
 |[]=>rfl
 |k::l=>by rw[zah,Wl,zij,Wl]
theorem zxp{l:List Nat}{c:Ctx}{i:Nat}(h:i<l.length):zap (l.drop i) c=⟨l[i],c.h,c.x⟩:=by rw[WU h];rfl
theorem zva{l:List Nat}{c:Ctx}{i:Nat}(h:l.length<=i):zap (l.drop i) c=c:=by rw[List.drop_of_length_le h];rfl
end Go.Ab
