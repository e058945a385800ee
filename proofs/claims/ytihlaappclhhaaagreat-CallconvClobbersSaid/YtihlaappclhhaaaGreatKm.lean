/-
  Part 13 of the proof: how the calls of this program run, over values instead of memory, and what each function computes.
-/
import Derived.Test.YtihlaappclhhaaaGreatKl
set_option maxRecDepth 100000
set_option cbv.warning false
set_option cbv.maxSteps 100000000
set_option linter.unusedVariables false
set_option linter.unusedSimpArgs false
set_option linter.unnecessarySimpa false
set_option linter.unusedSectionVars false
open List renaming getD→Wa,length_nil→Wc,length_cons→Wd,take_length→We,length_append→Wf,append_nil→Wg,replicate→Wh,getElem?_eq_getElem→Wi,getElem_mem→Wj,getD_eq_getElem?_getD→Wk,length_singleton→Wl,take_add_one→Wm,length_map→Wp,take_zero→Wq,map_cons→Ws,length_take→Wt,map_append→Wu,append_assoc→Wv,take_append_drop→Ww,take_of_length_le→Wx,map_map→Wy,map_nil→Wz,length_set→WB,replicate_succ→WC,drop_eq_getElem_cons→WE,cons_append→WF,mem_singleton→WG,map_congr_left→WH,filter_append→WI,flatMap_append→WJ,flatMap_cons→WK,set_getElem_self→WN,eq_of_mem_replicate→WO,not_mem_nil→WP,mem_or_eq_of_mem_set→WQ
open Nat renaming lt_or_ge→Wn,le_refl→Wo,zero_le→Wr,le_trans→WA
open Bool renaming and_eq_true→WD
open Array renaming getElem?_eq_none→WL,getElem?_toList→WM
namespace Go.Ab
open Go.RowKit Go.Proofs
theorem zBT{H H2:AH}{σ:Nat→Nat→Option (Nat × Nat × Nat)}{D:Nat→Nat→Prop}{t:Bool}{r q g:Nat}{l m:List Int}(hD:D r q)(hg:H.get r q=some (.row 1 ((l++m).map cW) g))(hb:l.length≤big):
  Vw H H2 σ D t (.own r q g 0 l.length) (encL 1 cW l):=by
 refine .frz t r q g 0 l.length 1 ((l++m).map cW) _ hD hg hb (by simp) (fun i j hi hj=>?_)
 obtain rfl:j=0:=by omega
 rw[Nat.zero_add,zn (show i < (l++m).length by simp;omega),zn hi,List.getElem_append_left hi];exact .int _ _ _
theorem ztM{K l:List Int}{j:Nat}(h:K.length≤j)(hj:j < l.length):((curI K l).map cW).getD j []=[.int .u32 l[j]]:=by simp[Wk,zw0 h hj,cW]
theorem zAM{K l:List Int}{v:Int}(h:K.length < l.length):((curI K l).map cW).set K.length [.int .u32 v]=(curI (K++[v]) l).map cW:=by rw[←zxL h,List.map_set];rfl
theorem ztq(l:List Int)(g:Nat)(hl:l.length≤100000000000):
  zU Tryz.prog zbG [.own 0 0 g 0 l.length] [(0,.row 1 (l.map cW) g)] 1
   (fun v H nx=>∃m,v=.own 0 0 g 0 (za8 l).length∧H=[(0,.row 1 ((za8 l++m).map cW) g)]∧nx=1):=by
 refine zR (fn_x zgU rfl ?_)
 unfold zc2;conv in dcC _ _=>cbv
 have hB:=hBig
 have fin:∀K m,(∀j,j < l.length→zfd l j=true)→K=(4,AV.undef)→m=0→za8 l=l:=fun K m h _ _=>by unfold za8;rw[zmn (Wo _) h,We]
 (refine Gw0 ?_;intros)
 (refine zw (fun h=>?_) (fun h=>?_))<;>(try simp only[dcd] at h)
 ·
  (refine Gw1 @zay.eq_1 ?_;intros)
  have hall:∀j,j < l.length→zfd l j=true:=fun j hj=>by
   have:j=0:=by omega
   subst this;rfl
  have e:=fin (4,.undef) 0 hall rfl rfl;refine⟨.own 0 0 g 0 l.length,[(0,.row 1 ((l++[]).map cW) g)],1,?_,[],by rw[e],by rw[e],rfl⟩;rw[Wg];exact(Ent.tabB [(0,0,0)] [] rfl rfl rfl Qh Qh)
 (refine Gw0 ?_;intros);refine zd (fun i:Nat=>([(0,.own 0 0 g 0 l.length),(3,.int .i64 i)],[(0,.row 1 (l.map cW) g)])) 1 (fun i=>1≤i∧i≤l.length∧∀j,j < i→zfd l j=true) (fun i=>l.length - i) 1 ⟨by omega,by omega,fun j hj=>(by rw[show j=0 by omega];rfl)⟩ (Ent.tabB [(0,0,0)] [] rfl rfl rfl Qh Qh) ?_;intro i ⟨hi1,hi2,hall⟩ wf
 unfold zcD;conv in dcC _ _=>cbv
 (refine Gw0 ?_;intros)
 (refine zw (fun h2=>?_) (fun h2=>?_))<;>(try simp only[dcd] at h2)
 ·
  have hi':i < l.length:=by omega
  have hi1':i - 1 < l.length:=by omega
  have ei:((i:Int) - 1).toNat=i - 1:=by omega
  (repeat first|simp(disch:=try exact dis1) only[evD,Nat.reduceBEq,Nat.reduceAdd,Nat.reduceLeDiff,zn hi',ei,zn hi1',cW]|with_reducible first|intro _|refine aJ ?_)
  (refine zw (fun h3=>?_) (fun h3=>?_))<;>(try simp only[dcd] at h3)
  ·
   have hne:zfd l i=false:=by rw[zfg hi1 hi'];simp;omega
   have hk0:zZ l i=l.take i:=zmn (by omega) hall
   have hk1:zZ l (i+1)=l.take i:=by rw[zlU hne,hk0]
   have hk1l:(zZ l (i+1)).length=i:=by rw[hk1,Wt];omega
   have hstart:curI (zZ l (i+1)) l=l:=by rw[hk1,ztL (by omega)]
   have esl:((l.length:Int) - i).toNat=l.length - i:=by omega
   (refine Gw1 esl ?_;intros)
   refine zd (fun a:Nat=>([(0,.own 0 0 g 0 l.length),(3,.int .i64 (zZ l (i+a)).length),(4,.own 0 0 g i (l.length - i)),(5,.int .i64 a)],[(0,.row 1 ((curI (zZ l (i+a)) l).map cW) g)])) 1
    (fun a=>1≤a∧i+a≤l.length∧(zZ l (i+a)).length < i+a) (fun a=>l.length - (i+a)) 1 ⟨by omega,by omega,by omega⟩ (Ent.tabB [(0,0,0)] [] rfl rfl rfl (Gin2_2 hstart hk1l) (Gin2_2 hstart hk1l)) ?_
   intro a ⟨ha1,ha2,ha3⟩ wf
   unfold zcJ;conv in dcC _ _=>cbv
   (refine Gw0 ?_;intros)
   (refine zw (fun h4=>?_) (fun h4=>?_))<;>(try simp only[dcd] at h4)
   ·
    have ha':i+a < l.length:=by omega
    have ha1':i+a - 1 < l.length:=by omega
    have e1:i+((a:Int) - 1).toNat=i+a - 1:=by omega
    have g1:=ztM (K:=zZ l (i+a)) (l:=l) (by omega) ha';have g2:=ztM (K:=zZ l (i+a)) (l:=l) (by omega) ha1';have hcl:=zpW (K:=zZ l (i+a)) (l:=l) (by omega);(refine Gw3 e1 g1 g2 ?_;intros)
    (refine zw (fun h5=>?_) (fun h5=>?_))<;>(try simp only[dcd] at h5)
    ·
     have hp:zfd l (i+a)=true:=by rw[zfg (by omega) ha'];simp;omega
     have hy:=zmk ha' hp;have hst:=zAM (K:=zZ l (i+a)) (l:=l) (v:=l[i+a]) (by omega);rw[←hy] at hst
     have hyl:(zZ l (i+a+1)).length=(zZ l (i+a)).length+1:=by rw[hy];simp
     (refine Gw4 e1 g1 g2 hst ?_;intros);exact⟨a+1,⟨by omega,by omega,by rw[show i+(a+1)=i+a+1 by omega,hyl];omega⟩,by omega,(Ent.tabB [(0,0,0)] [] rfl rfl rfl (Gin2_2 (show i+(a+1)=i+a+1 by omega) hyl) (Gin2_2 (show i+(a+1)=i+a+1 by omega) hyl))⟩
    ·
     have hp:zfd l (i+a)=false:=by rw[zfg (by omega) ha'];simp;omega
     have hy:=zlU hp;(refine Gw0 ?_;intros);exact⟨a+1,⟨by omega,by omega,by rw[show i+(a+1)=i+a+1 by omega,hy];omega⟩,by omega,(Ent.tabB [(0,0,0)] [] rfl rfl rfl (Gin2_2 (show i+(a+1)=i+a+1 by omega) hy) (Gin2_2 (show i+(a+1)=i+a+1 by omega) hy))⟩
   ·
    have hia:i+a=l.length:=by omega
    rw[hia] at ha3 ⊢
    have hz:((l.length:Int) - (zZ l l.length).length).toNat=l.length - (zZ l l.length).length:=by omega
    have hcl:=zpW (K:=zZ l l.length) (l:=l) (by omega)
    have hclr:((curI (zZ l l.length) l).map cW).take (zZ l l.length).length++Wh (l.length - (zZ l l.length).length) [AV.int .u32 0]++((curI (zZ l l.length) l).map cW).drop ((zZ l l.length).length+(l.length - (zZ l l.length).length))=(zZ l l.length++Wh (l.length - (zZ l l.length).length) 0).map cW:=by
     rw[List.drop_of_length_le (by rw[Wp,hcl];omega),Wg,←List.map_take,Wu,List.map_replicate]
     congr 2
     unfold curI;rw[List.take_append_of_le_length (Wo _),We]
    unfold zcB;conv in dcC _ _=>cbv
    (refine Gw3 @zay.eq_1 hz hclr ?_;intros);refine⟨.own 0 0 g 0 (za8 l).length,[(0,.row 1 ((za8 l++Wh (l.length - (zZ l l.length).length) 0).map cW) g)],1,?_,_,rfl,rfl,rfl⟩;exact(Ent.tabB [(0,0,0)] [] rfl rfl rfl (Gin2_1 @za8.eq_1) (Gin2_1 @za8.eq_1))
  ·
   have hne:zfd l i=true:=by rw[zfg hi1 hi'];simp;omega
   unfold zcC;conv in dcC _ _=>cbv
   (refine Gw0 ?_;intros);refine⟨i+1,⟨by omega,by omega,fun j hj=>?_⟩,by omega,(Ent.tabB [(0,0,0)] [] rfl rfl rfl Qh Qh)⟩
   by_cases hji:j=i
   · subst hji;exact hne
   · exact hall j (by omega)
 ·
  obtain rfl:i=l.length:=by omega
  unfold zcF;have e:=fin (4,.undef) 0 hall rfl rfl;(refine Gw1 @zay.eq_1 ?_;intros);refine⟨.own 0 0 g 0 l.length,[(0,.row 1 ((l++[]).map cW) g)],1,?_,[],by rw[e],by rw[e],rfl⟩;rw[Wg];exact(Ent.tabB [(0,0,0)] [] rfl rfl rfl Qh Qh)
mutual
theorem znN:∀e:Ex,(zhi e).length≤zfH e
 |
  .mk op _ v _ l=>by
  have h:=zr8 (if op=2 then [v] else []) l;rw[zhi,zfH]
  have:(if op=2 then [v] else ([]:List Int)).length≤1:=by split<;>simp
  omega
theorem zr8:∀(a:List Int)(l:List Ex),(zl3 a l).length≤a.length+z7 l
 | a,[]=>by rw[zl3,z7];simp
 |
  a,x::l=>by
  have h1:=zr8 (zhd a (zhi x)) l;have h2:=zsm (a:=a) (b:=zhi x);have h3:=znN x;rw[zl3,z7];omega
end
theorem zqP{l:List Ex}{i:Nat}(h:i < l.length):z7 (l.drop i)=zfH l[i]+z7 (l.drop (i+1)):=by rw[WE h,z7]
theorem zlq(s:St):zz Tryz.prog zgc [.agg s.cells] (·=za (zkw s)):=by
 refine fn_x zpy rfl ?_
 unfold zlm;conv in dcC _ _=>cbv
 have hB:=hBig;obtain⟨op,var,width,next,els,tgt,l,cs⟩:=s;unfold zkw;simp only
 by_cases h:op=1∨op=3
 ·
  rw[if_pos h]
  rcases h with rfl|rfl
  · (refine Gw6 @dT @dF @ub @ua @uc @zfl.eq_1 ?_;intros);exact⟨_,zen (l:=[var]) trivial rfl (by simp only[Wl];omega),rfl⟩
  · (refine Gw6 @dT @dF @ub @ua @uc @zfl.eq_1 ?_;intros);exact⟨_,zen (l:=[var]) trivial rfl (by simp only[Wl];omega),rfl⟩
 · rw[if_neg h];(refine Gw6 @dT @dF @ub @ua @uc @zfl.eq_1 ?_;intros);exact⟨_,zen (l:=[]) trivial rfl (by simp only[Wc];omega),rfl⟩
mutual
theorem zxe:∀e:Ex,(occX e).length≤zfH e
 |
  .mk op _ v _ l=>by
  have h:=zp9 l;rw[occX,zfH,Wf]
  have:(if op=2 then [v] else ([]:List Int)).length≤1:=by split<;>simp
  omega
theorem zp9:∀l:List Ex,(zds l).length≤z7 l
 | []=>by rw[zds,z7];simp
 |
  x::l=>by
  have h1:=zp9 l;have h2:=zxe x;rw[zds,z7,Wf];omega
end
theorem zpw:∀l m:List Ex,zds (l++m)=zds l++zds m
 | [],m=>by rw[zds];rfl
 | x::l,m=>by rw[WF,zds,zds,zpw l m,Wv]
theorem zAi:∀e:Ex,1≤zfH e
 | .mk _ _ _ _ _=>by rw[zfH];omega
theorem zr0:∀l:List Ex,l.length≤z7 l
 | []=>by rw[z7];simp
 | x::l=>by rw[Wd,z7];have:=zr0 l;have:=zAi x;omega
theorem zh7:∀l m:List Ex,z7 (l++m)=z7 l+z7 m
 | [],m=>by rw[z7];simp
 | x::l,m=>by rw[WF,z7,z7,zh7 l m];omega
def visH(xs:List Int)(g:Nat):AH:=[(0,.row 1 [[.own 1 0 g 0 xs.length]] 0),(1,.row 1 (xs.map cI) g)]
def zmU(op v:Int):List Int:=if op=2 then [v] else []
theorem zyt{op v:Int}:(zmU op v).length≤1:=by unfold zmU;split<;>simp
theorem ug:type_of% @visH.eq_1:=@visH.eq_1
theorem zrH(op n v w:Int)(l:List Ex)(xs:List Int)(g:Nat)(hx:xs.length≤200000):
  zU Tryz.prog zie [.agg (encX (.mk op n v w l)),.ptr 0 0 0 0 0] (visH xs g) 2 (fun r H nx=>∃g',r=.tup []∧H=visH (xs++zmU op v) g'∧nx=2):=by
 refine zR (fn_x zuO rfl ?_)
 unfold zpi;conv in dcC _ _=>cbv
 have hB:=hBig;rw[zgj];unfold zmU
 by_cases h:op=2
 ·
  rw[if_pos h]
  (repeat first|simp(disch:=try exact dis1) only[evD,Nat.reduceBEq,Nat.reduceAdd,Nat.reduceLeDiff,visH,dT h]|with_reducible first|intro _|refine aJ ?_)
  (refine Gw1 @zlW.eq_1 ?_;intros);exact⟨.tup [],visH (xs++[v]) (g+1),2,(Ent.tabB [(0,0,0),(1,1,0)] [] rfl rfl rfl (Gin1_1 @ug) (Gin1_1 @ug)),g+1,rfl,rfl,rfl⟩
 ·
  rw[if_neg h]
  (repeat first|simp(disch:=try exact dis1) only[evD,Nat.reduceBEq,Nat.reduceAdd,Nat.reduceLeDiff,visH,dF h,zlW]|with_reducible first|intro _|refine aJ ?_)
  refine⟨.tup [],visH xs g,2,?_,g,rfl,rfl,rfl⟩;exact(Ent.tabB [(0,0,0),(1,1,0)] [] rfl rfl rfl (Gin1_1 @ug) (Gin1_1 @ug))
def visF:AV:=.fn (.func zie) [.ptr 0 0 0 0 0]
theorem Qm{p:Prop}(h:p:=by(try simp only[evWB,Nat.reduceBEq,Nat.reduceAdd,Nat.reduceSub,Nat.reduceLeDiff,Nat.reduceLT,implies_true,List.take_zero,zds,List.append_nil,visH])<;>exact fin1):p:=h
theorem zsG:∀(k:Nat)(e:Ex)(xs:List Int)(g:Nat),zfH e≤k→xs.length+zfH e≤100000 →
  zU Tryz.prog zmi [.agg (encX e),visF] (visH xs g) 2 (fun r H nx=>∃g',r=.tup []∧H=visH (xs++occX e) g'∧nx=2):=by
 intro k
 induction k with
 | zero=>intro e xs g h;obtain⟨_,_,_,_,l⟩:=e;rw[zfH] at h;omega
 | succ k ih =>
 intro e xs g hk hx;obtain⟨op,n,v,w,l⟩:=e;rw[zfH] at hk hx;refine zR (fn_x zwd rfl ?_)
 unfold zqC;conv in dcC _ _=>cbv
 have hB:=hBig;have hlen:=zr0 l;have h1:=zrH op n v w l xs g (by omega);have hv1:=zyt (op:=op) (v:=v);rw[zgj] at h1 ⊢;(refine Gw2 @visF.eq_1 @ug ?_;intros);refine⟨by kernel_rfl,?_⟩;refine zx [(0,0,0),(1,1,0)] 2 _ (h1) rfl rfl (Gin1_1 @ug) (Gin1_1 @ug) ?_;rintro r H' nx' ⟨g',rfl,rfl,rfl⟩;(refine Gw1 @ug ?_;intros)
 have hocc:occX (.mk op n v w l)=zmU op v++zds l:=by rw[occX];rfl
 rw[hocc]
 refine zd (fun a:Nat × Nat=>([(1,.fn (.func zie) [.ptr 0 0 0 0 0]),(10,encL 5 encX l),(11,.int .i64 l.length),(12,.int .i64 a.1)],visH (xs++(zmU op v++zds (l.take a.1))) a.2)) 2
  (fun a=>a.1≤l.length) (fun a=>l.length - a.1) (0,g') (Wr _) (Ent.tabB [(0,0,0),(1,1,0)] [] rfl rfl rfl Qm Qm) ?_
 rintro⟨i,gi⟩ hi wf;simp only at hi
 unfold zna;conv in dcC _ _=>cbv
 (refine Gw1 @ug ?_;intros)
 (refine zw (fun h=>?_) (fun h=>?_))<;>(try simp only[dcd] at h)
 ·
  have hi':i < l.length:=by omega
  have htk:zds (l.take (i+1))=zds (l.take i)++occX l[i]:=by
   rw[Wm,Wi hi',zpw]
   congr 1
   show zds [l[i]]=_;rw[zds,zds,Wg]
  have hs:z7 l=z7 (l.take i)+z7 (l.drop i):=by rw[←zh7,Ww]
  have hs2:=zqP hi';have ho:=zp9 (l.take i);have hc:=ih l[i] (xs++(zmU op v++zds (l.take i))) gi (by omega) (by simp only[Wf];omega)
  have e1:xs++(zmU op v++zds (l.take i))++occX l[i]=xs++(zmU op v++zds (l.take (i+1))):=by rw[htk];simp
  rw[e1] at hc
  (repeat first|simp(disch:=try exact dis1) only[evD,Nat.reduceBEq,Nat.reduceAdd,Nat.reduceLeDiff,zn hi']|with_reducible first|intro _|refine aJ ?_)
  generalize l[i]=x at hc ⊢;obtain⟨o2,n2,v2,w2,l2⟩:=x;simp only[zgj] at hc ⊢;(refine Gw0 ?_;intros);refine zx [(0,0,0),(1,1,0)] 2 _ (hc) rfl rfl (Gin1_2 @ug @visF.eq_1) (Gin1_2 @ug @visF.eq_1) ?_;rintro r H' nx' ⟨g2,rfl,rfl,rfl⟩;(refine Gw1 @ug ?_;intros);exact⟨(i+1,g2),by simp only;omega,by simp only;omega,(Ent.tabB [(0,0,0),(1,1,0)] [] rfl rfl rfl (Gin1_1 @ug) (Gin1_1 @ug))⟩
 ·
  have hi':l.length≤i:=by omega
  (refine Gw1 @zp7.eq_1 ?_;intros);refine⟨.tup [],visH (xs++(zmU op v++zds l)) gi,2,?_,gi,rfl,rfl,rfl⟩;rw[Wx hi'];exact(Ent.tabB [(0,0,0),(1,1,0)] [] rfl rfl rfl (Gin1_1 @ug) (Gin1_1 @ug))
theorem zsu{l:List Int}(hs:l.Pairwise (·≤·)):∀n,n≤l.length→Asc (zZ l n)∧∀x,x∈zZ l n↔∃j,∃h:j < l.length,j < n∧l[j]=x
 |
  0,_=>by
  refine⟨List.Pairwise.nil,fun x=>⟨fun h=>?_,fun⟨j,_,h,_⟩=>absurd h (Nat.not_lt_zero _)⟩⟩;have:zZ l 0=[]:=rfl;rw[this] at h;cases h
 |
  n+1,hn=>by
  obtain⟨h1,h2⟩:=zsu hs n (by omega);have hp:=List.pairwise_iff_getElem.1 hs
  cases hk:zfd l n with
  |
   true =>
   rw[zmk (by omega) hk];refine⟨List.pairwise_append.2 ⟨h1,List.pairwise_singleton _ _,fun a ha b hb=>?_⟩,fun x=>?_⟩
   ·
    obtain⟨j,hj,hjn,rfl⟩:=(h2 a).1 ha;rw[WG] at hb;subst hb
    have hne:l[n]≠l[n - 1]:=by
     have:=zfg (l:=l) (j:=n) (by omega) (by omega);rw[hk] at this
     simpa using this.symm
    have a1:=hp (n - 1) n (by omega) (by omega) (by omega)
    rcases Wn j (n - 1) with h3|h3
    · have:=hp j (n - 1) hj (by omega) h3;omega
    ·
     obtain rfl:j=n - 1:=by omega
     omega
   ·
    rw[List.mem_append,WG,h2];constructor
    ·
     rintro(⟨j,hj,hjn,rfl⟩|rfl)
     · exact⟨j,hj,by omega,rfl⟩
     · exact⟨n,by omega,by omega,rfl⟩
    ·
     rintro⟨j,hj,hjn,rfl⟩
     rcases Wn j n with h3|h3
     · exact .inl ⟨j,hj,h3,rfl⟩
     ·
      obtain rfl:j=n:=by omega
      exact .inr rfl
  |
   false =>
   rw[zlU hk];refine⟨h1,fun x=>?_⟩;rw[h2];constructor
   · rintro⟨j,hj,hjn,rfl⟩;exact⟨j,hj,by omega,rfl⟩
   ·
    rintro⟨j,hj,hjn,rfl⟩
    rcases Wn j n with h3|h3
    · exact⟨j,hj,h3,rfl⟩
    ·
     obtain rfl:j=n:=by omega
     have h0:1≤j:=by
      rcases Nat.eq_zero_or_pos j with rfl|h
      · cases hk
      · exact h
     have:=zfg (l:=l) (j:=j) h0 hj;rw[hk] at this
     have he:l[j]=l[j - 1]:=by simpa using this.symm
     exact⟨j - 1,by omega,by omega,he.symm⟩
theorem zpr(l m:List Int)(hm:Asc m)(h:∀x,x∈m↔x∈l):za8 (zeF l)=m:=by
 obtain⟨h1,h2⟩:=zsu (zfD l) (zeF l).length (Wo _)
 refine zvr h1 hm fun x=>?_
 rw[h,←(zcM l).mem_iff];show x∈zZ _ _↔_;rw[h2,List.mem_iff_getElem];exact⟨fun⟨j,hj,_,e⟩=>⟨j,hj,e⟩,fun⟨j,hj,e⟩=>⟨j,hj,hj,e⟩⟩
theorem zyy(e:Ex)(hk:zfH e≤100000):zz Tryz.prog zq6 [.agg (encX e)] (·=za (zhi e)):=by
 refine fn_x zyC rfl ?_;unfold zsd;have hB:=hBig;have hc:=zsG (zfH e) e [] 0 (Wo _) (by simp only[Wc];omega);have hl:=zxe e
 have hcs:=zpr (occX e) (zhi e) (zAa e) fun x=>zki e
 rw[List.nil_append] at hc;generalize occX e=xs at hc hl hcs;generalize zhi e=vs at hcs ⊢;obtain⟨op,n,v,w,l⟩:=e;simp only[zgj] at hc ⊢;(refine Gw0 ?_;intros);refine zx [(0,1,0)] 2 _ (hc) rfl rfl (Gin1_2 @ug @visF.eq_1) (Gin1_2 @ug @visF.eq_1) ?_;rintro r H' nx' ⟨g',rfl,rfl,rfl⟩;(refine Gw1 @ug ?_;intros);refine zsn (ztV (zs:=xs) rfl (by omega)) ?_;rintro _ _ _ hres;simp only[Prod.mk.injEq] at hres;obtain⟨rfl,rfl,rfl⟩:=hres;have hsl:(zeF xs).length=xs.length:=(zcM xs).length_eq;have hcl:=zsq (l:=zeF xs) (n:=(zeF xs).length);rw[←hsl];generalize zeF xs=ss at hcs hsl hcl ⊢;(refine Gw0 ?_;intros);refine zx [(0,3,0)] 1 _ (zsT ss g' (by omega)) rfl rfl Gin1_0 Gin1_0 ?_;rintro _ _ _ ⟨m,rfl,rfl,rfl⟩;have hcl2:(za8 ss).length≤ss.length:=hcl;rw[hcs] at hcl2 ⊢;(refine Gw1 @zsa.eq_1 ?_;intros);refine⟨_,?_,rfl⟩;exact zs8 (m:=m) trivial rfl (by omega)
theorem zzO{c:Int}{ps:List (Int × Int)}(h:SetS c ps){m:List Int}(hm:Asc m)(he:∀x,x∈m↔x∈ps.map (·.1)):zeF (ps.map (·.1))=m:=by
 refine zvr ?_ hm fun x=>?_
 · have h1:=zfD (ps.map (·.1));have h2:(zeF (ps.map (·.1))).Nodup:=(zcM _).nodup_iff.2 h.keys;refine List.Pairwise.imp₂ (fun a b hle hne=>?_) h1 h2;omega
 · rw[he,(zcM _).mem_iff]
theorem renM{ρ:Nat→Nat}{l:List MC}{g:Nat}:AObj.ren ρ (.row 3 (l.map cm) g)=.row 3 (l.map cm) g:=by simp only[AObj.ren];rw[zh2 (zD zhj)]
theorem renF{ρ:Nat→Nat}{n:Nat}{S:Nat→MS}:AObj.ren ρ (famS n S)=famS n S:=by
 unfold famS fi;simp only[AObj.ren,Wy]
 congr 1
 refine WH fun i _=>?_
 show (List.map _ _,_)=_;rw[zh2 (zD zhj)]
theorem renE{ρ:Nat→Nat}{l:List Int}:AV.ren ρ (za l)=za l:=znS rfl
def zj6(s:MS)(l:List Ex):MS:=l.foldl (fun a x=>addL a (zhi x)) s
theorem zxY{s:MS}{l:List Ex}{i:Nat}(h:i < l.length):zj6 s (l.take (i+1))=addL (zj6 s (l.take i)) (zhi l[i]):=by unfold zj6;rw[Wm,Wi h,List.foldl_append];rfl
theorem zt4{y:Int}:∀{l:List Ex}{s:MS},y∈(zj6 s l).keys↔y∈s.keys∨y∈zds l
 | [],s=>by rw[zds];simp[zj6]
 |
  x::l,s=>by
  show y∈(zj6 (addL s (zhi x)) l).keys↔_;rw[zt4,zji,zki,zds,List.mem_append,or_assoc]
theorem zxH:∀{l:List Ex}{s:MS},s.ok→s.1+z7 l≤1000000→s.2.length+z7 l≤1000000→(zj6 s l).ok∧(zj6 s l).1≤s.1+z7 l∧(zj6 s l).2.length≤s.2.length+z7 l
 |
  [],s,h,_,_=>by
  rw[z7];exact⟨h,by show s.1≤_;omega,by show s.2.length≤_;omega⟩
 |
  x::l,s,h,h1,h2=>by
  rw[z7] at h1 h2 ⊢;have hb:=zdN (l:=zhi x) (s:=s);have hv:=znN x;have h3:=zkE (l:=zhi x) h (by omega) (by omega);obtain⟨h4,h5,h6⟩:=zxH (l:=l) h3 (by omega) (by omega);exact⟨h4,by show (zj6 (addL s (zhi x)) l).1≤_;omega,by show (zj6 (addL s (zhi x)) l).2.length≤_;omega⟩
theorem zti:MS.ok (0,[]):=⟨List.nodup_nil,List.nodup_nil,(fun _ h=>nomatch h),by simp,by simp⟩
theorem zqA{l:List Ex}{i:Nat}:z7 (l.take i)≤z7 l:=by
 have:z7 l=z7 (l.take i)+z7 (l.drop i):=by rw[←zh7,Ww]
 omega
theorem zpD(s:St)(hs:z7 s.e≤100000):zz Tryz.prog zi2 [.agg s.cells] (·=za (ziV s)):=by
 refine fn_x zpP rfl ?_
 unfold zll;conv in dcC _ _=>cbv
 have hB:=hBig;obtain⟨op,var,width,next,els,tgt,l,cs⟩:=s;simp only at hs;have hasc:=zy7 ⟨op,var,width,next,els,tgt,l,cs⟩
 have hmem:∀x,x∈ziV ⟨op,var,width,next,els,tgt,l,cs⟩↔x∈(zj6 (0,[]) l).2.map (·.1):=fun x=>by show x∈zri [] l↔x∈(zj6 (0,[]) l).keys;rw[znV,zt4];simp[MS.keys]
 have hok:=fun i=>zxH (l:=l.take i) (s:=(0,[])) zti (by have:=zqA (l:=l) (i:=i);simp only;omega) (by have:=zqA (l:=l) (i:=i);simp only[Wc];omega)
 generalize ziV ⟨op,var,width,next,els,tgt,l,cs⟩=R at hasc hmem ⊢;(refine Gw3 @ub @uc @ua ?_;intros)
 refine zd (fun i:Nat=>([(3,.mp 0 0),(8,encL 5 encX l),(9,.int .i64 l.length),(10,.int .i64 i)],[(0,.row 3 ((setM (zj6 (0,[]) (l.take i)).1 (zj6 (0,[]) (l.take i)).2).map cm) 0)])) 1
  (fun i=>i≤l.length) (fun i=>l.length - i) 0 (Wr _) (by rw[Wq,show zj6 (0,[]) []=(0,[]) from rfl];exact(Ent.tab [(0,1,0)] [] rfl (Gin6_1 @ze) (Gin6_1 @ze))) ?_
 rintro i hi wf
 unfold zif;conv in dcC _ _=>cbv
 by_cases hil:i < l.length
 ·
  have hsd:=zqP hil
  have hst:z7 l=z7 (l.take i)+z7 (l.drop i):=by rw[←zh7,Ww]
  obtain⟨h1,h2,h3⟩:=hok i;have hvl:=znN l[i];have htk:=zxY (s:=(0,[])) hil
  (repeat first|simp(disch:=try exact dis1) only[evD,Nat.reduceBEq,Nat.reduceAdd,Nat.reduceLeDiff,fldP,dT,zn hil,zdw,zcs,ze]|with_reducible first|intro _|refine aJ ?_)
  refine zi (zf (zyy l[i] (by omega)) (flX rfl)) ?_;generalize zhi l[i]=u at hvl htk ⊢;generalize zj6 (0,[]) (l.take i)=a at h1 h2 h3 htk ⊢;simp only[Wc,Nat.zero_add,Int.zero_add] at h2 h3;(refine Gw0 ?_;intros);refine zx [(0,0,0)] 1 _ (zx1 a u h1 (by omega) (by omega)) rfl rfl (Gin6_1 @ze) (Gin6_1 @ze) ?_;rintro _ _ _ ⟨rfl,rfl,rfl⟩;(refine Gw1 @renM ?_;intros);exact⟨i+1,by omega,by omega,(Ent.tab [(0,0,0)] [] rfl (Gin6_2 @ze htk) (Gin6_2 @ze htk))⟩
 ·
  (refine Qd ?_;intros)
  unfold ziU;conv in dcC _ _=>cbv
  obtain⟨h1,h2,h3⟩:=hok l.length;have hso:=zzO (c:=(zj6 (0,[]) l).1) (ps:=(zj6 (0,[]) l).2) (by rw[We] at h1;exact h1) hasc hmem;rw[We] at h1 h2 h3;rw[Wx (by omega)];generalize zj6 (0,[]) l=a at h1 h2 h3 hso ⊢;(refine Gw1 @ze ?_;intros);refine zx [(0,0,0)] 1 _ (zvJ a.1 a.2 h1) rfl rfl (Gin6_1 @ze) (Gin6_1 @ze) ?_;rintro _ _ _ ⟨rfl,rfl,rfl⟩;rw[hso];(refine Gw3 @renM @renE @zla.eq_1 ?_;intros);exact⟨_,zai rfl,rfl⟩
def tgS(l:List St):List Int:=(l.filter fun s=>decide (s.op=5)).map (·.tgt)
def tgB(l:List Bl):List Int:=l.flatMap fun b=>tgS b.stmts
theorem zzW{l:List St}:(tgS l).length≤l.length:=by unfold tgS;rw[Wp];exact List.length_filter_le _ _
theorem zEg{l:List St}{k:Nat}(hk:k < l.length)(h:l[k].op=5):tgS (l.take (k+1))=tgS (l.take k)++[l[k].tgt]:=by unfold tgS;rw[Wm,Wi hk,WI];simp[h]
theorem tgS_no{l:List St}{k:Nat}(hk:k < l.length)(h:¬l[k].op=5):tgS (l.take (k+1))=tgS (l.take k):=by unfold tgS;rw[Wm,Wi hk,WI];simp[h]
theorem zCQ{l:List Bl}{i:Nat}(hi:i < l.length):tgB (l.take (i+1))=tgB (l.take i)++tgS l[i].stmts:=by unfold tgB;rw[Wm,Wi hi,WJ];simp
theorem zwx:∀{l:List Bl}{n:Nat},(∀b∈l,b.stmts.length≤n)→(tgB l).length≤l.length * n
 | [],_,_=>by simp[tgB]
 |
  b::l,n,h=>by
  have ih:=zwx (l:=l) (n:=n) fun x hx=>h x (List.mem_cons_of_mem _ hx)
  have h1:=zzW (l:=b.stmts);have h2:=h b (by simp);unfold tgB at ih ⊢;rw[WK,Wf,Wd,Nat.succ_mul];omega
theorem zD9{ρ:Nat→Nat}{l:List Int}{g:Nat}:AObj.ren ρ (.row 1 (l.map cW) g)=.row 1 (l.map cW) g:=by simp only[AObj.ren];rw[zh2 (zD fun _=>rfl)]
theorem Qn{p:Prop}(h:p:=by(try simp only[evWB,Nat.reduceBEq,Nat.reduceAdd,Nat.reduceSub,Nat.reduceLeDiff,Nat.reduceLT,implies_true,List.take_zero,tgB,List.flatMap_nil])<;>exact fin2):p:=h
theorem Qo{p:Prop}(h:p:=by(try simp only[evWB,Nat.reduceBEq,Nat.reduceAdd,Nat.reduceSub,Nat.reduceLeDiff,Nat.reduceLT,implies_true,List.take_zero,tgS,List.filter_nil,List.map_nil,List.append_nil])<;>exact fin2):p:=h
theorem zkm(g:G)(hb:(tgB g.blocks).length≤250)(hbl:g.blocks.length≤1000)(hst:∀b∈g.blocks,b.stmts.length≤1000):
  zz Tryz.prog zfm [.agg g.cells] (·=encL 1 cW (za8 (zeF (tgB g.blocks)))):=by
 refine fn_x zoX rfl ?_
 unfold zka;conv in dcC _ _=>cbv
 have hB:=hBig;obtain⟨ad,bl⟩:=g;simp only at hb hbl hst;unfold G.cells;simp only;(refine Gw2 @ub @zP ?_;intros);refine zd (fun i:Nat=>([(3,.own 0 0 0 0 (tgB (bl.take i)).length),(9,encL 2 Bl.cells bl),(10,.int .i64 bl.length),(11,.int .i64 i)],[(0,.row 1 ((tgB (bl.take i)).map cW) 0)])) 1 (fun i=>i≤bl.length) (fun i=>bl.length - i) 0 (Wr _) (Ent.tab [(0,1,0)] [] rfl Qn Qn) ?_;rintro i hi wf
 unfold zhs;conv in dcC _ _=>cbv
 by_cases hil:i < bl.length
 ·
  have hg:(bl.map Bl.cells).getD i []=[.int .u32 bl[i].addr,encL 8 St.cells bl[i].stmts]:=zn hil;have hsl:=hst _ (Wj hil);have hstep:=zCQ hil
  have hle:(tgB (bl.take i)).length≤250000+1000000:=by
   have:=zwx (l:=bl.take i) (n:=1000) fun b hb=>hst b (List.mem_of_mem_take hb)
   rw[Wt] at this;have:min i bl.length * 1000≤1000 * 1000:=Nat.mul_le_mul_right _ (by omega);omega
  (refine Gw5 @ub @zP @dT @dF hg ?_;intros);refine zd (fun k:Nat=>([(3,.own 0 0 0 0 (tgB (bl.take i)++tgS (bl[i].stmts.take k)).length),(9,encL 2 Bl.cells bl),(10,.int .i64 bl.length),(11,.int .i64 i),(16,encL 8 St.cells bl[i].stmts),(17,.int .i64 bl[i].stmts.length),(18,.int .i64 k)],[(0,.row 1 ((tgB (bl.take i)++tgS (bl[i].stmts.take k)).map cW) 0)])) 1 (fun k=>k≤bl[i].stmts.length) (fun k=>bl[i].stmts.length - k) 0 (Wr _) (Ent.tab [(0,0,0)] [] rfl Qo Qo) ?_;rintro k hk wf2
  unfold zhF;conv in dcC _ _=>cbv
  by_cases hkl:k < bl[i].stmts.length
  ·
   have hg2:(bl[i].stmts.map St.cells).getD k []=[.int .i64 bl[i].stmts[k].op,.int .i64 bl[i].stmts[k].var,.int .i64 bl[i].stmts[k].width,.int .i64 bl[i].stmts[k].next,.int .i64 bl[i].stmts[k].els,.int .u32 bl[i].stmts[k].tgt,encL 5 encX bl[i].stmts[k].e,za bl[i].stmts[k].cases]:=zn (f:=St.cells) (d:=[]) hkl
   have hle2:(tgS (bl[i].stmts.take k)).length≤1000:=by have:=zzW (l:=bl[i].stmts.take k);rw[Wt] at this;omega
   by_cases h5:bl[i].stmts[k].op=5
   · have hy:=zEg hkl h5;have htk:((tgB (bl.take i)++tgS (bl[i].stmts.take k)).map cW).take ((tgB (bl.take i)).length+(tgS (bl[i].stmts.take k)).length)=(tgB (bl.take i)++tgS (bl[i].stmts.take k)).map cW:=Wx (by simp);(refine Gw8 @ub @zP @dT @dF hg2 htk @m9M @m9A ?_;intros);exact⟨k+1,by omega,by omega,(Ent.tab [(0,0,1)] [] rfl (by(try simp only[evWB,Nat.reduceBEq,Nat.reduceAdd,Nat.reduceSub,Nat.reduceLeDiff,Nat.reduceLT,implies_true,hy,Wf,Wl,Wu,Ws,Wz,Wv,Nat.add_assoc,cW])<;>exact fin2) (by(try simp only[evWB,Nat.reduceBEq,Nat.reduceAdd,Nat.reduceSub,Nat.reduceLeDiff,Nat.reduceLT,implies_true,hy,Wf,Wl,Wu,Ws,Wz,Wv,Nat.add_assoc,cW])<;>exact fin2))⟩
   · have hy:=tgS_no hkl h5;(refine Gw5 @ub @zP @dT @dF hg2 ?_;intros);exact⟨k+1,by omega,by omega,(Ent.tab [(0,0,0)] [] rfl (Gin2_1 hy) (Gin2_1 hy))⟩
  ·
   obtain rfl:k=bl[i].stmts.length:=by omega
   (refine Qd ?_;intros)
   unfold zhT;conv in dcC _ _=>cbv
   (refine Qd ?_;intros);exact⟨i+1,by omega,by omega,(Ent.tab [(0,0,0)] [] rfl (by(try simp only[evWB,Nat.reduceBEq,Nat.reduceAdd,Nat.reduceSub,Nat.reduceLeDiff,Nat.reduceLT,implies_true,hstep,We])<;>exact fin2) (by(try simp only[evWB,Nat.reduceBEq,Nat.reduceAdd,Nat.reduceSub,Nat.reduceLeDiff,Nat.reduceLT,implies_true,hstep,We])<;>exact fin2))⟩
 ·
  obtain rfl:i=bl.length:=by omega
  rw[We];(refine Qd ?_;intros)
  unfold zhH;conv in dcC _ _=>cbv
  have hs:=zDx (tgB bl) 0 hb;(refine Qd ?_;intros);refine zx [(0,0,0)] 1 _ (hs) rfl rfl fin9 fin9 ?_;rintro v H nx ⟨rfl,rfl,rfl⟩;have hlen:(zeF (tgB bl)).length=(tgB bl).length:=(zcM _).length_eq;have hc:=ztq (zeF (tgB bl)) 0 (by omega);rw[hlen] at hc;(refine Gw1 @zD9 ?_;intros);refine zx [(0,0,0)] 1 _ (hc) rfl rfl fin9 fin9 ?_;rintro v H nx ⟨m,rfl,rfl,rfl⟩;have hcl:(za8 (zeF (tgB bl))).length≤(zeF (tgB bl)).length:=zsq;(refine Gw2 @zD9 @zjU.eq_1 ?_;intros);exact⟨_,zBT trivial rfl (by omega),rfl⟩
def St.toS(s:St):Stm:=⟨s.op,s.var,s.width,s.next,s.els,s.tgt,encL 5 encX s.e,s.cases⟩
def Bl.toB(b:Bl):Blk:=⟨b.addr,b.stmts.map St.toS⟩
def G.toG(g:G):Gr:=⟨g.addr,g.blocks.map Bl.toB⟩
theorem zxl{α β:Type}{n:Nat}{f:β→List AV}{h:α→β}{l:List α}:encL n f (l.map h)=encL n (fun x=>f (h x)) l:=by unfold encL;rw[Wp,Wy];rfl
theorem St.toS_cells(s:St):s.toS.cells=s.cells:=rfl
theorem Bl.toB_cells(b:Bl):b.toB.cells=b.cells:=by unfold Bl.toB Blk.cells Bl.cells;simp only[zxl,St.toS_cells]
theorem G.toG_cells(g:G):g.toG.cells=g.cells:=by unfold G.toG Gr.cells G.cells;simp only[zxl,Bl.toB_cells]
theorem Bl.toB_targets(b:Bl):b.toB.targets=zav b.stmts:=by
 unfold Blk.targets zav Bl.toB;simp only[List.getLast?_map]
 cases b.stmts.getLast? <;> rfl
structure fewC(g:G):Prop where
 blocks:g.blocks.length≤8
 stmts:∀b∈g.blocks,b.stmts.length≤10
 cases:∀b∈g.blocks,∀s∈b.stmts,s.cases.length≤8
 size:∀b∈g.blocks,∀s∈b.stmts,z7 s.e≤300
 exprs:∀b∈g.blocks,∀s∈b.stmts,s.e.length≤3
theorem zlI{l:List St}{n:Nat}(hn:2≤n)(h:∀s∈l,s.cases.length≤n):(zav l).length≤n:=by
 unfold zav
 cases hl:l.getLast? with
 | none=>simp
 |
  some s =>
  have:=h s (List.mem_of_getLast? hl);simp only[zpV];split
  · simp only[Wl];omega
  ·
   split
   · simp only[Wd,Wc];omega
   ·
    split
    · exact this
    · simp
theorem zyz{g:G}(h:fewC g):g.toG.small:=by refine⟨by have:=h.blocks;simp[G.toG];omega,fun b hb=>?_⟩;obtain⟨b',h3,rfl⟩:=List.mem_map.1 hb;rw[Bl.toB_targets];exact WA (zlI (by decide) (h.cases b' h3)) (by decide:8≤1000)
theorem zsh{g:G}(h:fewC g):manyB g:=⟨WA h.blocks (by decide),fun b hb=>WA (h.stmts b hb) (by decide)⟩
def blkG(g:G)(b:Nat):Bl:=g.blocks.getD b ⟨0,[]⟩
structure OkG(g:G):Prop where
 pos:0 < g.blocks.length
 ends:∀b∈g.blocks,b.stmts.length≠0
 tgt:∀b∈g.blocks,∀t∈zav b.stmts,0≤t∧t < g.blocks.length
def edgB(g:G)(b:Nat):List Nat:=(zav (blkG g b).stmts).map Int.toNat
theorem zkM{g:G}{b:Nat}(hb:b < g.blocks.length):blkG g b=g.blocks[b]:=by simp[blkG,hb]
theorem zvO{g:G}(hg:OkG g){b:Nat}(hb:b < g.blocks.length):∀t∈edgB g b,t < g.blocks.length:=fun t ht=>by obtain⟨x,hx,rfl⟩:=List.mem_map.1 ht;rw[zkM hb] at hx;have:=hg.tgt _ (Wj hb) x hx;omega
theorem zwL{g:G}(hg:OkG g){b:Nat}(hb:b < g.blocks.length):zav g.blocks[b].stmts=(edgB g b).map (fun(n:Nat)=>(n:Int)):=by unfold edgB;rw[zkM hb,Wy];refine(List.map_id _).symm.trans (WH fun x hx=>?_);have:=hg.tgt _ (Wj hb) x hx;simp only[Function.comp,id];omega
structure Sgn where
 args:List Int
 res:List Int
 sav:List Int
def Sgn.cells(s:Sgn):List AV:=[za s.args,za s.res,za s.sav]
def zbF:Sgn:=⟨[],[],[]⟩
def idxA(at':List Int)(a:Int):Option Nat:=at'.findIdx? fun x=>decide (x=a)
def zbc(l:List Sgn)(at':List Int)(a:Int):Sgn:=match idxA at' a with
 | some k=>l.getD k zbF
 | none=>zbF
end Go.Ab
namespace Go.Ab
open Go.RowKit Go.Proofs Go.Proofs.YtihlaappclhhaaaGreat Go.ChangeShapes Go.WideShapes
section
variable {HH:Type} {enc:TypeId × Value→HH} {w:World} {base:Nat} {spare:Nat→Bool} {held:Bool} {L:Nat→Prop} (hL:∀b,¬L b)
include hL
theorem zB4{fuel:Nat}{cs:List Value}{y:DataW HH × List MemPlace}(h:DataW.trod enc Tryz.prog w base spare held fuel 55 cs=some y):∃s:Sgn,cs.length=3∧ElOk w L cs s.cells∧∀j,j < 3→∀ι,VR w L ι (cs.getD j undef) (s.cells.getD j .undef):=by
 have hc3:Tryz.prog.cellsOf 3=1:=by kernel_rfl
 obtain⟨xs,n,rfl,rfl,hlen,hxs,hf⟩:=DataW.trod_struct Tryz.underlying55 h
 have hc:Tryz.prog.cellsOf 55=3:=by kernel_rfl
 have hc35:Tryz.prog.cellsOf 35=1:=by kernel_rfl
 rw[hc] at hlen
 have hget:∀i,i < 3→xs[i]? = some (xs.getD i (.nil,[])):=fun i hi=>by rw[Wk,Wi (by rw[hxs];exact hi)];rfl
 match cs,hlen with
 |
  [c0,c1,c2],_ =>
  have f0:DataW.trod enc Tryz.prog w base spare held n 35 (([c0,c1,c2].drop 0).take (Tryz.prog.cellsOf 35))=some (xs.getD 0 (.nil,[])):=(hf 0 _ rfl).trans (hget 0 (by decide));rw[hc35] at f0;replace f0:DataW.trod enc Tryz.prog w base spare held n 35 [c0]=some (xs.getD 0 (.nil,[])):=f0;have f1:DataW.trod enc Tryz.prog w base spare held n 35 (([c0,c1,c2].drop 1).take (Tryz.prog.cellsOf 35))=some (xs.getD 1 (.nil,[])):=(hf 1 _ rfl).trans (hget 1 (by decide));rw[hc35] at f1;replace f1:DataW.trod enc Tryz.prog w base spare held n 35 [c1]=some (xs.getD 1 (.nil,[])):=f1;have f2:DataW.trod enc Tryz.prog w base spare held n 35 (([c0,c1,c2].drop 2).take (Tryz.prog.cellsOf 35))=some (xs.getD 2 (.nil,[])):=(hf 2 _ rfl).trans (hget 2 (by decide));rw[hc35] at f2;replace f2:DataW.trod enc Tryz.prog w base spare held n 35 [c2]=some (xs.getD 2 (.nil,[])):=f2;obtain⟨l0,v0,h0,o0,w0⟩:=zwm Tryz.underlying35 Tryz.underlying3 hc3 hL f0;obtain⟨l1,v1,h1,o1,w1⟩:=zwm Tryz.underlying35 Tryz.underlying3 hc3 hL f1;obtain⟨l2,v2,h2,o2,w2⟩:=zwm Tryz.underlying35 Tryz.underlying3 hc3 hL f2;cases h0;cases h1;cases h2;refine⟨⟨l0,l1,l2⟩,rfl,fun j hj=>?_,fun j hj ι=>?_⟩
  ·
   match j with
   | 0=>exact⟨w0 _,o0⟩
   | 1=>exact⟨w1 _,o1⟩
   | 2=>exact⟨w2 _,o2⟩
   | j+3=>exact absurd hj (by simp)
  ·
   match j with
   | 0=>exact w0 _
   | 1=>exact w1 _
   | 2=>exact w2 _
   | j+3=>omega
theorem open_sig{v:Value}{d:DataW HH}{ps:List MemPlace}(hv:Value.okWide Tryz.prog w .any base 55 v){b2:Nat}(h:DataW.Trod enc Tryz.prog w b2 spare held 55 v d ps):∃s:Sgn,True∧∀ι,VR w L ι v (.agg s.cells):=by
 obtain⟨fuel,hf⟩:=h;unfold Value.okWide at hv;rw[Tryz.underlying55] at hv;simp only at hv;obtain⟨cs,rfl,_,_⟩:=hv;have hf':DataW.trod enc Tryz.prog w b2 spare held fuel 55 cs.toList=some (d,ps):=hf;obtain⟨g,h1,h2,h3⟩:=zB4 hL hf'
 refine⟨g,trivial,fun ι=>.agg ι cs _ (by
  have:cs.size=3:=by simpa using h1
  rw[this];rfl) (fun i v hi=>?_) (fun i v a hi ha=>?_)⟩
 ·
  have hi2:i < cs.size:=by
   rcases Wn i cs.size with h|h
   · exact h
   · rw[WL h] at hi;cases hi
  have:=(h2 i (by simpa using hi2)).2;rw[Wk,WM,hi] at this;exact this
 ·
  have hi2:i < cs.size:=by
   rcases Wn i cs.size with h|h
   · exact h
   · rw[WL h] at hi;cases hi
  have hi3:i < 3:=by rw[←h1];simpa using hi2
  have:=h3 i hi3 ι;rw[Wk,WM,hi,Wk,ha] at this;exact this
omit hL
include hL
end
end Go.Ab
namespace Go.Ab
open Go.RowKit Go.Proofs
def idxV(o:Option Nat):Int:=match o with
 | some k=>k
 | none => -1
def usesV(l:List Sgn)(at':List Int)(ex:Bool)(s:St)(v:Int):Bool :=
 (s.e.any fun e=>decide (v∈zhi e))||(if s.op=5 then decide (v < 12)&&decide (v∈(zbc l at' s.tgt).args) else decide (s.op=9)&&ex&&decide (v < 12))
def zvX(l:List Sgn)(at':List Int)(ex:Bool)(v:Int)(s:St)(b:Bool):Bool:=(if (s.op=1∨s.op=3)∧s.var=v then false else b)||usesV l at' ex s v
def befV(l:List Sgn)(at':List Int)(ex:Bool)(v:Int)(ss:List St)(b:Bool):Bool:=ss.foldr (zvX l at' ex v) b
def outV(g:G)(o:List Bool)(b:Nat):Bool:=(edgB g b).any fun t=>o.getD t false
def znx(g:G)(l:List Sgn)(at':List Int)(ex:Bool)(v:Int)(o:List Bool)(b:Nat):Bool:=befV l at' ex v (blkG g b).stmts (outV g o b)
theorem zsS{g:G}(hf:fewC g){b:Nat}(hb:b < g.blocks.length):(edgB g b).length≤8:=by unfold edgB;rw[Wp,zkM hb];exact zlI (by decide) (hf.cases _ (Wj hb))
structure Kw where
 st:Int
 base:Int
 n:Int
deriving DecidableEq
def Kw.cells(k:Kw):List AV:=[.int .i64 k.st,.int .i64 k.base,.int .u32 k.n]
def Kw.z:Kw:=⟨0,0,0⟩
def Kw.no:Kw:=⟨2,0,0⟩
def encR(rs:List Kw):List AV:=rs.flatMap Kw.cells
theorem zb4:∀rs:List Kw,(encR rs).length=3 * rs.length
 | []=>rfl
 |
  r::rs=>by
  have:=zb4 rs;unfold encR at this ⊢;rw[WK,Wf,Wd,this];simp only[Kw.cells,Wd,Wc];omega
theorem zgv(r:Kw)(rs:List Kw):encR (r::rs)=.int .i64 r.st::.int .i64 r.base::.int .u32 r.n::encR rs:=rfl
theorem zqp:∀{rs:List Kw}{k:Nat},(encR rs).drop (k * 3)=encR (rs.drop k)
 | [],k=>by simp[encR]
 | r::rs,0=>rfl
 |
  r::rs,k+1=>by
  rw[zgv,show (k+1) * 3=k * 3+1+1+1 by omega];simp only[List.drop_succ_cons];exact zqp
theorem zum:∀{rs:List Kw}{k:Nat},(encR rs).take (k * 3)=encR (rs.take k)
 | [],k=>by simp[encR]
 | r::rs,0=>rfl
 |
  r::rs,k+1=>by
  rw[zgv,show (k+1) * 3=k * 3+1+1+1 by omega];simp only[List.take_succ_cons,zgv];rw[zum]
theorem zvE(a b:List Kw):encR (a++b)=encR a++encR b:=WJ
theorem zvD{rs:List Kw}{k:Nat}(h:k < rs.length):(encR rs).drop (k * 3)=.int .i64 (rs.getD k Kw.z).st::.int .i64 (rs.getD k Kw.z).base::.int .u32 (rs.getD k Kw.z).n::encR (rs.drop (k+1)):=by rw[zqp,WE h,zgv];simp[Wa,h]
theorem zmh{rs:List Kw}{k:Nat}(h:k < rs.length):sub (encR rs) (k * 3) 3=(rs.getD k Kw.z).cells:=by unfold sub;rw[zvD h];rfl
theorem zor{rs:List Kw}{k j:Nat}(h:k < rs.length)(hj:j < 3):(encR rs).getD (k * 3+j) .undef=(rs.getD k Kw.z).cells.getD j .undef:=by
 have e:(encR rs).getD (k * 3+j) .undef=((encR rs).drop (k * 3)).getD j .undef:=by simp only[Wa,List.getElem?_drop]
 rw[e,zvD h]
 match j,hj with
 | 0,_=>rfl
 | 1,_=>rfl
 | 2,_=>rfl
theorem zgL{rs:List Kw}{k:Nat}(h:k < rs.length)(c:Kw):splice (encR rs) (k * 3) c.cells=encR (rs.set k c):=by unfold splice;rw[show k * 3+c.cells.length=(k+1) * 3 by simp only[Kw.cells,Wd,Wc];omega,zum,zqp,List.set_eq_take_append_cons_drop,if_pos h,zvE,zgv];simp[Kw.cells]
theorem ztY{rs:List Kw}{k:Nat}(h:k < rs.length)(n:Int):splice (encR rs) (k * 3+2) [.int .u32 n]=encR (rs.set k { rs.getD k Kw.z with n:=n }):=by
 have hs:=zgL h { rs.getD k Kw.z with n:=n };rw[←hs];unfold splice;simp only[Wd,Wc,Kw.cells]
 have e1:(encR rs).take (k * 3+2)=(encR rs).take (k * 3)++[.int .i64 (rs.getD k Kw.z).st,.int .i64 (rs.getD k Kw.z).base]:=by rw[List.take_add,zvD h];rfl
 rw[e1];simp
theorem zc:∀rs:List Kw,zH (encR rs)=true
 | []=>rfl
 | r::rs=>by rw[zgv];simp only[zH,AV.flat0,Bool.true_and];exact zc rs
theorem zoq:∀rs:List Kw,(encR rs).all AV.flat0=true
 | []=>rfl
 | r::rs=>by rw[zgv];simp only[List.all_cons,AV.flat0,Bool.true_and];exact zoq rs
theorem zg4{len sz r q g j f:Nat}{kk:IntKind}{k:Int}{H:AH}{nx:Nat}:xopR (.aaddr len sz) [.ptr r q g j f,.int kk k] H nx=⟨0≤k∧k < len,True,.ptr r q g j (f+k.toNat * sz),H,nx⟩:=rfl
theorem vw_R{H H2:AH}{σ:Nat→Nat→Option (Nat × Nat × Nat)}{D:Nat→Nat→Prop}{t:Bool}{rs:List Kw}:Vw H H2 σ D t (.agg (encR rs)) (.agg (encR rs)):=zai (by simp only[AV.flat,zoq])
def zjI(f:Nat→Kw→Kw)(l:List Nat)(rs:List Kw):List Kw:=l.foldl (fun rs k=>rs.set k (f k (rs.getD k Kw.z))) rs
theorem zl8{f:Nat→Kw→Kw}:∀{l:List Nat}{rs:List Kw},(zjI f l rs).length=rs.length
 | [],rs=>rfl
 |
  k::l,rs=>by
  show (zjI f l (rs.set k _)).length=_;rw[zl8,WB]
abbrev R8:List Nat:=[0,1,2,3,4,5,6,7]
theorem zos{f:Nat→Kw→Kw}{k:Nat}(h:k < 8){rs:List Kw}:zjI f (R8.drop k) rs=zjI f (R8.drop (k+1)) (rs.set k (f k (rs.getD k Kw.z))):=by
 match k,h with
 | 0,_=>rfl
 | 1,_=>rfl
 | 2,_=>rfl
 | 3,_=>rfl
 | 4,_=>rfl
 | 5,_=>rfl
 | 6,_=>rfl
 | 7,_=>rfl
def z8:List Kw:=Wh 8 Kw.z
def ownR:List Kw:=[⟨1,0,0⟩,⟨1,1,0⟩,⟨1,2,0⟩,⟨1,3,0⟩,⟨1,4,0⟩,⟨1,5,0⟩,⟨1,6,0⟩,⟨1,7,0⟩]
theorem zE1:zjI (fun k _=>⟨1,(k:Int),0⟩) R8 z8=ownR:=rfl
def zrP(a b:Kw):Kw:=if a.st=0 then b else if b.st≠0∧a≠b then Kw.no else a
def zrs(r o:List Kw):List Kw:=zjI (fun k a=>zrP a (o.getD k Kw.z)) R8 r
def ret1(s:Sgn)(k:Nat)(a:Kw):Kw:=if (k:Int)∈s.sav then (if k=7∧a.st=1 then { a with n:=IntKind.u32.wrap (a.n+4) } else a) else if (k:Int)∈s.res then Kw.no else a
def retR(s:Sgn)(r:List Kw):List Kw:=zjI (ret1 s) R8 r
theorem eqsK{a b:Kw}:zM [0,0,0] a.cells b.cells=some (decide (a=b)):=by
 obtain⟨a1,a2,a3⟩:=a;obtain⟨b1,b2,b3⟩:=b;simp only[Kw.cells,zM,if_true,Option.map_some,Bool.and_true]
 congr 1
 rw[Bool.eq_iff_iff];simp
theorem zte{rs:List Kw}{k:Nat}(h:k < rs.length):rs.set k (rs.getD k Kw.z)=rs:=by
 have:rs.getD k Kw.z=rs[k]:=by simp[Wa,h]
 rw[this];exact WN h
def opAt1:List Ex→Int
 | [_,.mk o _ _ _ _]=>o
 | _=>0
def nAt1:List Ex→Int
 | [_,.mk _ n _ _ _]=>n
 | _=>0
def addK(op m:Int)(x:Kw):Kw:=if x.st=1 then { x with n:=IntKind.u32.wrap (if op=3 then x.n+m else x.n - m) } else x
mutual
def zn4(rs:List Kw):Ex→Kw
 | .mk op _ v _ l=>if op=2∧0≤v∧v < 8 then rs.getD v.toNat Kw.z else if (op=3∨op=4)∧opAt1 l=1 then addK op (nAt1 l) (zl7 rs l) else Kw.no
def zl7(rs:List Kw):List Ex→Kw
 | []=>Kw.no
 | e::_=>zn4 rs e
end
structure OkS(s:St):Prop where
 asg:s.op=1→s.e.length≠0
 var:s.op=1∨s.op=3→0≤s.var
 form:∀e∈s.e,zg6 e=true
 size:z7 s.e≤100000
def thr1(l:List Sgn)(at':List Int)(rs:List Kw)(s:St):List Kw :=
 if s.op=1 then (if s.var < 8 then rs.set s.var.toNat (zl7 rs s.e) else rs) else if s.op=3 then (if s.var < 8 then rs.set s.var.toNat Kw.no else rs) else if s.op=5 then retR (zbc l at' s.tgt) rs else rs
def thrR(l:List Sgn)(at':List Int)(ss:List St)(rs:List Kw):List Kw:=ss.foldl (thr1 l at') rs
theorem zDf{s:Sgn}{rs:List Kw}:(retR s rs).length=rs.length:=zl8
theorem zwQ:∀{a b:List Kw},a.length=b.length→zM (Wh (3 * a.length) 0) (encR a) (encR b)=some (decide (a=b))
 | [],[],_=>rfl
 | [],_::_,h=>by cases h
 | _::_,[],h=>by cases h
 |
  x::a,y::b,h=>by
  have ih:=zwQ (a:=a) (b:=b) (by simpa using h);rw[Wd,show 3 * (a.length+1)=3 * a.length+1+1+1 by omega,WC,WC,WC,zgv,zgv];simp only[zM,if_true,ih,Option.map_some]
  congr 1
  obtain⟨x1,x2,x3⟩:=x;obtain⟨y1,y2,y3⟩:=y;rw[Bool.eq_iff_iff];simp only[WD,decide_eq_true_eq,List.cons.injEq,Kw.mk.injEq,and_assoc]
theorem eqs24{a b:List Kw}(ha:a.length=8)(hb:b.length=8):zM [0,0,0,0,0,0,0,0,0,0,0,0,0,0,0,0,0,0,0,0,0,0,0,0] (encR a) (encR b)=some (decide (a=b)):=by have h:=zwQ (a:=a) (b:=b) (by omega);rw[ha] at h;exact h
def zpL(x:List Kw)(p:List (List Kw) × Bool)(e:Nat):List (List Kw) × Bool:=(p.1.set e (zrs (p.1.getD e z8) x),p.2||decide (zrs (p.1.getD e z8) x≠p.1.getD e z8))
def zAU(g:G)(l:List Sgn)(at':List Int)(o:List (List Kw))(b:Nat):List Kw:=thrR l at' (blkG g b).stmts (o.getD b z8)
def ztj(g:G)(l:List Sgn)(at':List Int)(p:List (List Kw) × Bool)(b:Nat):List (List Kw) × Bool:=(edgB g b).foldl (zpL (zAU g l at' p.1 b)) p
def zmA(g:G)(l:List Sgn)(at':List Int)(ord:List Nat)(o:List (List Kw)):List (List Kw) × Bool:=ord.foldl (ztj g l at') (o,false)
def zrB(g:G)(l:List Sgn)(at':List Int)(ord:List Nat):Nat→List (List Kw)→List (List Kw)
 | 0,o=>o
 | n+1,o=>if (zmA g l at' ord o).2 then zrB g l at' ord n (zmA g l at' ord o).1 else (zmA g l at' ord o).1
def CanK(k:Kw):Prop:=k=Kw.z∨k.st=1∨k=Kw.no
def CanR(r:List Kw):Prop:=r.length=8∧∀k∈r,CanK k
def muK(k:Kw):Nat:=2 - k.st.toNat
def muR8(r:List Kw):Nat:=(r.map muK).sum
def muO(o:List (List Kw)):Nat:=(o.map muR8).sum
theorem zwv{α:Type}{f:α→Nat}:∀{l:List α}{i:Nat}{a d:α},i < l.length→((l.set i a).map f).sum+f (l.getD i d)=(l.map f).sum+f a
 | [],i,a,d,h=>by cases h
 | x::l,0,a,d,_=>by simp only[List.set_cons_zero,Ws,List.sum_cons,List.getD_cons_zero];omega
 |
  x::l,i+1,a,d,h=>by
  have ih:=zwv (f:=f) (l:=l) (i:=i) (a:=a) (d:=d) (by simpa using h);simp only[List.set_cons_succ,Ws,List.sum_cons,List.getD_cons_succ];omega
theorem zDT:CanR z8:=⟨rfl,fun k hk=>.inl (WO hk)⟩
theorem zEL:CanR ownR:=⟨rfl,fun k hk=>.inr (.inl (by
 simp only[ownR,List.mem_cons,WP,or_false] at hk
 rcases hk with rfl|rfl|rfl|rfl|rfl|rfl|rfl|rfl<;>rfl))⟩
theorem zk5{r:List Kw}(h:CanR r)(k:Nat):CanK (r.getD k Kw.z):=by
 by_cases hk:k < r.length
 ·
  have:r.getD k Kw.z=r[k]:=by simp[Wa,hk]
  rw[this];exact h.2 _ (Wj hk)
 ·
  have:r.getD k Kw.z=Kw.z:=by simp[Wa,hk]
  rw[this];exact .inl rfl
theorem zs0{r:List Kw}(h:CanR r){k:Nat}{c:Kw}(hc:CanK c):CanR (r.set k c):=⟨by rw[WB];exact h.1,fun x hx=>by
 rcases WQ hx with hx|rfl
 · exact h.2 x hx
 · exact hc⟩
theorem zql{f:Nat→Kw→Kw}(hf:∀k a,CanK a→CanK (f k a)):∀{l:List Nat}{r:List Kw},CanR r→CanR (zjI f l r)
 | [],r,h=>h
 | k::l,r,h=>zql hf (l:=l) (zs0 h (hf k _ (zk5 h k)))
theorem zug{a b:Kw}(ha:CanK a)(hb:CanK b):CanK (zrP a b):=by
 unfold zrP;split
 · exact hb
 ·
  split
  · exact .inr (.inr rfl)
  · exact ha
theorem zt5{r o:List Kw}(h:CanR r)(ho:CanR o):CanR (zrs r o):=zql (fun k a ha=>zug ha (zk5 ho k)) h
theorem zBS{s:Sgn}{k:Nat}{a:Kw}(h:CanK a):CanK (ret1 s k a):=by
 unfold ret1;split
 ·
  split
  · rename_i h1;exact .inr (.inl h1.2)
  · exact h
 ·
  split
  · exact .inr (.inr rfl)
  · exact h
theorem zCW{s:Sgn}{r:List Kw}(h:CanR r):CanR (retR s r):=zql (fun k a ha=>zBS ha) h
mutual
theorem zsp{rs:List Kw}(h:CanR rs):∀e:Ex,CanK (zn4 rs e)
 |
  .mk op n v w l=>by
  rw[zn4];split
  · exact zk5 h _
  ·
   split
   ·
    unfold addK;split
    · rename_i h1;exact .inr (.inl h1)
    · exact zqc h l
   · exact .inr (.inr rfl)
theorem zqc{rs:List Kw}(h:CanR rs):∀l:List Ex,CanK (zl7 rs l)
 | []=>by rw[zl7];exact .inr (.inr rfl)
 | e::_=>by rw[zl7];exact zsp h e
end
theorem zsX{l:List Sgn}{at':List Int}{rs:List Kw}(h:CanR rs)(s:St):CanR (thr1 l at' rs s):=by
 unfold thr1;split
 ·
  split
  · exact zs0 h (zqc h _)
  · exact h
 ·
  split
  ·
   split
   · exact zs0 h (.inr (.inr rfl))
   · exact h
  ·
   split
   · exact zCW h
   · exact h
theorem zth{l:List Sgn}{at':List Int}:∀{ss:List St}{rs:List Kw},CanR rs→CanR (thrR l at' ss rs)
 | [],rs,h=>h
 | s::ss,rs,h=>zth (ss:=ss) (zsX h s)
theorem zCy{a b:Kw}(ha:CanK a)(hb:CanK b):zrP a b=a∨muK (zrP a b) < muK a:=by
 unfold zrP
 by_cases h0:a.st=0
 ·
  rw[if_pos h0]
  rcases ha with rfl|h1|rfl
  ·
   rcases hb with rfl|h1|rfl
   · exact .inl rfl
   · right;unfold muK;rw[h1];decide
   · right;decide
  · omega
  · exact absurd h0 (by decide)
 ·
  rw[if_neg h0];split
  ·
   rename_i h1
   rcases ha with rfl|h2|rfl
   · exact absurd rfl h0
   · right;unfold muK;rw[h2];decide
   · exact .inl rfl
  · exact .inl rfl
theorem zxN{f:Nat→Kw→Kw}(hf:∀k a,CanK a→CanK (f k a))(hm:∀k a,CanK a→f k a=a∨muK (f k a) < muK a):∀{l:List Nat}{r:List Kw},(∀k∈l,k < 8)→CanR r→zjI f l r=r∨muR8 (zjI f l r) < muR8 r
 | [],r,_,h=>.inl rfl
 |
  k::l,r,hl,h=>by
  have hk:k < r.length:=by rw[h.1];exact hl k (by simp)
  have ih:=zxN hf hm (l:=l) (r:=r.set k (f k (r.getD k Kw.z))) (fun x hx=>hl x (by simp[hx])) (zs0 h (hf k _ (zk5 h k)));show zjI f l (r.set k (f k (r.getD k Kw.z)))=r∨muR8 (zjI f l (r.set k (f k (r.getD k Kw.z)))) < muR8 r
  rcases hm k _ (zk5 h k) with h1|h1
  · rw[h1,zte hk] at ih ⊢;exact ih
  ·
   have h2:muR8 (r.set k (f k (r.getD k Kw.z))) < muR8 r:=by have:=zwv (f:=muK) (l:=r) (i:=k) (a:=f k (r.getD k Kw.z)) (d:=Kw.z) hk;unfold muR8;omega
   rcases ih with h3|h3
   · right;rw[h3];exact h2
   · right;omega
theorem zC7{r o:List Kw}(h:CanR r)(ho:CanR o):zrs r o=r∨muR8 (zrs r o) < muR8 r :=
 zxN (fun k a ha=>zug ha (zk5 ho k)) (fun k a ha=>zCy ha (zk5 ho k)) (fun k hk=>by simp only[R8,List.mem_cons,WP,or_false] at hk;omega) h
def CanO(n:Nat)(o:List (List Kw)):Prop:=o.length=n∧∀r∈o,CanR r
theorem znL{n:Nat}{o:List (List Kw)}(h:CanO n o)(b:Nat):CanR (o.getD b z8):=by
 by_cases hb:b < o.length
 ·
  have:o.getD b z8=o[b]:=by simp[Wa,hb]
  rw[this];exact h.2 _ (Wj hb)
 ·
  have:o.getD b z8=z8:=by simp[Wa,hb]
  rw[this];exact zDT
theorem zxG{n:Nat}{o:List (List Kw)}(h:CanO n o){b:Nat}{r:List Kw}(hr:CanR r):CanO n (o.set b r):=⟨by rw[WB];exact h.1,fun x hx=>by
 rcases WQ hx with hx|rfl
 · exact h.2 x hx
 · exact hr⟩
theorem zzU{o:List (List Kw)}{b:Nat}(h:b < o.length):o.set b (o.getD b z8)=o:=by
 have:o.getD b z8=o[b]:=by simp[Wa,h]
 rw[this];exact WN h
theorem zw9{n:Nat}{x:List Kw}{p:List (List Kw) × Bool}{e:Nat}(hx:CanR x)(hp:CanO n p.1)(he:e < n):CanO n (zpL x p e).1∧((zpL x p e).1=p.1∧(zpL x p e).2=p.2∨muO (zpL x p e).1 < muO p.1∧(zpL x p e).2=true):=by
 have hc:=znL hp e
 have hl:e < p.1.length:=by rw[hp.1];exact he
 refine⟨zxG hp (zt5 hc hx),?_⟩;unfold zpL;simp only
 by_cases h:zrs (p.1.getD e z8) x=p.1.getD e z8
 · left;rw[h,zzU hl];simp
 ·
  right
  rcases zC7 hc hx with h1|h1
  · exact absurd h1 h
  · refine⟨?_,by rw[decide_eq_true h,Bool.or_true]⟩;have:=zwv (f:=muR8) (l:=p.1) (i:=e) (a:=zrs (p.1.getD e z8) x) (d:=z8) hl;unfold muO;omega
theorem ztf{α:Type}{n:Nat}{f:List (List Kw) × Bool→α→List (List Kw) × Bool}{P:α→Prop}(hf:∀p a,P a→CanO n p.1→CanO n (f p a).1∧((f p a).1=p.1∧(f p a).2=p.2∨muO (f p a).1 < muO p.1∧(f p a).2=true)):
  ∀ {l:List α} {p:List (List Kw) × Bool},(∀a∈l,P a)→CanO n p.1→CanO n (l.foldl f p).1∧((l.foldl f p).1=p.1∧(l.foldl f p).2=p.2∨muO (l.foldl f p).1 < muO p.1∧(l.foldl f p).2=true)
 | [],p,_,h=>⟨h,.inl ⟨rfl,rfl⟩⟩
 |
  a::l,p,hl,h=>by
  obtain⟨h1,h2⟩:=hf p a (hl a (by simp)) h;obtain⟨h3,h4⟩:=ztf hf (l:=l) (p:=f p a) (fun x hx=>hl x (by simp[hx])) h1;rw[List.foldl_cons];refine⟨h3,?_⟩
  rcases h2 with ⟨h5,h6⟩ | ⟨h5,h6⟩
  · rw[h5,h6] at h4;exact h4
  ·
   right
   rcases h4 with ⟨h7,h8⟩ | ⟨h7,h8⟩
   · rw[h7,h8];exact⟨h5,h6⟩
   · exact⟨by omega,h8⟩
theorem zxb{g:G}(hg:OkG g){l:List Sgn}{at':List Int}{p:List (List Kw) × Bool}{b:Nat}(hb:b < g.blocks.length)(hp:CanO g.blocks.length p.1):
  CanO g.blocks.length (ztj g l at' p b).1∧((ztj g l at' p b).1=p.1∧(ztj g l at' p b).2=p.2∨muO (ztj g l at' p b).1 < muO p.1∧(ztj g l at' p b).2=true) :=
 ztf (P:=fun e=>e < g.blocks.length) (fun p e he hp=>zw9 (zth (znL (by assumption) b)) hp he) (zvO hg hb) hp
theorem zxM{g:G}(hg:OkG g){l:List Sgn}{at':List Int}{ord:List Nat}(ho:∀b∈ord,b < g.blocks.length){o:List (List Kw)}(hp:CanO g.blocks.length o):
  CanO g.blocks.length (zmA g l at' ord o).1∧((zmA g l at' ord o).1=o∧(zmA g l at' ord o).2=false∨muO (zmA g l at' ord o).1 < muO o∧(zmA g l at' ord o).2=true) :=
 ztf (P:=fun b=>b < g.blocks.length) (fun p b hb hp=>zxb hg hb hp) ho (p:=(o,false)) hp
theorem zx8{g:G}{l:List Sgn}{at':List Int}{ord:List Nat}{n:Nat}{o:List (List Kw)}:zrB g l at' ord (n+1) o=if (zmA g l at' ord o).2 then zrB g l at' ord n (zmA g l at' ord o).1 else (zmA g l at' ord o).1:=rfl
def zu2(n:Nat):List (List Kw):=(Wh n z8).set 0 ownR
theorem zxx(n:Nat):CanO n (zu2 n):=zxG ⟨by simp,fun r hr=>by rw[WO hr];exact zDT⟩ zEL
def ordG(g:G):List Nat:=Dm.orderL g.toG.E
def znw(g:G)(l:List Sgn)(at':List Int):List (List Kw):=zrB g l at' (ordG g) (muO (zu2 g.blocks.length)+1) (zu2 g.blocks.length)
theorem getR{q:List (List Kw)}{e:Nat}(h:e < q.length):(q.map encR).getD e []=encR (q.getD e z8):=by rw[zn (f:=encR) h];simp[Wa,h]
theorem zqS(g:G):∀b∈ordG g,b < g.blocks.length:=fun b hb=>by
 have h:=(Dm.orderL_nd (Gr.E_ok g.toG)).lt b hb
 simpa [Gr.E,G.toG] using h
theorem zs4(g:G):(ordG g).length≤g.blocks.length:=by have h:=List.Nodup.length_le_of_subset (Dm.orderL_nd (Gr.E_ok g.toG)).nd (fun b hb=>List.mem_range.2 (zqS g b hb));rw[List.length_range] at h;exact h
theorem zj1:∀{l:List AV}{j:Nat},zH l=true→(l.getD j .undef).flat0=true
 | [],j,_=>by simp[AV.flat0]
 | a::l,0,h=>by simp only[zH,WD] at h;exact h.1
 |
  a::l,j+1,h=>by
  simp only[zH,WD] at h;exact zj1 (l:=l) (j:=j) h.2
def zBq(r:Nat):Kw:=if r=7 then ⟨1,7,4⟩ else ⟨1,r,0⟩
def retB(g:G)(b:Nat):Bool:=match (blkG g b).stmts.getLast? with
 | some s=>decide (s.op=9)
 | none=>false
def zuo(g:G)(l:List Sgn)(at':List Int)(r b:Nat):Bool := !(retB g b&&decide ((thrR l at' (blkG g b).stmts ((znw g l at').getD b z8)).getD r Kw.z≠zBq r))
def keepsR(g:G)(l:List Sgn)(at':List Int)(r:Nat):Bool:=(ordG g).all (zuo g l at' r)
def savG(g:G)(l:List Sgn)(at':List Int):List Int:=((List.range 8).filter (keepsR g l at')).map fun(r:Nat)=>(r:Int)
theorem zxX(g:G)(hg:OkG g)(l:List Sgn)(at':List Int):CanO g.blocks.length (znw g l at'):=by
 unfold znw
 have key:∀(n:Nat) (o:List (List Kw)),CanO g.blocks.length o→CanO g.blocks.length (zrB g l at' (ordG g) n o):=by
  intro n
  induction n with
  | zero=>intro o h;exact h
  |
   succ n ih =>
   intro o h;obtain⟨h1,-⟩:=zxM hg (zqS g) (l:=l) (at':=at') h;rw[zrB];split
   · exact ih _ h1
   · exact h1
 exact key _ _ (zxx _)
theorem get24{l:List AV}(h:l.length=24):[l.getD 0 .undef,l.getD 1 .undef,l.getD 2 .undef,l.getD 3 .undef,l.getD 4 .undef,l.getD 5 .undef,l.getD 6 .undef,l.getD 7 .undef,l.getD 8 .undef,l.getD 9 .undef,l.getD 10 .undef,l.getD 11 .undef,l.getD 12 .undef,l.getD 13 .undef,l.getD 14 .undef,l.getD 15 .undef,l.getD 16 .undef,l.getD 17 .undef,l.getD 18 .undef,l.getD 19 .undef,l.getD 20 .undef,l.getD 21 .undef,l.getD 22 .undef,l.getD 23 .undef]=l:=by
 match l,h with
 | [a0,a1,a2,a3,a4,a5,a6,a7,a8,a9,a10,a11,a12,a13,a14,a15,a16,a17,a18,a19,a20,a21,a22,a23],_=>rfl
end Go.Ab
