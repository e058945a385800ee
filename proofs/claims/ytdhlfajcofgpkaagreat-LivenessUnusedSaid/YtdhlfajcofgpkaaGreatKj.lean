/-
  Part 10 of the proof: how the calls of this program run, over values instead of memory, and what each function computes.
-/
import Derived.KernelRfl
import Derived.Test.YtdhlfajcofgpkaaGreatKi
set_option maxRecDepth 100000
set_option linter.unusedVariables false
set_option linter.unusedSimpArgs false
set_option linter.unnecessarySimpa false
set_option linter.unusedSectionVars false
open Nat renaming zero_le→Wa,le_refl→Wb,beq→Wt,lt_or_ge→WC,eq_zero_or_pos→WE,lt_succ_self→WP
open List renaming cons_append→Wc,length_nil→Wd,getElem_mem→We,nil_append→Wf,range→Wg,take_of_length_le→Wi,drop_eq_getElem_cons→Wj,map_congr_left→Wk,length_map→Wl,take_zero→Wm,length_append→Wn,length_singleton→Wo,take_add_one→Wp,getElem?_eq_getElem→Wq,map_map→Wr,replicate→Ws,length_cons→Wu,mem_map→Wv,eq_nil_of_length_eq_zero→Ww,findIdx?_eq_some_iff_getElem→Wx,findIdx?_eq_none_iff→Wy,take_append_drop→WA,mem_singleton→WB,mem_append→WD,mem_iff_getElem→WF,take_length→WG,mem_cons→WH,getD_eq_getElem?_getD→WI,getElem?_map→WJ,all_cons→WK,drop_of_length_le→WL,mem_cons_of_mem→WM,mem_range→WN,ext_getElem→WO,getElem_cons_zero→WQ,filter_cons→WR,any_eq_false→WV,getElem?_eq_some_iff→WW,getElem?_set_ne→WX
open And renaming intro→Wh
open Bool renaming and_false→Wz,and_eq_true→WU
open Option renaming map_eq_some_iff→WS
open Int renaming natCast_zero→WT
namespace Go.Ab
open Go.RowKit Go.Proofs
theorem zGL {n k:Nat} {S:Nat→MS} {a:MS} {m:List MC} (h:m=setM a.1 a.2):(fi cm n (fun i=>setM (S i).1 (S i).2) (fun _=>0)).set k (m.map cm,0)=fi cm n (fun i=>setM (updF S k a i).1 (updF S k a i).2) (fun _=>0):=by
 rw[fi_set,h]
 congr 1
 ·
  funext i
  unfold updF
  split<;>rfl
 ·
  funext i
  unfold updF
  split<;>rfl
theorem zDw {n k:Nat} {S:Nat→MS} {c v:Int} {ps:List (Int × Int)}:(fi cm n (fun i=>setM (S i).1 (S i).2) (fun _=>0)).set k ([AV.int .i64 (c+1),.undef,.undef]::((enL ps).map cm++[[.int .i64 v,.bool true,.int .i64 c]]),0) =
  fi cm n (fun i=>setM (updF S k (c+1,ps++[(v,c)]) i).1 (updF S k (c+1,ps++[(v,c)]) i).2) (fun _=>0):=by
 rw[zBr];exact zGL rfl
theorem zsC {α:Type} {S:Nat→α} {k:Nat} {a b:α}:updF (updF S k a) k b=updF S k b:=by
 funext i
 unfold updF
 split<;>rfl
theorem ztX {α:Type} {S:Nat→α} {k:Nat}:updF S k (S k)=S:=by
 funext i
 unfold updF;split
 · rename_i h;rw[h]
 · rfl
theorem Qbh {p:Prop}(h:p:=by(try simp only[evWB,Nat.reduceBEq,Nat.reduceAdd,Nat.reduceSub,Nat.reduceLeDiff,Nat.reduceLT,implies_true,za])<;>exact fin8):p:=h
theorem zp8 (n k:Nat) (hk:k < n) (S:Nat→MS) (l:List Int) (hs:(S k).ok) (h1:(S k).1+l.length≤1000000) (h2:(S k).2.length+l.length≤1000000):zab Tryz.prog zC [.mp 0 (k+1),za l] [(0,famS n S)] 1
  (fun v H nx=>v=.bool (decide ((S k).2.length < (addL (S k) l).2.length))∧H=[(0,famS n (updF S k (addL (S k) l)))]∧nx=1):=by
 refine zbc (fn_x zgJ rfl ?_);unfold zdA famS;have hB:=hBig
 (refine Qp ?_;intros)
 refine zk (fun i:Nat=>([(0,.mp 0 (k+1)),(5,.bool (decide ((S k).2.length < (addL (S k) (l.take i)).2.length))),(8,za l),(9,.int .i64 l.length),(10,.int .i64 i)],[(0,.fam 3 (fi cm n (fun j=>setM (updF S k (addL (S k) (l.take i)) j).1 (updF S k (addL (S k) (l.take i)) j).2) (fun _=>0)))])) 1
  (fun i=>i≤l.length) (fun i=>l.length - i) 0 (Wa _) (by rw[Wm,show addL (S k) []=S k from rfl,dF (Nat.lt_irrefl _),ztX];exact(Ent.tabB [(0,0,0)] [] rfl rfl rfl Qbh Qbh)) ?_
 rintro i hi wf;unfold zch
 by_cases hl:i < l.length
 ·
  have hgl:=zq (f:=cI) (d:=[]) hl;have hb:=zdQ (l:=l.take i) (s:=S k);rw[List.length_take] at hb;have hnx:=zuT (s:=S k) hl;generalize addL (S k) (l.take i)=si at hb hnx ⊢;obtain⟨c,ps⟩:=si;simp only at hb hnx ⊢
  by_cases hm:l[i]∈ps.map (·.1)
  ·
   obtain⟨j,hj,hje,hf⟩:=zmU hm;have e1:add1 (c,ps) l[i]=(c,ps):=if_pos hm;rw[e1] at hnx
   (repeat first|simp(disch:=try exact dis1) only[evD,Nat.reduceBEq,Nat.reduceAdd,Nat.reduceLeDiff,dT,hgl,za,zp0 hk,zjp,zB,hf]|with_reducible first|intro _|refine aJ ?_)
   exact⟨i+1,by omega,by omega,(Ent.tabB [(0,0,0)] [] rfl rfl rfl (by(try simp only[evWB,Nat.reduceBEq,Nat.reduceAdd,Nat.reduceSub,Nat.reduceLeDiff,Nat.reduceLT,implies_true,za,hnx])<;>exact fin8) (by(try simp only[evWB,Nat.reduceBEq,Nat.reduceAdd,Nat.reduceSub,Nat.reduceLeDiff,Nat.reduceLT,implies_true,za,hnx])<;>exact fin8))⟩
  ·
   have hf:=zkE hm;have e1:add1 (c,ps) l[i]=(c+1,ps++[(l[i],c)]):=if_neg hm;rw[e1] at hnx
   (repeat first|simp(disch:=try exact dis1) only[evD,Nat.reduceBEq,Nat.reduceAdd,Nat.reduceLeDiff,dT,hgl,za,zp0 hk,zjp,zB,hf,zDw,zsC]|with_reducible first|intro _|refine aJ ?_)
   have hd:decide ((S k).2.length < ps.length+1)=true:=dT (by omega);exact⟨i+1,by omega,by omega,(Ent.tabB [(0,0,0)] [] rfl rfl rfl (by(try simp only[evWB,Nat.reduceBEq,Nat.reduceAdd,Nat.reduceSub,Nat.reduceLeDiff,Nat.reduceLT,implies_true,za,hnx,Wn,Wo,hd])<;>exact fin8) (by(try simp only[evWB,Nat.reduceBEq,Nat.reduceAdd,Nat.reduceSub,Nat.reduceLeDiff,Nat.reduceLT,implies_true,za,hnx,Wn,Wo,hd])<;>exact fin8))⟩
 ·
  (refine Qg ?_;intros)
  unfold zcf
  (refine QZ ?_;intros)
  rw[Wi (by omega)];exact⟨_,_,_,(Ent.tabB [(0,0,0)] [] rfl rfl rfl fin8 fin8),rfl,rfl,rfl⟩
theorem zni {sz n:Nat} {f:Nat→Nat→AV}:lenV (.sl sz n f)=some n:=rfl
theorem znJ {sz n:Nat} {f:Nat→Nat→AV} {H:AH}:fits H (.sl sz n f)=True:=rfl
theorem zAQ {n:Int}:∀ {i:Nat} {l:List Int},(∀j,(h:j < l.length)→j < i→l[j] < n)→insU n l=l.take i++insU n (l.drop i)
 | 0,l,_=>by simp
 | i+1,[],_=>by simp
 |
  i+1,x::l,h=>by
  have h0:=h 0 (by simp) (by omega);simp only[WQ] at h0;rw[insU,if_pos h0,List.take_succ_cons,List.drop_succ_cons,Wc,←zAQ (i:=i) fun j hj hji=>h (j+1) (by simpa using hj) (by omega)]
theorem zs1 {n:Int}:∀ {l:List Int},(insU n l).length≤l.length+1
 | []=>by simp[insU]
 |
  x::l=>by
  unfold insU;split
  · have:=zs1 (n:=n) (l:=l);simp only[Wu];omega
  · split<;>simp
theorem zrB {a:List Int}:∀ {b:List Int},(zfw a b).length≤a.length+b.length:=by
 intro b
 induction b generalizing a with
 | nil=>simp[zfw]
 |
  cons x b ih =>
  have h1:=ih (a:=insU x a);have h2:=zs1 (n:=x) (l:=a);show (zfw (insU x a) b).length≤_;simp only[Wu];omega
mutual
theorem zma:∀e:Ex,(zgA e).length≤zbp e
 |
  .mk op _ v _ l=>by
  have h:=zsq (if op=2 then [v] else []) l;rw[zgA,zbp]
  have:(if op=2 then [v] else ([]:List Int)).length≤1:=by split<;>simp
  omega
theorem zsq:∀(a:List Int) (l:List Ex),(zjX a l).length≤a.length+zF l
 | a,[]=>by rw[zjX,zF];simp
 |
  a,x::l=>by
  have h1:=zsq (zfw a (zgA x)) l;have h2:=zrB (a:=a) (b:=zgA x);have h3:=zma x;rw[zjX,zF];omega
end
theorem zps {l:List Ex} {i:Nat} (h:i < l.length):zF (l.drop i)=zbp l[i]+zF (l.drop (i+1)):=by rw[Wj h,zF]
theorem QH {p q:Prop}(k:q)(h:Im q p:=by(repeat first|simp(disch:=try exact dis1) only[evD,Nat.reduceBEq,Nat.reduceAdd,Nat.reduceLeDiff,dT,dF,fldP,za,St.cells,zdo] | ((with_reducible apply Im.i);intro _) | ((with_reducible apply Im.a);omega));exact Im.r):p:=h k
theorem zoG (s:St):zu Tryz.prog zei [.agg s.cells] (·=za (zlF s)):=by
 refine fn_x zoz rfl ?_;unfold zjc;have hB:=hBig;obtain⟨op,var,width,next,els,tgt,l,cs⟩:=s;unfold zlF;simp only
 by_cases h:op=1∨op=3
 ·
  rw[if_pos h]
  rcases h with rfl|rfl
  ·
   (refine QH ?_;intros)
   exact⟨_,zbQ (l:=[var]) trivial rfl (by simp only[Wo];omega),rfl⟩
  ·
   (refine QH ?_;intros)
   exact⟨_,zbQ (l:=[var]) trivial rfl (by simp only[Wo];omega),rfl⟩
 ·
  rw[if_neg h]
  (refine QH ?_;intros)
  exact⟨_,zbQ (l:=[]) trivial rfl (by simp only[Wd];omega),rfl⟩
theorem QI {p q:Prop}(k:q)(h:Im q p:=by(repeat first|simp(disch:=try exact dis1) only[evD,Nat.reduceBEq,Nat.reduceAdd,Nat.reduceLeDiff,dT,dF,fldP,za,St.cells,zcl] | ((with_reducible apply Im.i);intro _) | ((with_reducible apply Im.a);omega));exact Im.r):p:=h k
theorem zl5 (s:St):zu Tryz.prog zeJ [.agg s.cells] (·=.bool (zgx s)):=by
 refine fn_x zl8 rfl ?_;unfold zhj;have hB:=hBig;obtain⟨op,var,width,next,els,tgt,l,cs⟩:=s;unfold zgx;simp only
 by_cases h9:op=9
 ·
  (refine QI ?_;intros)
  exact⟨_,.bool _ _,rfl⟩
 by_cases h10:op=10
 ·
  (refine QI ?_;intros)
  exact⟨_,.bool _ _,rfl⟩
 (refine QI ?_;intros)
 exact⟨_,.bool _ _,congrArg AV.bool (decide_eq_decide.2 (by omega))⟩
mutual
theorem zyw:∀e:Ex,(occX e).length≤zbp e
 |
  .mk op _ v _ l=>by
  have h:=zpj l;rw[occX,zbp,Wn]
  have:(if op=2 then [v] else ([]:List Int)).length≤1:=by split<;>simp
  omega
theorem zpj:∀l:List Ex,(zb0 l).length≤zF l
 | []=>by rw[zb0,zF];simp
 |
  x::l=>by
  have h1:=zpj l;have h2:=zyw x;rw[zb0,zF,Wn];omega
end
theorem zom:∀l m:List Ex,zb0 (l++m)=zb0 l++zb0 m
 | [],m=>by rw[zb0];rfl
 | x::l,m=>by rw[Wc,zb0,zb0,zom l m,List.append_assoc]
theorem zBo:∀e:Ex,1≤zbp e
 | .mk _ _ _ _ _=>by rw[zbp];omega
theorem zkL:∀l:List Ex,l.length≤zF l
 | []=>by rw[zF];simp
 | x::l=>by rw[Wu,zF];have:=zkL l;have:=zBo x;omega
theorem zfJ:∀l m:List Ex,zF (l++m)=zF l+zF m
 | [],m=>by rw[zF];simp
 | x::l,m=>by rw[Wc,zF,zF,zfJ l m];omega
def visH (xs:List Int) (g:Nat):AH:=[(0,.row 1 [[.own 1 0 g 0 xs.length]] 0),(1,.row 1 (xs.map cI) g)]
def zle (op v:Int):List Int:=if op=2 then [v] else []
theorem zAm {op v:Int}:(zle op v).length≤1:=by unfold zle;split<;>simp
theorem Qbb {p:Prop}(h:p:=by(try simp only[evWB,Nat.reduceBEq,Nat.reduceAdd,Nat.reduceSub,Nat.reduceLeDiff,Nat.reduceLT,implies_true,visH])<;>exact fin1):p:=h
theorem zq8 (op n v w:Int) (l:List Ex) (xs:List Int) (g:Nat) (hx:xs.length≤200000) :
  zab Tryz.prog zf4 [.agg (encX (.mk op n v w l)),.ptr 0 0 0 0 0] (visH xs g) 2 (fun r H nx=>∃g',r=.tup []∧H=visH (xs++zle op v) g'∧nx=2):=by
 refine zbc (fn_x zu3 rfl ?_);unfold zoq;have hB:=hBig;rw[zbl];unfold zle
 by_cases h:op=2
 ·
  rw[if_pos h]
  (repeat first|simp(disch:=try exact dis1) only[evD,Nat.reduceBEq,Nat.reduceAdd,Nat.reduceLeDiff,visH,dT h]|with_reducible first|intro _|refine aJ ?_)
  (repeat first|simp(disch:=try exact dis1) only[evD,Nat.reduceBEq,Nat.reduceAdd,Nat.reduceLeDiff,zjs]|with_reducible first|intro _|refine aJ ?_)
  exact⟨.tup [],visH (xs++[v]) (g+1),2,(Ent.tabB [(0,0,0),(1,1,0)] [] rfl rfl rfl Qbb Qbb),g+1,rfl,rfl,rfl⟩
 ·
  rw[if_neg h]
  (repeat first|simp(disch:=try exact dis1) only[evD,Nat.reduceBEq,Nat.reduceAdd,Nat.reduceLeDiff,visH,dF h,zjs]|with_reducible first|intro _|refine aJ ?_)
  refine⟨.tup [],visH xs g,2,?_,g,rfl,rfl,rfl⟩;exact(Ent.tabB [(0,0,0),(1,1,0)] [] rfl rfl rfl Qbb Qbb)
def visF:AV:=.fn (.func zf4) [.ptr 0 0 0 0 0]
theorem Qy {p q:Prop}(k:q)(h:Im q p:=by(repeat first|simp(disch:=try exact dis1) only[evD,Nat.reduceBEq,Nat.reduceAdd,Nat.reduceLeDiff,visH] | ((with_reducible apply Im.i);intro _) | ((with_reducible apply Im.a);omega));exact Im.r):p:=h k
theorem Qbi {p:Prop}(h:p:=by(try simp only[evWB,Nat.reduceBEq,Nat.reduceAdd,Nat.reduceSub,Nat.reduceLeDiff,Nat.reduceLT,implies_true,List.take_zero,zb0,List.append_nil,visH])<;>exact fin1):p:=h
theorem Qbe {p:Prop}(h:p:=by(try simp only[evWB,Nat.reduceBEq,Nat.reduceAdd,Nat.reduceSub,Nat.reduceLeDiff,Nat.reduceLT,implies_true,visH,visF])<;>exact fin1):p:=h
theorem zti:∀(k:Nat) (e:Ex) (xs:List Int) (g:Nat),zbp e≤k→xs.length+zbp e≤100000 →
  zab Tryz.prog zks [.agg (encX e),visF] (visH xs g) 2 (fun r H nx=>∃g',r=.tup []∧H=visH (xs++occX e) g'∧nx=2):=by
 intro k
 induction k with
 | zero=>intro e xs g h;obtain⟨_,_,_,_,l⟩:=e;rw[zbp] at h;omega
 | succ k ih =>
 intro e xs g hk hx;obtain⟨op,n,v,w,l⟩:=e;rw[zbp] at hk hx;refine zbc (fn_x zwx rfl ?_);unfold zpL;have hB:=hBig;have hlen:=zkL l;have h1:=zq8 op n v w l xs g (by omega);have hv1:=zAm (op:=op) (v:=v);rw[zbl] at h1 ⊢
 (repeat first|simp(disch:=try exact dis1) only[evD,Nat.reduceBEq,Nat.reduceAdd,Nat.reduceLeDiff,visF,visH]|with_reducible first|intro _|refine aJ ?_)
 refine⟨by kernel_rfl,?_⟩;refine z6 [(0,0,0),(1,1,0)] 2 _ (h1) rfl rfl Qbb Qbb ?_;rintro r H' nx' ⟨g',rfl,rfl,rfl⟩
 (refine Qy ?_;intros)
 have hocc:occX (.mk op n v w l)=zle op v++zb0 l:=by rw[occX];rfl
 rw[hocc]
 refine zk (fun a:Nat × Nat=>([(1,.fn (.func zf4) [.ptr 0 0 0 0 0]),(10,encL 5 encX l),(11,.int .i64 l.length),(12,.int .i64 a.1)],visH (xs++(zle op v++zb0 (l.take a.1))) a.2)) 2
  (fun a=>a.1≤l.length) (fun a=>l.length - a.1) (0,g') (Wa _) (Ent.tabB [(0,0,0),(1,1,0)] [] rfl rfl rfl Qbi Qbi) ?_
 rintro⟨i,gi⟩ hi wf;simp only at hi;unfold zlh
 (refine Qy ?_;intros)
 (refine zaS (fun h=>?_) (fun h=>?_))<;>(try simp only[dcd] at h)
 ·
  have hi':i < l.length:=by omega
  have htk:zb0 (l.take (i+1))=zb0 (l.take i)++occX l[i]:=by
   rw[Wp,Wq hi',zom]
   congr 1
   show zb0 [l[i]]=_;rw[zb0,zb0,List.append_nil]
  have hs:zF l=zF (l.take i)+zF (l.drop i):=by rw[←zfJ,WA]
  have hs2:=zps hi';have ho:=zpj (l.take i);have hc:=ih l[i] (xs++(zle op v++zb0 (l.take i))) gi (by omega) (by simp only[Wn];omega)
  have e1:xs++(zle op v++zb0 (l.take i))++occX l[i]=xs++(zle op v++zb0 (l.take (i+1))):=by rw[htk];simp
  rw[e1] at hc
  (repeat first|simp(disch:=try exact dis1) only[evD,Nat.reduceBEq,Nat.reduceAdd,Nat.reduceLeDiff,zq hi']|with_reducible first|intro _|refine aJ ?_)
  generalize l[i]=x at hc ⊢;obtain⟨o2,n2,v2,w2,l2⟩:=x;simp only[zbl] at hc ⊢
  (refine Qa ?_;intros)
  refine z6 [(0,0,0),(1,1,0)] 2 _ (hc) rfl rfl Qbe Qbe ?_;rintro r H' nx' ⟨g2,rfl,rfl,rfl⟩
  (refine Qy ?_;intros)
  exact⟨(i+1,g2),by simp only;omega,by simp only;omega,(Ent.tabB [(0,0,0),(1,1,0)] [] rfl rfl rfl Qbb Qbb)⟩
 ·
  have hi':l.length≤i:=by omega
  (repeat first|simp(disch:=try exact dis1) only[evD,Nat.reduceBEq,Nat.reduceAdd,Nat.reduceLeDiff,zpE]|with_reducible first|intro _|refine aJ ?_)
  refine⟨.tup [],visH (xs++(zle op v++zb0 l)) gi,2,?_,gi,rfl,rfl,rfl⟩;rw[Wi hi'];exact(Ent.tabB [(0,0,0),(1,1,0)] [] rfl rfl rfl Qbb Qbb)
theorem zsA {l:List Int} (hs:l.Pairwise (·≤·)):∀n,n≤l.length→Asc (zaM l n)∧∀x,x∈zaM l n↔∃j,∃h:j < l.length,j < n∧l[j]=x
 |
  0,_=>by
  refine⟨List.Pairwise.nil,fun x=>⟨fun h=>?_,fun⟨j,_,h,_⟩=>absurd h (Nat.not_lt_zero _)⟩⟩;have:zaM l 0=[]:=rfl;rw[this] at h;cases h
 |
  n+1,hn=>by
  obtain⟨h1,h2⟩:=zsA hs n (by omega);have hp:=List.pairwise_iff_getElem.1 hs
  cases hk:zgU l n with
  |
   true =>
   rw[zne (by omega) hk];refine⟨List.pairwise_append.2 ⟨h1,List.pairwise_singleton _ _,fun a ha b hb=>?_⟩,fun x=>?_⟩
   ·
    obtain⟨j,hj,hjn,rfl⟩:=(h2 a).1 ha;rw[WB] at hb;subst hb
    have hne:l[n]≠l[n - 1]:=by
     have:=zhY (l:=l) (j:=n) (by omega) (by omega);rw[hk] at this
     simpa using this.symm
    have a1:=hp (n - 1) n (by omega) (by omega) (by omega)
    rcases WC j (n - 1) with h3|h3
    · have:=hp j (n - 1) hj (by omega) h3;omega
    ·
     obtain rfl:j=n - 1:=by omega
     omega
   ·
    rw[WD,WB,h2];constructor
    ·
     rintro(⟨j,hj,hjn,rfl⟩|rfl)
     · exact⟨j,hj,by omega,rfl⟩
     · exact⟨n,by omega,by omega,rfl⟩
    ·
     rintro⟨j,hj,hjn,rfl⟩
     rcases WC j n with h3|h3
     · exact .inl ⟨j,hj,h3,rfl⟩
     ·
      obtain rfl:j=n:=by omega
      exact .inr rfl
  |
   false =>
   rw[zpr hk];refine⟨h1,fun x=>?_⟩;rw[h2];constructor
   · rintro⟨j,hj,hjn,rfl⟩;exact⟨j,hj,by omega,rfl⟩
   ·
    rintro⟨j,hj,hjn,rfl⟩
    rcases WC j n with h3|h3
    · exact⟨j,hj,h3,rfl⟩
    ·
     obtain rfl:j=n:=by omega
     have h0:1≤j:=by
      rcases WE j with rfl|h
      · cases hk
      · exact h
     have:=zhY (l:=l) (j:=j) h0 hj;rw[hk] at this
     have he:l[j]=l[j - 1]:=by simpa using this.symm
     exact⟨j - 1,by omega,by omega,he.symm⟩
theorem zuC (l m:List Int) (hm:Asc m) (h:∀x,x∈m↔x∈l):zeN (zcI l)=m:=by
 obtain⟨h1,h2⟩:=zsA (zb4 l) (zcI l).length (Wb _)
 refine zsX h1 hm fun x=>?_
 rw[h,←(zam l).mem_iff];show x∈zaM _ _↔_;rw[h2,WF];exact⟨fun⟨j,hj,_,e⟩=>⟨j,hj,e⟩,fun⟨j,hj,e⟩=>⟨j,hj,hj,e⟩⟩
theorem Qax {p:Prop}(h:p:=by(try simp only[evWB,Nat.reduceBEq,Nat.reduceAdd,Nat.reduceSub,Nat.reduceLeDiff,Nat.reduceLT,implies_true])<;>exact fin1):p:=h
theorem zz4 (e:Ex) (hk:zbp e≤100000):zu Tryz.prog zpc [.agg (encX e)] (·=za (zgA e)):=by
 refine fn_x zAr rfl ?_;unfold zsd;have hB:=hBig;have hc:=zti (zbp e) e [] 0 (Wb _) (by simp only[Wd];omega);have hl:=zyw e
 have hcs:=zuC (occX e) (zgA e) (zBD e) fun x=>zmW e
 rw[Wf] at hc;generalize occX e=xs at hc hl hcs;generalize zgA e=vs at hcs ⊢;obtain⟨op,n,v,w,l⟩:=e;simp only[zbl] at hc ⊢
 (refine Qa ?_;intros)
 refine z6 [(0,1,0)] 2 _ (hc) rfl rfl Qbe Qbe ?_;rintro r H' nx' ⟨g',rfl,rfl,rfl⟩
 (refine Qy ?_;intros)
 refine zZ (zpy (zs:=xs) rfl (by omega)) ?_;rintro _ _ _ hres;simp only[Prod.mk.injEq] at hres;obtain⟨rfl,rfl,rfl⟩:=hres;have hsl:(zcI xs).length=xs.length:=(zam xs).length_eq;have hcl:=zz7 (l:=zcI xs) (n:=(zcI xs).length);rw[←hsl];generalize zcI xs=ss at hcs hsl hcl ⊢
 (refine Qa ?_;intros)
 refine z6 [(0,3,0)] 1 _ (ztj ss g' (by omega)) rfl rfl Qax Qax ?_;rintro _ _ _ ⟨m,rfl,rfl,rfl⟩;have hcl2:(zeN ss).length≤ss.length:=hcl;rw[hcs] at hcl2 ⊢
 (repeat first|simp(disch:=try exact dis1) only[evD,Nat.reduceBEq,Nat.reduceAdd,Nat.reduceLeDiff,zr6]|with_reducible first|intro _|refine aJ ?_)
 refine⟨_,?_,rfl⟩;exact zFf (m:=m) trivial rfl (by omega)
theorem zmN {c:Int} {ps:List (Int × Int)} (h:SetS c ps) {m:List Int} (hm:Asc m) (he:∀x,x∈m↔x∈ps.map (·.1)):zcI (ps.map (·.1))=m:=by
 refine zsX ?_ hm fun x=>?_
 · have h1:=zb4 (ps.map (·.1));have h2:(zcI (ps.map (·.1))).Nodup:=(zam _).nodup_iff.2 h.keys;refine List.Pairwise.imp₂ (fun a b hle hne=>?_) h1 h2;omega
 · rw[he,(zam _).mem_iff]
theorem renM {ρ:Nat→Nat} {l:List MC} {g:Nat}:AObj.ren ρ (.row 3 (l.map cm) g)=.row 3 (l.map cm) g:=by simp only[AObj.ren];rw[zg0 (zj zW)]
theorem renF {ρ:Nat→Nat} {n:Nat} {S:Nat→MS}:AObj.ren ρ (famS n S)=famS n S:=by
 unfold famS fi;simp only[AObj.ren,Wr]
 congr 1
 refine Wk fun i _=>?_
 show (List.map _ _,_)=_;rw[zg0 (zj zW)]
theorem renE {ρ:Nat→Nat} {l:List Int}:AV.ren ρ (za l)=za l:=zpp rfl
def zhQ (s:MS) (l:List Ex):MS:=l.foldl (fun a x=>addL a (zgA x)) s
theorem zzG {s:MS} {l:List Ex} {i:Nat} (h:i < l.length):zhQ s (l.take (i+1))=addL (zhQ s (l.take i)) (zgA l[i]):=by unfold zhQ;rw[Wp,Wq h,List.foldl_append];rfl
theorem zuu {y:Int}:∀ {l:List Ex} {s:MS},y∈(zhQ s l).keys↔y∈s.keys∨y∈zb0 l
 | [],s=>by rw[zb0];simp[zhQ]
 |
  x::l,s=>by
  show y∈(zhQ (addL s (zgA x)) l).keys↔_;rw[zuu,zeM,zmW,zb0,WD,or_assoc]
theorem zyC:∀ {l:List Ex} {s:MS},s.ok→s.1+zF l≤1000000→s.2.length+zF l≤1000000→(zhQ s l).ok∧(zhQ s l).1≤s.1+zF l∧(zhQ s l).2.length≤s.2.length+zF l
 |
  [],s,h,_,_=>by
  rw[zF];exact⟨h,by show s.1≤_;omega,by show s.2.length≤_;omega⟩
 |
  x::l,s,h,h1,h2=>by
  rw[zF] at h1 h2 ⊢;have hb:=zdQ (l:=zgA x) (s:=s);have hv:=zma x;have h3:=zl2 (l:=zgA x) h (by omega) (by omega);obtain⟨h4,h5,h6⟩:=zyC (l:=l) h3 (by omega) (by omega);exact⟨h4,by show (zhQ (addL s (zgA x)) l).1≤_;omega,by show (zhQ (addL s (zgA x)) l).2.length≤_;omega⟩
theorem zpf:MS.ok (0,[]):=⟨List.nodup_nil,List.nodup_nil,(fun _ h=>nomatch h),by simp,by simp⟩
theorem zpm {l:List Ex} {i:Nat}:zF (l.take i)≤zF l:=by
 have:zF l=zF (l.take i)+zF (l.drop i):=by rw[←zfJ,WA]
 omega
theorem QJ {p q:Prop}(k:q)(h:Im q p:=by(repeat first|simp(disch:=try exact dis1) only[evD,Nat.reduceBEq,Nat.reduceAdd,Nat.reduceLeDiff,renM] | ((with_reducible apply Im.i);intro _) | ((with_reducible apply Im.a);omega));exact Im.r):p:=h k
theorem QK {p q:Prop}(k:q)(h:Im q p:=by(repeat first|simp(disch:=try exact dis1) only[evD,Nat.reduceBEq,Nat.reduceAdd,Nat.reduceLeDiff,zB] | ((with_reducible apply Im.i);intro _) | ((with_reducible apply Im.a);omega));exact Im.r):p:=h k
theorem ziU (s:St) (hs:zF s.e≤100000):zu Tryz.prog zd8 [.agg s.cells] (·=za (zfj s)):=by
 refine fn_x zoN rfl ?_;unfold zjh;have hB:=hBig;obtain⟨op,var,width,next,els,tgt,l,cs⟩:=s;simp only at hs;have hasc:=zBV ⟨op,var,width,next,els,tgt,l,cs⟩
 have hmem:∀x,x∈zfj ⟨op,var,width,next,els,tgt,l,cs⟩↔x∈(zhQ (0,[]) l).2.map (·.1):=fun x=>by show x∈zo0 [] l↔x∈(zhQ (0,[]) l).keys;rw[zqI,zuu];simp[MS.keys]
 have hok:=fun i=>zyC (l:=l.take i) (s:=(0,[])) zpf (by have:=zpm (l:=l) (i:=i);simp only;omega) (by have:=zpm (l:=l) (i:=i);simp only[Wd];omega)
 generalize zfj ⟨op,var,width,next,els,tgt,l,cs⟩=R at hasc hmem ⊢
 (repeat first|simp(disch:=try exact dis1) only[evD,Nat.reduceBEq,Nat.reduceAdd,Nat.reduceLeDiff,fldP,St.cells,za]|with_reducible first|intro _|refine aJ ?_)
 refine zk (fun i:Nat=>([(3,.mp 0 0),(8,encL 5 encX l),(9,.int .i64 l.length),(10,.int .i64 i)],[(0,.row 3 ((setM (zhQ (0,[]) (l.take i)).1 (zhQ (0,[]) (l.take i)).2).map cm) 0)])) 1
  (fun i=>i≤l.length) (fun i=>l.length - i) 0 (Wa _) (by rw[Wm,show zhQ (0,[]) []=(0,[]) from rfl];exact(Ent.tab [(0,1,0)] [] rfl Qav Qav)) ?_
 rintro i hi wf;unfold zf1
 by_cases hil:i < l.length
 ·
  have hsd:=zps hil
  have hst:zF l=zF (l.take i)+zF (l.drop i):=by rw[←zfJ,WA]
  obtain⟨h1,h2,h3⟩:=hok i;have hvl:=zma l[i];have htk:=zzG (s:=(0,[])) hil
  (repeat first|simp(disch:=try exact dis1) only[evD,Nat.reduceBEq,Nat.reduceAdd,Nat.reduceLeDiff,fldP,dT,zq hil,zaJ,zal,zB]|with_reducible first|intro _|refine aJ ?_)
  refine ze (zd (zz4 l[i] (by omega)) (flX rfl)) ?_;generalize zgA l[i]=u at hvl htk ⊢;generalize zhQ (0,[]) (l.take i)=a at h1 h2 h3 htk ⊢;simp only[Wd,Nat.zero_add,Int.zero_add] at h2 h3
  (refine Qa ?_;intros)
  refine z6 [(0,0,0)] 1 _ (zhP a u h1 (by omega) (by omega)) rfl rfl Qav Qav ?_;rintro _ _ _ ⟨rfl,rfl,rfl⟩
  (refine QJ ?_;intros)
  exact⟨i+1,by omega,by omega,(Ent.tab [(0,0,0)] [] rfl (by(try simp only[evWB,Nat.reduceBEq,Nat.reduceAdd,Nat.reduceSub,Nat.reduceLeDiff,Nat.reduceLT,implies_true,zB,htk])<;>exact fin6) (by(try simp only[evWB,Nat.reduceBEq,Nat.reduceAdd,Nat.reduceSub,Nat.reduceLeDiff,Nat.reduceLT,implies_true,zB,htk])<;>exact fin6))⟩
 ·
  (refine Qg ?_;intros)
  unfold zgw;obtain⟨h1,h2,h3⟩:=hok l.length;have hso:=zmN (c:=(zhQ (0,[]) l).1) (ps:=(zhQ (0,[]) l).2) (by rw[WG] at h1;exact h1) hasc hmem;rw[WG] at h1 h2 h3;rw[Wi (by omega)];generalize zhQ (0,[]) l=a at h1 h2 h3 hso ⊢
  (refine QK ?_;intros)
  refine z6 [(0,0,0)] 1 _ (zpI a.1 a.2 h1) rfl rfl Qav Qav ?_;rintro _ _ _ ⟨rfl,rfl,rfl⟩;rw[hso]
  (repeat first|simp(disch:=try exact dis1) only[evD,Nat.reduceBEq,Nat.reduceAdd,Nat.reduceLeDiff,renM,renE,zi8]|with_reducible first|intro _|refine aJ ?_)
  exact⟨_,zaq rfl,rfl⟩
def del1 (s:MS) (v:Int):MS:=(s.1,s.2.filter fun p=>p.1 != v)
def delL (s:MS) (l:List Int):MS:=l.foldl del1 s
theorem zAD {s:MS} {l:List Int} {i:Nat} (h:i < l.length):delL s (l.take (i+1))=del1 (delL s (l.take i)) l[i]:=by unfold delL;rw[Wp,Wq h,List.foldl_append];rfl
theorem ztQ {s:MS} {v:Int} (h:v∉s.2.map (·.1)):del1 s v=s:=by
 unfold del1;rw[List.filter_eq_self.2 fun p hp=>?_];simp only[bne_iff_ne,ne_eq]
 exact fun e=>h (Wv.2 ⟨p,hp,e⟩)
theorem zn9 {v:Int}:∀ {ps:List (Int × Int)} {j:Nat},(ps.map (·.1)).Nodup→(h:j < ps.length)→ps[j].1=v→ps.eraseIdx j=ps.filter fun p=>p.1 != v
 |
  p::ps,0,hn,_,he=>by
  simp only[List.map_cons,List.nodup_cons] at hn;simp only[WQ] at he;have h1:=ztQ (s:=((0:Int),ps)) (v:=v) (by rw[←he];exact hn.1);have h2:ps.filter (fun p=>p.1 != v)=ps:=congrArg Prod.snd h1;rw[List.eraseIdx_cons_zero,WR,he,h2];simp
 |
  p::ps,j+1,hn,hj,he=>by
  simp only[List.map_cons,List.nodup_cons] at hn;simp only[List.getElem_cons_succ] at he
  have hj':j < ps.length:=by simpa using hj
  have hne:p.1≠v:=fun e=>hn.1 (Wv.2 ⟨ps[j],We hj',by rw[he,e]⟩)
  rw[List.eraseIdx_cons_succ,WR,zn9 hn.2 hj' he];simp[hne]
theorem SetS.filter {c:Int} {ps:List (Int × Int)} (h:SetS c ps) (f:Int × Int→Bool):SetS c (ps.filter f):=by have hsub:(ps.filter f).Sublist ps:=List.filter_sublist;exact⟨h.keys.sublist (hsub.map _),h.borns.sublist (hsub.map _),fun p hp=>h.lt p (hsub.mem hp),h.top,Nat.le_trans hsub.length_le h.len⟩
theorem zwn:∀ {l:List Int} {s:MS},s.ok→(delL s l).ok∧(delL s l).1=s.1∧(delL s l).2.length≤s.2.length
 | [],s,h=>⟨h,rfl,Wb _⟩
 |
  v::l,s,h=>by
  obtain⟨h1,h2,h3⟩:=zwn (l:=l) (s:=del1 s v) (SetS.filter h _);exact⟨h1,h2,Nat.le_trans h3 (List.length_filter_le _ _)⟩
theorem zts {y:Int}:∀ {l:List Int} {s:MS},y∈(delL s l).keys↔y∈s.keys∧y∉l
 | [],s=>by simp[delL]
 |
  v::l,s=>by
  show y∈(delL (del1 s v) l).keys↔_;rw[zts]
  have:y∈(del1 s v).keys↔y∈s.keys∧y≠v:=by
   simp only[MS.keys,del1,Wv,List.mem_filter,bne_iff_ne,ne_eq];constructor
   · rintro⟨p,⟨h1,h2⟩,rfl⟩;exact⟨⟨p,h1,rfl⟩,h2⟩
   · rintro⟨⟨p,h1,rfl⟩,h2⟩;exact⟨p,⟨h1,h2⟩,rfl⟩
  rw[this,WH,not_or,and_assoc]
theorem zvj {α β:Type} {f:α→β}:∀ {l:List α} {j:Nat},(l.map f).eraseIdx j=(l.eraseIdx j).map f
 | [],_=>rfl
 | _::_,0=>rfl
 | a::l,j+1=>congrArg (f a::·) (zvj (l:=l) (j:=j))
theorem zAH {ps:List (Int × Int)} {j:Nat}:((enL ps).map cm).eraseIdx j=(enL (ps.eraseIdx j)).map cm:=by unfold enL;rw[Wr,Wr,zvj]
def zek (exit:List Int) (s:St) (a:MS):MS :=
 let b:=addL (delL a (zlF s)) (zfj s)
 if zgx s=true then addL b exit else b
theorem zpi (s:St):(zfj s).length≤zF s.e:=by
 have:∀(l:List Ex) (a:List Int),(zo0 a l).length≤a.length+zF l:=by
  intro l
  induction l with
  | nil=>intro a;rw[zo0,zF];simp
  |
   cons x l ih =>
   intro a;rw[zo0,zF];have h1:=ih (zfw a (zgA x));have h2:=zrB (a:=a) (b:=zgA x);have h3:=zma x;omega
 have:=this s.e [];show (zo0 [] s.e).length≤_
 simpa using this
theorem zyD {exit:List Int} {s:St} {a:MS} (h:a.ok) (h1:a.1+zF s.e+exit.length≤1000000) (h2:a.2.length+zF s.e+exit.length≤1000000) :
  (zek exit s a).ok∧(zek exit s a).1≤a.1+zF s.e+exit.length∧(zek exit s a).2.length≤a.2.length+zF s.e+exit.length:=by
 obtain⟨d1,d2,d3⟩:=zwn (l:=zlF s) h;have hu:=zpi s;have u1:=zdQ (l:=zfj s) (s:=delL a (zlF s));have u2:=zl2 (l:=zfj s) d1 (by omega) (by omega);unfold zek;simp only;split
 · have e1:=zdQ (l:=exit) (s:=addL (delL a (zlF s)) (zfj s));have e2:=zl2 (l:=exit) u2 (by omega) (by omega);exact⟨e2,by omega,by omega⟩
 · exact⟨u2,by omega,by omega⟩
theorem zpV {exit:List Int} {s:St} {a:MS} {l:List Int} (h:∀x,x∈a.keys↔x∈l) (y:Int):y∈(zek exit s a).keys↔y∈zfd exit s l:=by
 unfold zek;simp only;rw[zgD];split
 · rename_i hl;rw[zeM,zeM,zts,h];simp[hl,or_assoc]
 · rename_i hl;rw[zeM,zts,h];simp[hl]
theorem Qbj {p:Prop}(h:p:=by(try simp only[evWB,Nat.reduceBEq,Nat.reduceAdd,Nat.reduceSub,Nat.reduceLeDiff,Nat.reduceLT,implies_true,zB,za,St.cells])<;>exact fin6):p:=h
theorem ziX (a:MS) (s:St) (exit:List Int) (ha:a.ok) (hsz:zF s.e≤100000) (h1:a.1+zF s.e+exit.length≤1000000) (h2:a.2.length+zF s.e+exit.length≤1000000) :
  zab Tryz.prog zeh [.mp 0 0,.agg s.cells,za exit] [(0,.row 3 ((setM a.1 a.2).map cm) 0)] 1
  (fun v H nx=>v=.tup []∧H=[(0,.row 3 ((setM (zek exit s a).1 (zek exit s a).2).map cm) 0)]∧nx=1):=by
 refine zbc (fn_x zoE rfl ?_);unfold zjg;have hB:=hBig;have hdef:=zoG s;have huse:=ziU s hsz;have hlv:=zl5 s
 have hb:zek exit s a=if zgx s=true then addL (addL (delL a (zlF s)) (zfj s)) exit else addL (delL a (zlF s)) (zfj s):=rfl
 have hu:=zpi s;rw[hb];generalize zek exit s a=bs at hb;generalize zlF s=ds at hdef ⊢;generalize zfj s=us at huse hu ⊢;generalize zgx s=lv at hlv ⊢
 have hok:=fun i=>zwn (l:=ds.take i) ha
 obtain⟨op,var,width,next,els,tgt,l,cs⟩:=s;simp only at h1 h2 hu
 (repeat first|simp(disch:=try exact dis1) only[evD,Nat.reduceBEq,Nat.reduceAdd,Nat.reduceLeDiff,St.cells,za]|with_reducible first|intro _|refine aJ ?_)
 refine ze (zd hdef rfl) ?_
 (refine Qp ?_;intros)
 refine zk (fun i:Nat=>([(0,.mp 0 0),(2,za exit),(4,encP 8 (St.cells ⟨op,var,width,next,els,tgt,l,cs⟩)),(9,za ds),(10,.int .i64 ds.length),(11,.int .i64 i)],[(0,.row 3 ((setM (delL a (ds.take i)).1 (delL a (ds.take i)).2).map cm) 0)])) 1
  (fun i=>i≤ds.length) (fun i=>ds.length - i) 0 (Wa _) (by rw[Wm,show delL a []=a from rfl];exact(Ent.tabB [(0,0,0)] [] rfl rfl rfl Qbj Qbj)) ?_
 rintro i hi wf;unfold zfZ
 by_cases hil:i < ds.length
 ·
  have hgl:=zq (f:=cI) (d:=[]) hil;have htk:=zAD (s:=a) hil;obtain⟨g1,g2,g3⟩:=hok i;generalize delL a (ds.take i)=b at g1 g2 g3 htk ⊢;obtain⟨c,ps⟩:=b
  by_cases hm:ds[i]∈ps.map (·.1)
  ·
   obtain⟨j,hj,hje,hf⟩:=zmU hm
   have e1:del1 (c,ps) ds[i]=(c,ps.eraseIdx j):=by unfold del1;rw[zn9 g1.keys hj hje]
   rw[e1] at htk
   (repeat first|simp(disch:=try exact dis1) only[evD,Nat.reduceBEq,Nat.reduceAdd,Nat.reduceLeDiff,dT,hgl,za,zB,evM,zuJ,hf,mdTo,zAH]|with_reducible first|intro _|refine aJ ?_)
   exact⟨i+1,by omega,by omega,(Ent.tabB [(0,0,0)] [] rfl rfl rfl (by(try simp only[evWB,Nat.reduceBEq,Nat.reduceAdd,Nat.reduceSub,Nat.reduceLeDiff,Nat.reduceLT,implies_true,zB,za,htk,St.cells])<;>exact fin6) (by(try simp only[evWB,Nat.reduceBEq,Nat.reduceAdd,Nat.reduceSub,Nat.reduceLeDiff,Nat.reduceLT,implies_true,zB,za,htk,St.cells])<;>exact fin6))⟩
  ·
   have hf:=zkE hm;have e1:del1 (c,ps) ds[i]=(c,ps):=ztQ hm;rw[e1] at htk
   (repeat first|simp(disch:=try exact dis1) only[evD,Nat.reduceBEq,Nat.reduceAdd,Nat.reduceLeDiff,dT,hgl,za,zB,evM,zuJ,hf,mdTo]|with_reducible first|intro _|refine aJ ?_)
   exact⟨i+1,by omega,by omega,(Ent.tabB [(0,0,0)] [] rfl rfl rfl (by(try simp only[evWB,Nat.reduceBEq,Nat.reduceAdd,Nat.reduceSub,Nat.reduceLeDiff,Nat.reduceLT,implies_true,zB,za,htk,St.cells])<;>exact fin6) (by(try simp only[evWB,Nat.reduceBEq,Nat.reduceAdd,Nat.reduceSub,Nat.reduceLeDiff,Nat.reduceLT,implies_true,zB,za,htk,St.cells])<;>exact fin6))⟩
 ·
  obtain⟨g1,g2,g3⟩:=hok i;rw[Wi (by omega)] at g1 g2 g3 ⊢;generalize delL a ds=b at g1 g2 g3 ⊢
  (refine Qg ?_;intros)
  unfold zgi
  (repeat first|simp(disch:=try exact dis1) only[evD,Nat.reduceBEq,Nat.reduceAdd,Nat.reduceLeDiff,encP,za,St.cells]|with_reducible first|intro _|refine aJ ?_)
  refine ze (zd huse rfl) ?_
  (refine QK ?_;intros)
  refine z6 [(0,0,0)] 1 _ (zhP b us g1 (by omega) (by omega)) rfl rfl Qav Qav ?_;rintro _ _ _ ⟨rfl,rfl,rfl⟩;have hb1:=zdQ (l:=us) (s:=b);have hb2:=zl2 (l:=us) g1 (by omega) (by omega);generalize addL b us=d at hb1 hb2 ⊢
  (repeat first|simp(disch:=try exact dis1) only[evD,Nat.reduceBEq,Nat.reduceAdd,Nat.reduceLeDiff,renM,encP,za,St.cells]|with_reducible first|intro _|refine aJ ?_)
  refine ze (zd hlv rfl) ?_
  cases lv with
  |
   true =>
   rw[if_pos rfl]
   (refine QK ?_;intros)
   refine z6 [(0,0,0)] 1 _ (zhP d exit hb2 (by omega) (by omega)) rfl rfl Qav Qav ?_;rintro _ _ _ ⟨rfl,rfl,rfl⟩
   (repeat first|simp(disch:=try exact dis1) only[evD,Nat.reduceBEq,Nat.reduceAdd,Nat.reduceLeDiff,renM,ze7]|with_reducible first|intro _|refine aJ ?_)
   exact⟨_,_,_,(Ent.tabB [(0,0,0)] [] rfl rfl rfl Qav Qav),rfl,rfl,rfl⟩
  |
   false =>
   rw[if_neg (by simp)]
   (repeat first|simp(disch:=try exact dis1) only[evD,Nat.reduceBEq,Nat.reduceAdd,Nat.reduceLeDiff,ze7]|with_reducible first|intro _|refine aJ ?_)
   exact⟨_,_,_,(Ent.tabB [(0,0,0)] [] rfl rfl rfl Qav Qav),rfl,rfl,rfl⟩
def mps (F n:Nat):List (List AV):=(Wg n).map fun i=>[.mp F (i+1)]
theorem zhn {F n:Nat}:(mps F n).length=n:=by simp[mps]
theorem zfe {F n i:Nat} (h:i < n):(mps F n).getD i []=[.mp F (i+1)]:=by simp[mps,WI,h]
def bdH (n:Nat) (S T:Nat→MS):AH:=[(0,.row 1 (mps 2 n) 0),(1,.row 1 (mps 3 n) 0),(2,famS n S),(3,famS n T)]
theorem ziN {H HH:AH} {σ:Nat→Nat→Option (Nat × Nat × Nat)} {D:Nat→Nat→Prop} {F F' n:Nat} (h:∀i,σ F' (i+1)=some (F,i+1,0)):RowV H HH σ D (mps F n) (mps F' n):=by
 refine⟨by simp[mps],fun i c2 hi=>?_⟩;unfold mps at hi ⊢;simp only[WJ,WS] at hi ⊢;obtain⟨k,hk,rfl⟩:=hi;refine⟨_,⟨k,hk,rfl⟩,rfl,fun j x y h1 h2=>?_⟩
 cases j with
 | succ j=>cases h1
 |
  zero =>
  cases h1;cases h2;exact .mp _ _ _ _ (h k)
def zaT (s:MS):List Int:=zcI s.keys
def addT (n:Nat) (S:Nat→MS) (a:MS) (t:Int):MS:=if 0≤t∧t < n then addL a (zaT (S t.toNat)) else a
theorem Qaw {p:Prop}(h:p:=by(try simp only[evWB,Nat.reduceBEq,Nat.reduceAdd,Nat.reduceSub,Nat.reduceLeDiff,Nat.reduceLT,implies_true,famS])<;>exact fin8):p:=h
theorem bd_l1 {Q:QT} (n b:Nat) (hb:b < n) (S T:Nat→MS) (ts exit:List Int) (sts:List St) (ch:Bool)
  (hS:∀i,i < n→(S i).ok) (hT:(T b).ok) (hroom:∀i,i < ts.length→(((ts.take i).foldl (addT n S) (T b)).ok∧∀j,j < n→((ts.take i).foldl (addT n S) (T b)).1+(S j).2.length≤1000000∧((ts.take i).foldl (addT n S) (T b)).2.length+(S j).2.length≤1000000))
  (hlen:ts.length≤1000000) (hn:n≤1000000) (bl:List Bl) (ad:Int) (hbl:bl.length=n)
  (hfin:wpX Tryz.prog 0 zav Q [(1,za exit),(2,encP 2 [.int .u32 ad,encL 2 Bl.cells bl]),(6,.own 0 0 0 0 n),(7,.own 1 0 0 0 n),(9,.bool ch),(10,.int .i64 b),(11,encL 8 St.cells sts),(62,za ts),(63,.int .i64 ts.length),(64,.int .i64 ts.length),(65,.bool false)] (bdH n S (updF T b (ts.foldl (addT n S) (T b)))) 4)
  {K:Kn} {H:AH} {nx:Nat} (hent:Ent 0 K H nx [(1,za exit),(2,encP 2 [.int .u32 ad,encL 2 Bl.cells bl]),(6,.own 0 0 0 0 n),(7,.own 1 0 0 0 n),(9,.bool ch),(10,.int .i64 b),(11,encL 8 St.cells sts),(62,za ts),(63,.int .i64 ts.length),(64,.int .i64 0)] (bdH n S T) 4) :
  zjG Tryz.prog 0 zbN (zbv 6 (seqQ Tryz.prog 0 zav Q)) K H nx:=by
 have hB:=hBig
 refine zk (fun i:Nat=>([(1,za exit),(2,encP 2 [.int .u32 ad,encL 2 Bl.cells bl]),(6,.own 0 0 0 0 n),(7,.own 1 0 0 0 n),(9,.bool ch),(10,.int .i64 b),(11,encL 8 St.cells sts),(62,za ts),(63,.int .i64 ts.length),(64,.int .i64 i)],bdH n S (updF T b ((ts.take i).foldl (addT n S) (T b))))) 4
  (fun i=>i≤ts.length) (fun i=>ts.length - i) 0 (Wa _) (by rw[Wm,List.foldl_nil,ztX];exact hent) ?_
 rintro i hi wf;unfold zbN
 by_cases hil:i < ts.length
 ·
  have hgl:=zq (f:=cI) (d:=[]) hil;obtain⟨r1,r2⟩:=hroom i hil;have hst:(ts.take (i+1)).foldl (addT n S) (T b)=addT n S ((ts.take i).foldl (addT n S) (T b)) ts[i]:=zo6 hil;generalize (ts.take i).foldl (addT n S) (T b)=a at r1 r2 hst ⊢;generalize ts[i]=t at hgl hst
  by_cases hin:0≤t∧t < n
  ·
   obtain⟨t',rfl⟩:=Int.eq_ofNat_of_zero_le hin.1
   have ht:t' < n:=by omega
   (repeat first|simp(disch:=try exact dis1) only[evD,Nat.reduceBEq,Nat.reduceAdd,Nat.reduceLeDiff,dT,hgl,fldP,za,bdH,zhn,zfe ht,zfe hb]|with_reducible first|intro _|refine aJ ?_)
   have hkl:(zaT (S t')).length=(S t').2.length:=by unfold zaT MS.keys;rw[(zam _).length_eq,Wl]
   have hadd:=addL a (zaT (S t'))
   have e1:addT n S a (t':Int)=addL a (zaT (S t')):=by unfold addT;rw[if_pos hin];rfl
   rw[e1] at hst;have hks:zcI ((S t').2.map (·.1))=zaT (S t'):=rfl;have hT2:updF T b a b=a:=zjp;have hsa:=zp8 n b hb (updF T b a) (zaT (S t')) (by rw[hT2];exact r1) (by rw[hT2,hkl];exact(r2 t' ht).1) (by rw[hT2,hkl];exact(r2 t' ht).2);rw[hT2,zsC] at hsa
   (repeat' with_reducible apply Wh)
   all_goals try omega
   all_goals (refine z6 [(0,2,0)] 1 _ (zcv n t' ht S (hS t' ht)) rfl rfl Qaw Qaw ?_)
   all_goals (rintro _ _ _ ⟨rfl,rfl,rfl⟩;(repeat first|simp(disch:=try exact dis1) only[evD,Nat.reduceBEq,Nat.reduceAdd,Nat.reduceLeDiff,renE,renF,hks,bdH,za,zhn,zfe ht,zfe hb]|with_reducible first|intro _|refine aJ ?_))
   all_goals (repeat' with_reducible apply Wh)
   all_goals try omega
   all_goals (refine z6 [(0,3,0)] 1 _ (hsa) rfl rfl Qaw Qaw ?_)
   all_goals (rintro _ _ _ ⟨rfl,rfl,rfl⟩;(repeat first|simp(disch:=try exact dis1) only[evD,Nat.reduceBEq,Nat.reduceAdd,Nat.reduceLeDiff,renF,bdH,za]|with_reducible first|intro _|refine aJ ?_))
   all_goals exact⟨i+1,by omega,by omega,(Ent.tab [(0,0,0),(1,1,0),(2,2,0),(3,3,0)] [] rfl (by(try simp only[evWB,Nat.reduceBEq,Nat.reduceAdd,Nat.reduceSub,Nat.reduceLeDiff,Nat.reduceLT,implies_true,bdH,za,hst,famS])<;>exact fin8) (by(try simp only[evWB,Nat.reduceBEq,Nat.reduceAdd,Nat.reduceSub,Nat.reduceLeDiff,Nat.reduceLT,implies_true,bdH,za,hst,famS])<;>exact fin8))⟩
  ·
   have e1:addT n S a t=a:=if_neg hin;rw[e1] at hst
   by_cases h0:0≤t
   ·
    have h1:¬t < bl.length:=by omega
    (repeat first|simp(disch:=try exact dis1) only[evD,Nat.reduceBEq,Nat.reduceAdd,Nat.reduceLeDiff,dT,dF,hgl,fldP,za,bdH]|with_reducible first|intro _|refine aJ ?_)
    exact⟨i+1,by omega,by omega,(Ent.tab [(0,0,0),(1,1,0),(2,2,0),(3,3,0)] [] rfl (by(try simp only[evWB,Nat.reduceBEq,Nat.reduceAdd,Nat.reduceSub,Nat.reduceLeDiff,Nat.reduceLT,implies_true,bdH,za,hst,famS])<;>exact fin8) (by(try simp only[evWB,Nat.reduceBEq,Nat.reduceAdd,Nat.reduceSub,Nat.reduceLeDiff,Nat.reduceLT,implies_true,bdH,za,hst,famS])<;>exact fin8))⟩
   ·
    (repeat first|simp(disch:=try exact dis1) only[evD,Nat.reduceBEq,Nat.reduceAdd,Nat.reduceLeDiff,dT,dF,hgl,fldP,za,bdH]|with_reducible first|intro _|refine aJ ?_)
    exact⟨i+1,by omega,by omega,(Ent.tab [(0,0,0),(1,1,0),(2,2,0),(3,3,0)] [] rfl (by(try simp only[evWB,Nat.reduceBEq,Nat.reduceAdd,Nat.reduceSub,Nat.reduceLeDiff,Nat.reduceLT,implies_true,bdH,za,hst,famS])<;>exact fin8) (by(try simp only[evWB,Nat.reduceBEq,Nat.reduceAdd,Nat.reduceSub,Nat.reduceLeDiff,Nat.reduceLT,implies_true,bdH,za,hst,famS])<;>exact fin8))⟩
 ·
  obtain rfl:i=ts.length:=by omega
  rw[WG]
  (refine Qg ?_;intros)
  exact hfin
def zeu (exit:List Int) (sts:List St) (i:Nat) (a:MS):MS:=(sts.drop i).foldr (zek exit) a
theorem zEo {exit:List Int} {sts:List St} {i:Nat} {a:MS} (h:i < sts.length):zeu exit sts i a=zek exit sts[i] (zeu exit sts (i+1) a):=by unfold zeu;rw[Wj h];rfl
theorem Qbk {p:Prop}(h:p:=by(try simp only[evWB,Nat.reduceBEq,Nat.reduceAdd,Nat.reduceSub,Nat.reduceLeDiff,Nat.reduceLT,implies_true,bdH,za,famS,List.cons_append,List.nil_append])<;>exact fin8):p:=h
theorem bd_l2 {Q:QT} (n b:Nat) (S T:Nat→MS) (exit:List Int) (sts:List St) (ch:Bool) (a:MS)
  (hroom:∀i (hi:i < sts.length),(zeu exit sts (i+1) a).ok∧zF sts[i].e≤100000∧(zeu exit sts (i+1) a).1+zF sts[i].e+exit.length≤1000000∧(zeu exit sts (i+1) a).2.length+zF sts[i].e+exit.length≤1000000)
  (hlen:sts.length≤1000000) (bl:List Bl) (ad:Int)
  (hfin:wpX Tryz.prog 0 zaB Q [(1,za exit),(2,encP 2 [.int .u32 ad,encL 2 Bl.cells bl]),(6,.own 0 0 0 0 n),(7,.own 1 0 0 0 n),(9,.bool ch),(10,.int .i64 b),(11,encL 8 St.cells sts),(14,.mp 4 0),(15,.int .i64 (-1)),(100,.bool false)] (bdH n S T++[(4,.row 3 ((setM (zeu exit sts 0 a).1 (zeu exit sts 0 a).2).map cm) 0)]) 5)
  {K:Kn} {H:AH} {nx:Nat} (hent:Ent 0 K H nx [(1,za exit),(2,encP 2 [.int .u32 ad,encL 2 Bl.cells bl]),(6,.own 0 0 0 0 n),(7,.own 1 0 0 0 n),(9,.bool ch),(10,.int .i64 b),(11,encL 8 St.cells sts),(14,.mp 4 0),(15,.int .i64 ((sts.length:Int) - 1))] (bdH n S T++[(4,.row 3 ((setM a.1 a.2).map cm) 0)]) 5) :
  zjG Tryz.prog 0 zbM (zbv 8 (seqQ Tryz.prog 0 zaB Q)) K H nx:=by
 have hB:=hBig
 have hz:zeu exit sts sts.length a=a:=by unfold zeu;rw[List.drop_length];rfl
 refine zk (fun i:Nat=>([(1,za exit),(2,encP 2 [.int .u32 ad,encL 2 Bl.cells bl]),(6,.own 0 0 0 0 n),(7,.own 1 0 0 0 n),(9,.bool ch),(10,.int .i64 b),(11,encL 8 St.cells sts),(14,.mp 4 0),(15,.int .i64 ((i:Int) - 1))],bdH n S T++[(4,.row 3 ((setM (zeu exit sts i a).1 (zeu exit sts i a).2).map cm) 0)])) 5
  (fun i=>i≤sts.length) (fun i=>i) sts.length (Wb _) (by rw[hz];exact hent) ?_
 rintro i hi wf;unfold zbM
 rcases WE i with rfl|hp
 ·
  (repeat first|simp(disch:=try exact dis1) only[evD,Nat.reduceBEq,Nat.reduceAdd,Nat.reduceLeDiff,dF,WT,bdH,Wc,Wf]|with_reducible first|intro _|refine aJ ?_)
  exact hfin
 ·
  obtain⟨i,rfl⟩:∃k,i=k+1:=⟨i - 1,by omega⟩
  have hil:i < sts.length:=by omega
  have hgl:=zq (f:=St.cells) (d:=[]) hil;obtain⟨r1,r2,r3,r4⟩:=hroom i hil;have hat:=zEo (exit:=exit) (a:=a) hil
  have ei:((i+1:Nat):Int) - 1=i:=by omega
  have hbk:=ziX (zeu exit sts (i+1) a) sts[i] exit r1 r2 r3 r4;rw[←hat] at hbk;generalize zeu exit sts (i+1) a=c at r1 r3 r4 hbk ⊢
  (repeat first|simp(disch:=try exact dis1) only[evD,Nat.reduceBEq,Nat.reduceAdd,Nat.reduceLeDiff,ei,dT,hgl,bdH,Wc,Wf]|with_reducible first|intro _|refine aJ ?_)
  refine z6 [(0,4,0)] 1 _ (hbk) rfl rfl fin8 fin8 ?_;rintro _ _ _ ⟨rfl,rfl,rfl⟩
  (refine QJ ?_;intros)
  exact⟨i,by omega,by omega,(Ent.tab [(0,0,0),(1,1,0),(2,2,0),(3,3,0),(4,4,0)] [] rfl Qbk Qbk)⟩
theorem Qaa {p q:Prop}(k:q)(h:Im q p:=by(repeat first|simp(disch:=try exact dis1) only[evD,Nat.reduceBEq,Nat.reduceAdd,Nat.reduceLeDiff,ztJ] | ((with_reducible apply Im.i);intro _) | ((with_reducible apply Im.a);omega));exact Im.r):p:=h k
theorem Qay {p:Prop}(h:p:=by(try simp only[evWB,Nat.reduceBEq,Nat.reduceAdd,Nat.reduceSub,Nat.reduceLeDiff,Nat.reduceLT,implies_true,bdH,za,famS])<;>exact fin8):p:=h
theorem bd_k3 {Q:QT} (n b:Nat) (hb:b < n) (hn:n≤1000000) (S T:Nat→MS) (exit:List Int) (sts:List St) (ch:Bool) (a:MS) (z:Int) (y:Bool)
  (ha:a.ok) (hS:(S b).ok) (h1:(S b).1+a.2.length≤1000000) (h2:(S b).2.length+a.2.length≤1000000) (bl:List Bl) (ad:Int)
  (hfin:∀K H nx,Ent 0 K H nx [(1,za exit),(2,encP 2 [.int .u32 ad,encL 2 Bl.cells bl]),(6,.own 0 0 0 0 n),(7,.own 1 0 0 0 n),(9,.bool (ch||decide ((S b).2.length < (addL (S b) (zaT a)).2.length))),(10,.int .i64 ((b:Int) - 1))] (bdH n (updF S b (addL (S b) (zaT a))) T) 4→Q .normal K H nx) :
  wpX Tryz.prog 0 zaB (zbv 5 (seqQ Tryz.prog 0 zah Q)) [(1,za exit),(2,encP 2 [.int .u32 ad,encL 2 Bl.cells bl]),(6,.own 0 0 0 0 n),(7,.own 1 0 0 0 n),(9,.bool ch),(10,.int .i64 b),(11,encL 8 St.cells sts),(14,.mp 4 0),(15,.int .i64 z),(100,.bool y)] (bdH n S T++[(4,.row 3 ((setM a.1 a.2).map cm) 0)]) 5:=by
 have hB:=hBig;unfold zaB;have hks:zcI (a.2.map (·.1))=zaT a:=rfl
 have hkl:(zaT a).length=a.2.length:=by unfold zaT MS.keys;rw[(zam _).length_eq,Wl]
 have hsa:=zp8 n b hb S (zaT a) hS (by rw[hkl];exact h1) (by rw[hkl];exact h2)
 (repeat first|simp(disch:=try exact dis1) only[evD,Nat.reduceBEq,Nat.reduceAdd,Nat.reduceLeDiff,bdH,za,zhn,zfe hb,Wc,Wf]|with_reducible first|intro _|refine aJ ?_)
 (repeat' with_reducible apply Wh)
 all_goals try omega
 all_goals (refine z6 [(0,4,0)] 1 _ (zpI a.1 a.2 ha) rfl rfl fin8 fin8 ?_)
 all_goals (rintro _ _ _ ⟨rfl,rfl,rfl⟩;(repeat first|simp(disch:=try exact dis1) only[evD,Nat.reduceBEq,Nat.reduceAdd,Nat.reduceLeDiff,renE,renM,hks,za,zhn,zfe hb]|with_reducible first|intro _|refine aJ ?_))
 all_goals (repeat' with_reducible apply Wh)
 all_goals try omega
 all_goals (refine z6 [(0,2,0)] 1 _ (hsa) rfl rfl Qaw Qaw ?_)
 all_goals (rintro _ _ _ ⟨rfl,rfl,rfl⟩;(repeat first|simp(disch:=try exact dis1) only[evD,Nat.reduceBEq,Nat.reduceAdd,Nat.reduceLeDiff,renF,za]|with_reducible first|intro _|refine aJ ?_))
 all_goals (by_cases hg:(S b).2.length < (addL (S b) (zaT a)).2.length)
 all_goals first
  | ((repeat first|simp(disch:=try exact dis1) only[evD,Nat.reduceBEq,Nat.reduceAdd,Nat.reduceLeDiff,dT hg]|with_reducible first|intro _|refine aJ ?_);unfold zah;(refine Qaa ?_;intros);refine hfin _ _ _ ?_;rw[decide_eq_true hg,Bool.or_true];exact(Ent.tab [(0,0,0),(1,1,0),(2,2,0),(3,3,0)] [] rfl Qay Qay))
  | ((repeat first|simp(disch:=try exact dis1) only[evD,Nat.reduceBEq,Nat.reduceAdd,Nat.reduceLeDiff,dF hg]|with_reducible first|intro _|refine aJ ?_);unfold zah;(refine Qaa ?_;intros);refine hfin _ _ _ ?_;rw[decide_eq_false hg,Bool.or_false];exact(Ent.tab [(0,0,0),(1,1,0),(2,2,0),(3,3,0)] [] rfl Qay Qay))
def zie (exit:List Int) (sts:List St) (t:MS):MS:=zeu exit sts 0 (addL (0,[]) (zaT t))
theorem Qbl {p:Prop}(h:p:=by(try simp only[evWB,Nat.reduceBEq,Nat.reduceAdd,Nat.reduceSub,Nat.reduceLeDiff,Nat.reduceLT,implies_true,bdH,za,famS,zB,List.cons_append,List.nil_append])<;>exact fin8):p:=h
theorem bd_k4 {Q:QT} (n b:Nat) (hb:b < n) (hn:n≤1000000) (S T:Nat→MS) (exit ts:List Int) (sts:List St) (ch:Bool)
  (hT:(T b).ok) (hroom:∀i (hi:i < sts.length),(zeu exit sts (i+1) (addL (0,[]) (zaT (T b)))).ok∧zF sts[i].e≤100000∧(zeu exit sts (i+1) (addL (0,[]) (zaT (T b)))).1+zF sts[i].e+exit.length≤1000000∧(zeu exit sts (i+1) (addL (0,[]) (zaT (T b)))).2.length+zF sts[i].e+exit.length≤1000000)
  (hlen:sts.length≤1000000) (ha:(zie exit sts (T b)).ok) (hS:(S b).ok) (h1:(S b).1+(zie exit sts (T b)).2.length≤1000000) (h2:(S b).2.length+(zie exit sts (T b)).2.length≤1000000) (bl:List Bl) (ad:Int)
  (hfin:∀K H nx,Ent 0 K H nx [(1,za exit),(2,encP 2 [.int .u32 ad,encL 2 Bl.cells bl]),(6,.own 0 0 0 0 n),(7,.own 1 0 0 0 n),(9,.bool (ch||decide ((S b).2.length < (addL (S b) (zaT (zie exit sts (T b)))).2.length))),(10,.int .i64 ((b:Int) - 1))] (bdH n (updF S b (addL (S b) (zaT (zie exit sts (T b))))) T) 4→Q .normal K H nx) :
  wpX Tryz.prog 0 zav (zbv 5 (seqQ Tryz.prog 0 zah Q)) [(1,za exit),(2,encP 2 [.int .u32 ad,encL 2 Bl.cells bl]),(6,.own 0 0 0 0 n),(7,.own 1 0 0 0 n),(9,.bool ch),(10,.int .i64 b),(11,encL 8 St.cells sts),(62,za ts),(63,.int .i64 ts.length),(64,.int .i64 ts.length),(65,.bool false)] (bdH n S T) 4:=by
 have hB:=hBig;unfold zav;have hks:zcI ((T b).2.map (·.1))=zaT (T b):=rfl
 have hkl:(zaT (T b)).length=(T b).2.length:=by unfold zaT MS.keys;rw[(zam _).length_eq,Wl]
 have htop:=hT.len
 have hsa:zab Tryz.prog zC [.mp 0 0,za (zaT (T b))] [(0,.row 3 [[.int .i64 0,.undef,.undef]] 0)] 1
   (fun v H nx=>v=.bool (decide (([]:List (Int × Int)).length < (addL (0,[]) (zaT (T b))).2.length))∧H=[(0,.row 3 ((setM (addL (0,[]) (zaT (T b))).1 (addL (0,[]) (zaT (T b))).2).map cm) 0)]∧nx=1) :=
  zhP (0,[]) (zaT (T b)) zpf (by rw[hkl];simp only;omega) (by rw[hkl];simp only[Wd];omega)
 (repeat first|simp(disch:=try exact dis1) only[evD,Nat.reduceBEq,Nat.reduceAdd,Nat.reduceLeDiff,bdH,za,zhn,zfe hb]|with_reducible first|intro _|refine aJ ?_)
 refine z6 [(0,3,0)] 1 _ (zcv n b hb T hT) rfl rfl Qaw Qaw ?_;rintro _ _ _ ⟨rfl,rfl,rfl⟩
 (repeat first|simp(disch:=try exact dis1) only[evD,Nat.reduceBEq,Nat.reduceAdd,Nat.reduceLeDiff,renE,renF,hks,za]|with_reducible first|intro _|refine aJ ?_)
 refine z6 [(0,4,0)] 1 _ (hsa) rfl rfl fin8 fin8 ?_;rintro _ _ _ ⟨rfl,rfl,rfl⟩
 (repeat first|simp(disch:=try exact dis1) only[evD,Nat.reduceBEq,Nat.reduceAdd,Nat.reduceLeDiff,renM,za]|with_reducible first|intro _|refine aJ ?_)
 refine bd_l2 n b S T exit sts ch (addL (0,[]) (zaT (T b))) hroom hlen bl ad (bd_k3 n b hb hn S T exit sts ch (zie exit sts (T b)) (-1) false ha hS h1 h2 bl ad hfin) ?_;exact(Ent.tab [(0,0,0),(1,1,0),(2,2,0),(3,3,0),(4,4,0)] [] rfl Qbl Qbl)
structure SetU (U:List Int) (s:MS):Prop where
 ok:s.ok
 clock:s.1=s.2.length
 sub:∀x∈s.keys,x∈U
theorem SetU.len {U:List Int} {s:MS} (h:SetU U s):s.2.length≤U.length:=by
 have:=List.Nodup.length_le_of_subset h.ok.keys (show ∀a∈s.2.map (·.1),a∈U from h.sub)
 rwa [Wl] at this
theorem SetU.none {U:List Int}:SetU U (0,[]):=⟨zpf,rfl,fun x h=>by simp[MS.keys] at h⟩
theorem zzp {s:MS} {v:Int} (h:s.1=s.2.length):(add1 s v).1=(add1 s v).2.length:=by
 unfold add1;split
 · exact h
 · simp[h]
theorem zrJ:∀ {l:List Int} {s:MS},s.1=s.2.length→(addL s l).1=(addL s l).2.length
 | [],_,h=>h
 |
  v::l,s,h=>by
  show (addL (add1 s v) l).1=_;exact zrJ (l:=l) (zzp h)
theorem SetU.add {U:List Int} {s:MS} {l:List Int} (h:SetU U s) (hl:∀x∈l,x∈U) (hU:U.length+l.length≤1000000):SetU U (addL s l):=by
 have h1:=h.len;have h2:=h.clock;refine⟨zl2 h.ok (by omega) (by omega),zrJ h.clock,fun x hx=>?_⟩
 rcases zeM.1 hx with h3|h3
 · exact h.sub x h3
 · exact hl x h3
theorem zjR {s:MS} {x:Int}:x∈zaT s↔x∈s.keys:=(zam _).mem_iff
theorem zkc {s:MS}:(zaT s).length=s.2.length:=by unfold zaT MS.keys;rw[(zam _).length_eq,Wl]
def zbn (k:Nat):List St→Nat
 | []=>0
 | s::l=>zF s.e+k+zbn k l
theorem zrI {k:Nat} {l:List St} {i:Nat} (h:i < l.length):zbn k (l.drop i)=zF l[i].e+k+zbn k (l.drop (i+1)):=by rw[Wj h];rfl
theorem zsR {exit:List Int}:∀ {l:List St} {a:MS},a.ok→a.1+zbn exit.length l≤1000000→a.2.length+zbn exit.length l≤1000000 →
  (l.foldr (zek exit) a).ok∧(l.foldr (zek exit) a).1≤a.1+zbn exit.length l∧(l.foldr (zek exit) a).2.length≤a.2.length+zbn exit.length l
 | [],a,h,_,_=>⟨h,by show a.1≤a.1+(0:Nat);omega,Wb _⟩
 |
  s::l,a,h,h1,h2=>by
  have e:zbn exit.length (s::l)=zF s.e+exit.length+zbn exit.length l:=rfl;rw[e] at h1 h2 ⊢;obtain⟨i1,i2,i3⟩:=zsR (exit:=exit) (l:=l) h (by omega) (by omega);obtain⟨j1,j2,j3⟩:=zyD (exit:=exit) (s:=s) i1 (by omega) (by omega);exact⟨j1,by show (zek exit s (l.foldr (zek exit) a)).1≤_;omega,by show (zek exit s (l.foldr (zek exit) a)).2.length≤_;omega⟩
theorem zum {exit:List Int} {a:MS} {m:List Int} (h:∀x,x∈a.keys↔x∈m):∀(l:List St) (x:Int),x∈(l.foldr (zek exit) a).keys↔x∈zfn exit l m
 | [],x=>h x
 | s::l,x=>zpV (fun y=>zum h l y) x
abbrev BS:=(Nat→MS) × (Nat→MS) × Bool
def outM (n:Nat) (sts:List St) (p:BS) (b:Nat):Nat→MS:=updF p.2.1 b ((zI sts).foldl (addT n p.1) (p.2.1 b))
def stM (exit:List Int) (bl:List Bl) (p:BS) (b:Nat):BS :=
 let sts:=(bl.map (·.stmts)).getD b []
 if sts.length=0 then p else
 let a:=zie exit sts (outM bl.length sts p b b)
 (updF p.1 b (addL (p.1 b) (zaT a)),outM bl.length sts p b,p.2.2||decide ((p.1 b).2.length < (addL (p.1 b) (zaT a)).2.length))
def zmn (exit:List Int) (bl:List Bl):Nat→BS→BS
 | 0,p=>p
 | k+1,p=>zmn exit bl k (stM exit bl p k)
def zen:List St→Int
 | []=>0
 | s::l=>if s.check≠0 then s.check else zen l
def zgR:List Bl→Int
 | []=>0
 | b::l=>if zen b.stmts≠0 then zen b.stmts else zgR l
def zJ (l:List Bl):Nat:=(l.map fun b=>b.stmts.length).sum
theorem zo4 {l:List Bl} {i:Nat} (h:i < l.length):zJ (l.take (i+1))=zJ (l.take i)+l[i].stmts.length:=by unfold zJ;rw[Wp,Wq h,List.map_append,List.sum_append];simp
def zx9 (g:G):Int:=if (!g.blocks.isEmpty&&g.blocks.all fun b=>zdv b.stmts g.blocks.length)=true then zgR g.blocks else 18
theorem zpG {l:List St} {i:Nat} (h:i < l.length):zen (l.drop i)=if l[i].check≠0 then l[i].check else zen (l.drop (i+1)):=by rw[Wj h,zen]
theorem zqz {l:List Bl} {i:Nat} (h:i < l.length):zgR (l.drop i)=if zen l[i].stmts≠0 then zen l[i].stmts else zgR (l.drop (i+1)):=by rw[Wj h,zgR]
def zfE (g:G):Int:=if 256 < g.blocks.length∨1024 < zJ g.blocks then 6 else zx9 g
structure fewB (g:G):Prop where
 blocks:g.blocks.length≤300
 stmts:∀b∈g.blocks,b.stmts.length≤1100
theorem Qab {p q:Prop}(k:q)(h:Im q p:=by(repeat first|simp(disch:=try exact dis1) only[evD,Nat.reduceBEq,Nat.reduceAdd,Nat.reduceLeDiff,fldP,dT,zaR] | ((with_reducible apply Im.i);intro _) | ((with_reducible apply Im.a);omega));exact Im.r):p:=h k
theorem Qac {p q:Prop}(k:q)(h:Im q p:=by(repeat first|simp(disch:=try exact dis1) only[evD,Nat.reduceBEq,Nat.reduceAdd,Nat.reduceLeDiff,zaR] | ((with_reducible apply Im.i);intro _) | ((with_reducible apply Im.a);omega));exact Im.r):p:=h k
theorem zhL (g:G) (hf:fewB g):zu Tryz.prog zdk [.agg g.cells] (·=.int .i64 (zfE g)):=by
 refine fn_x znp rfl ?_;unfold zh0;have hB:=hBig;obtain⟨hb,hs⟩:=hf;obtain⟨ad,l⟩:=g;simp only at hb hs;simp only[G.cells,zfE]
 by_cases h256:256 < l.length
 ·
  rw[if_pos (.inl h256)]
  (refine Qab ?_;intros)
  exact⟨_,.int _ _ _,rfl⟩
 (refine Qh ?_;intros)
 refine zk (fun s:Nat × Nat=>([(1,encP 2 [.int .u32 ad,encL 2 Bl.cells l]),(3,.int .i64 s.2),(4,.int .i64 s.1)],[])) 0 (fun s=>s.1≤l.length∧s.2=zJ (l.take s.1)∧s.2≤1100 * s.1) (fun s=>l.length - s.1) (0,0) ⟨Wa _,rfl,Wb _⟩ (Ent.keep rfl fin5) ?_;rintro⟨i,n⟩ ⟨hi,hct,hn⟩ wf;simp only at hi hn hct;unfold zfD
 by_cases hl:i < l.length
 ·
  have hg:(l.map Bl.cells).getD i []=[.int .u32 l[i].addr,encL 8 St.cells l[i].stmts]:=zq hl;have hsl:=hs l[i] (We hl)
  (repeat first|simp(disch:=try exact dis1) only[evD,Nat.reduceBEq,Nat.reduceAdd,Nat.reduceLeDiff,fldP,dT,hg]|with_reducible first|intro _|refine aJ ?_)
  exact⟨(i+1,n+l[i].stmts.length),⟨by simp only;omega,by simp only;rw[zo4 hl,hct],by simp only;omega⟩,by simp only;omega,Ent.keep rfl fin5⟩
 rw[Wi (by omega)] at hct
 (refine Qh ?_;intros)
 unfold zfC
 by_cases h1024:1024 < n
 ·
  rw[if_pos (.inr (by omega))]
  (refine Qab ?_;intros)
  exact⟨_,.int _ _ _,rfl⟩
 rw[if_neg (by omega)];simp only[zx9]
 by_cases h0:l.length=0
 ·
  obtain rfl:l=[]:=Ww h0
  (repeat first|simp(disch:=try exact dis1) only[evD,Nat.reduceBEq,Nat.reduceAdd,Nat.reduceLeDiff,fldP,dT,dF,Wd,zaR]|with_reducible first|intro _|refine aJ ?_)
  exact⟨_,.int _ _ _,rfl⟩
 have he:l.isEmpty=false:=by cases l with|nil=>simp at h0|cons a l=>rfl
 rw[he]
 (refine Qh ?_;intros)
 refine zk (fun i:Nat=>([(1,encP 2 [.int .u32 ad,encL 2 Bl.cells l]),(5,.int .i64 i)],[])) 0 (fun i=>i≤l.length∧((l.drop i).all fun b=>zdv b.stmts l.length)=(l.all fun b=>zdv b.stmts l.length)) (fun i=>l.length - i) 0 ⟨Wa _,rfl⟩ (Ent.keep rfl fin5) ?_;rintro i ⟨hi,hgo⟩ wf;unfold zft
 by_cases hl:i < l.length
 ·
  have hg:(l.map Bl.cells).getD i []=[.int .u32 l[i].addr,encL 8 St.cells l[i].stmts]:=zq hl;rw[Wj hl,WK] at hgo
  (repeat first|simp(disch:=try exact dis1) only[evD,Nat.reduceBEq,Nat.reduceAdd,Nat.reduceLeDiff,fldP,dT,hg]|with_reducible first|intro _|refine aJ ?_)
  refine zai (zd (zpF l[i] l.length) rfl) ?_
  cases hc:zdv l[i].stmts l.length with
  |
   true =>
   rw[hc,Bool.true_and] at hgo
   (refine Qa ?_;intros)
   exact⟨i+1,⟨by omega,hgo⟩,by omega,Ent.keep rfl fin5⟩
  |
   false =>
   rw[hc,Bool.false_and] at hgo;rw[←hgo]
   (refine Qac ?_;intros)
   exact⟨_,.int _ _ _,rfl⟩
 rw[WL (by omega)] at hgo
 replace hgo:(l.all fun b=>zdv b.stmts l.length)=true:=by rw[←hgo];rfl
 rw[hgo]
 (refine Qh ?_;intros)
 unfold zfA
 (refine Qa ?_;intros)
 refine zk (fun i:Nat=>([(1,encP 2 [.int .u32 ad,encL 2 Bl.cells l]),(6,.int .i64 i)],[])) 0 (fun i=>i≤l.length∧zgR (l.drop i)=zgR l) (fun i=>l.length - i) 0 ⟨Wa _,rfl⟩ (Ent.keep rfl fin5) ?_;rintro i ⟨hi,hgo⟩ wf;unfold zfp
 by_cases hl:i < l.length
 ·
  have hg:(l.map Bl.cells).getD i []=[.int .u32 l[i].addr,encL 8 St.cells l[i].stmts]:=zq hl;rw[zqz hl] at hgo
  (repeat first|simp(disch:=try exact dis1) only[evD,Nat.reduceBEq,Nat.reduceAdd,Nat.reduceLeDiff,fldP,dT,hg]|with_reducible first|intro _|refine aJ ?_)
  generalize l[i].stmts=m at hg hgo;generalize l[i].addr=ad' at hg;refine zk (fun j:Nat=>([(1,encP 2 [.int .u32 ad,encL 2 Bl.cells l]),(6,.int .i64 i),(7,.int .i64 j)],[])) 0 (fun j=>j≤m.length∧zen (m.drop j)=zen m) (fun j=>m.length - j) 0 ⟨Wa _,rfl⟩ (Ent.keep rfl fin5) ?_;rintro j ⟨hj,hgo2⟩ wf2;unfold zfH
  by_cases hm:j < m.length
  ·
   rw[zpG hm] at hgo2
   (repeat first|simp(disch:=try exact dis1) only[evD,Nat.reduceBEq,Nat.reduceAdd,Nat.reduceLeDiff,fldP,dT,hg,zq hm,St.len,St.eight]|with_reducible first|intro _|refine aJ ?_)
   refine ze (zd (zoC m[j]) rfl) ?_
   by_cases hx:m[j].check=0
   ·
    rw[if_neg (by omega)] at hgo2
    (refine Qg ?_;intros)
    exact⟨j+1,⟨by omega,hgo2⟩,by omega,Ent.keep rfl fin5⟩
   ·
    rw[if_pos hx] at hgo2;rw[←hgo2,if_pos hx] at hgo;rw[←hgo]
    (repeat first|simp(disch:=try exact dis1) only[evD,Nat.reduceBEq,Nat.reduceAdd,Nat.reduceLeDiff,dT,zaR]|with_reducible first|intro _|refine aJ ?_)
    exact⟨_,.int _ _ _,rfl⟩
  ·
   rw[WL (by omega),zen] at hgo2;rw[←hgo2,if_neg (by omega)] at hgo
   (repeat first|simp(disch:=try exact dis1) only[evD,Nat.reduceBEq,Nat.reduceAdd,Nat.reduceLeDiff,fldP,dF,hg]|with_reducible first|intro _|refine aJ ?_)
   unfold zfk
   (refine Qa ?_;intros)
   exact⟨i+1,⟨by omega,hgo⟩,by omega,Ent.keep rfl fin5⟩
 rw[WL (by omega),zgR] at hgo;rw[←hgo]
 (refine Qh ?_;intros)
 unfold zfz
 (refine Qac ?_;intros)
 exact⟨_,.int _ _ _,rfl⟩
structure PredT (fv:AV) (l:List St) (p:St→Bool):Prop where
 ex:∃f caps,fv=.fn (.func f) caps∧zfv Tryz.prog f=true∧zM caps=true∧∀s∈l,zu Tryz.prog f ([.agg s.cells]++caps) (·=.bool (p s))
theorem zv2 {fv:AV} {l:List St} {p:St→Bool} (hp:PredT fv l p) {s:St} (hs:s∈l) {H:AH} {nx:Nat} {k:AV→AH→Nat→Prop} (hk:k (.bool (p s)) H nx):zqE Tryz.prog fv [.agg s.cells] H nx k:=by obtain⟨f,caps,rfl,hg,hf,hx⟩:=hp.ex;rw[zmb];refine⟨hg,ze (zd (hx s hs) ?_) hk⟩;simp only[Wc,Wf,WK,WU];exact⟨rfl,ziz hf⟩
theorem zxL {fv:AV} {l:List St} {p:St→Bool} (hp:PredT fv l p) {H H2:AH} {σ:Nat→Nat→Option (Nat × Nat × Nat)} {D:Nat→Nat→Prop} {t:Bool}:Vw H H2 σ D t fv fv:=by
 obtain⟨f,caps,rfl,hg,hf,hx⟩:=hp.ex
 refine .fn _ _ _ _ rfl fun i a b h1 h2=>?_
 rw[h1] at h2;cases h2;exact zO (zbf hf h1)
theorem Qad {p q:Prop}(k:q)(h:Im q p:=by(repeat first|simp(disch:=try exact dis1) only[evD,Nat.reduceBEq,Nat.reduceAdd,Nat.reduceLeDiff,zat] | ((with_reducible apply Im.i);intro _) | ((with_reducible apply Im.a);omega));exact Im.r):p:=h k
theorem zkQ (l:List St) (fv:AV) (p:St→Bool) (hp:PredT fv l p):zu Tryz.prog zaw [encL 8 St.cells l,fv] (·=.int .i64 (idxI (l.findIdx? p))):=by
 refine fn_x zc3 rfl ?_;unfold zbj;have hB:=hBig
 (refine Qa ?_;intros)
 refine zk (fun i:Nat=>([(0,encL 8 St.cells l),(1,fv),(7,.int .i64 l.length),(8,.int .i64 i)],[])) 0 (fun i=>i≤l.length∧∀j (h:j < l.length),j < i→p l[j]=false) (fun i=>l.length - i) 0 ⟨Wa _,fun j _ h=>by omega⟩ (Ent.keep rfl fin5) ?_;intro i ⟨hi,hno⟩ wf;unfold za3
 (refine Qa ?_;intros)
 (refine zaS (fun h=>?_) (fun h=>?_))<;>(try simp only[dcd] at h)
 ·
  have hi':i < l.length:=by omega
  (repeat first|simp(disch:=try exact dis1) only[evD,Nat.reduceBEq,Nat.reduceAdd,Nat.reduceLeDiff,zq hi',St.len,St.eight]|with_reducible first|intro _|refine aJ ?_)
  refine zv2 hp (We hi') ?_
  (refine Qa ?_;intros)
  (refine zaS (fun h2=>?_) (fun h2=>?_))<;>(try simp only[dcd] at h2)
  ·
   (refine Qad ?_;intros)
   have e:l.findIdx? p=some i:=by rw[Wx];exact⟨hi',h2,fun j hj=>by rw[hno j (by omega) hj];simp⟩
   rw[e];exact⟨_,.int _ _ _,rfl⟩
  ·
   (refine Qa ?_;intros)
   refine⟨i+1,⟨by omega,fun j hj hji=>?_⟩,by omega,Ent.keep rfl fin5⟩
   by_cases hje:j=i
   · subst hje;simpa using h2
   · exact hno j hj (by omega)
 ·
  unfold za2
  (refine Qad ?_;intros)
  have e:l.findIdx? p=none:=by rw[Wy];intro x hx;obtain⟨j,hj,rfl⟩:=WF.1 hx;exact hno j hj (by omega)
  rw[e];exact⟨_,.int _ _ _,rfl⟩
theorem zE1 {l:List St} {p:St→Bool}:decide (idxI (l.findIdx? p) ≥ 0)=l.any p:=by
 cases h:l.findIdx? p with
 |
  none =>
  have:=Wy.1 h;rw[decide_eq_false (by simp[idxI])];symm;rw[WV];intro x hx;rw[this x hx];simp
 |
  some i =>
  obtain⟨h1,h2,_⟩:=Wx.1 h;rw[decide_eq_true (by simp[idxI])];exact(zvX h1 h2).symm
theorem ziL (l:List St) (fv:AV) (p:St→Bool) (hp:PredT fv l p):zu Tryz.prog zao [encL 8 St.cells l,fv] (·=.bool (l.any p)):=by
 refine fn_x zcr rfl ?_;unfold za1
 (refine Qa ?_;intros)
 refine ze (zbd (D:=noR) (zkQ l fv p hp) (.cons (zaq rfl) (.cons (zxL hp) .nil)) (.inl rfl)) ?_
 (repeat first|simp(disch:=try exact dis1) only[evD,Nat.reduceBEq,Nat.reduceAdd,Nat.reduceLeDiff,zaY]|with_reducible first|intro _|refine aJ ?_)
 refine⟨_,.bool _ _,?_⟩;rw[←zE1]
structure PredI (fv:AV) (l:List Int) (p:Int→Bool):Prop where
 ex:∃f caps,fv=.fn (.func f) caps∧zfv Tryz.prog f=true∧zM caps=true∧∀s∈l,zu Tryz.prog f ([.int .i64 s]++caps) (·=.bool (p s))
theorem zvV {fv:AV} {l:List Int} {p:Int→Bool} (hp:PredI fv l p) {s:Int} (hs:s∈l) {H:AH} {nx:Nat} {k:AV→AH→Nat→Prop} (hk:k (.bool (p s)) H nx):zqE Tryz.prog fv [.int .i64 s] H nx k:=by obtain⟨f,caps,rfl,hg,hf,hx⟩:=hp.ex;rw[zmb];refine⟨hg,ze (zd (hx s hs) ?_) hk⟩;simp only[Wc,Wf,WK,WU];exact⟨rfl,ziz hf⟩
theorem zyF {fv:AV} {l:List Int} {p:Int→Bool} (hp:PredI fv l p) {H H2:AH} {σ:Nat→Nat→Option (Nat × Nat × Nat)} {D:Nat→Nat→Prop} {t:Bool}:Vw H H2 σ D t fv fv:=by
 obtain⟨f,caps,rfl,hg,hf,hx⟩:=hp.ex
 refine .fn _ _ _ _ rfl fun i a b h1 h2=>?_
 rw[h1] at h2;cases h2;exact zO (zbf hf h1)
theorem Qae {p q:Prop}(k:q)(h:Im q p:=by(repeat first|simp(disch:=try exact dis1) only[evD,Nat.reduceBEq,Nat.reduceAdd,Nat.reduceLeDiff,zbr] | ((with_reducible apply Im.i);intro _) | ((with_reducible apply Im.a);omega));exact Im.r):p:=h k
theorem zkT (l:List Int) (fv:AV) (p:Int→Bool) (hp:PredI fv l p):zu Tryz.prog zbC [za l,fv] (·=.int .i64 (idxI (l.findIdx? p))):=by
 refine fn_x zgE rfl ?_;unfold zcy;have hB:=hBig
 (refine Qp ?_;intros)
 refine zk (fun i:Nat=>([(0,za l),(1,fv),(7,.int .i64 l.length),(8,.int .i64 i)],[])) 0 (fun i=>i≤l.length∧∀j (h:j < l.length),j < i→p l[j]=false) (fun i=>l.length - i) 0 ⟨Wa _,fun j _ h=>by omega⟩ (Ent.keep rfl fin5) ?_;intro i ⟨hi,hno⟩ wf;unfold zb5
 (refine Qa ?_;intros)
 (refine zaS (fun h=>?_) (fun h=>?_))<;>(try simp only[dcd] at h)
 ·
  have hi':i < l.length:=by omega
  (repeat first|simp(disch:=try exact dis1) only[evD,Nat.reduceBEq,Nat.reduceAdd,Nat.reduceLeDiff,za,zq hi']|with_reducible first|intro _|refine aJ ?_)
  refine zvV hp (We hi') ?_
  (refine Qa ?_;intros)
  (refine zaS (fun h2=>?_) (fun h2=>?_))<;>(try simp only[dcd] at h2)
  ·
   (refine Qae ?_;intros)
   have e:l.findIdx? p=some i:=by rw[Wx];exact⟨hi',h2,fun j hj=>by rw[hno j (by omega) hj];simp⟩
   rw[e];exact⟨_,.int _ _ _,rfl⟩
  ·
   (refine Qa ?_;intros)
   refine⟨i+1,⟨by omega,fun j hj hji=>?_⟩,by omega,Ent.keep rfl fin5⟩
   by_cases hje:j=i
   · subst hje;simpa using h2
   · exact hno j hj (by omega)
 ·
  unfold zb6
  (refine Qae ?_;intros)
  have e:l.findIdx? p=none:=by rw[Wy];intro x hx;obtain⟨j,hj,rfl⟩:=WF.1 hx;exact hno j hj (by omega)
  rw[e];exact⟨_,.int _ _ _,rfl⟩
theorem zEe {l:List Int} {p:Int→Bool}:decide (idxI (l.findIdx? p) ≥ 0)=l.any p:=by
 cases h:l.findIdx? p with
 |
  none =>
  have:=Wy.1 h;rw[decide_eq_false (by simp[idxI])];symm;rw[WV];intro x hx;rw[this x hx];simp
 |
  some i =>
  obtain⟨h1,h2,_⟩:=Wx.1 h;rw[decide_eq_true (by simp[idxI])];exact(zvX h1 h2).symm
theorem ziu (l:List Int) (fv:AV) (p:Int→Bool) (hp:PredI fv l p):zu Tryz.prog zbg [za l,fv] (·=.bool (l.any p)):=by
 refine fn_x ze3 rfl ?_;unfold zb3
 (refine Qa ?_;intros)
 refine ze (zbd (D:=noR) (zkT l fv p hp) (.cons (zaq rfl) (.cons (zyF hp) .nil)) (.inl rfl)) ?_
 (repeat first|simp(disch:=try exact dis1) only[evD,Nat.reduceBEq,Nat.reduceAdd,Nat.reduceLeDiff,zb2]|with_reducible first|intro _|refine aJ ?_)
 refine⟨_,.bool _ _,?_⟩;rw[←zEe]
theorem ztU (l:List Int) (hl:l.length≤100000000):zab Tryz.prog zbz [za l] [] 0 (fun v H nx=>v=.own 0 0 0 0 l.length∧H=[(0,.row 1 (l.map cI) 0)]∧nx=1):=by
 refine zbc (fn_x zik rfl ?_);unfold zdY za;have hB:=hBig
 have hel:∀H,zdU 1 (encL 1 (fun n=>[.int .i64 n]) l) H=some (l.map cI):=fun H=>zzB
 (repeat first|simp(disch:=try exact dis1) only[evD,Nat.reduceBEq,Nat.reduceAdd,Nat.reduceLeDiff,zB6]|with_reducible first|intro _|refine aJ ?_)
 cases h0:(l.length == 0) with
 |
  true =>
  have e:l=[]:=Ww (by simpa using h0);subst e
  (refine Qa ?_;intros)
  rename_i b;cases b
  ·
   (repeat first|simp(disch:=try exact dis1) only[evD,Nat.reduceBEq,Nat.reduceAdd,Nat.reduceLeDiff,hel,zbm]|with_reducible first|intro _|refine aJ ?_)
   exact⟨.own 0 0 0 0 0,[(0,.row 1 [] 0)],1,(Ent.tab [(0,1,1)] [] rfl Qau Qau),rfl,rfl,rfl⟩
  ·
   (repeat first|simp(disch:=try exact dis1) only[evD,Nat.reduceBEq,Nat.reduceAdd,Nat.reduceLeDiff,zbm]|with_reducible first|intro _|refine aJ ?_)
   exact⟨.own 0 0 0 0 0,[(0,.row 1 [] 0)],1,(Ent.tab [(0,1,0)] [] rfl Qau Qau),rfl,rfl,rfl⟩
 |
  false =>
  (repeat first|simp(disch:=try exact dis1) only[evD,Nat.reduceBEq,Nat.reduceAdd,Nat.reduceLeDiff,hel,zbm]|with_reducible first|intro _|refine aJ ?_)
  exact⟨.own 0 0 0 0 l.length,[(0,.row 1 (l.map cI) 0)],1,(Ent.tab [(0,1,1)] [] rfl Qau Qau),rfl,rfl,rfl⟩
theorem renI {ρ:Nat→Nat} {l:List Int} {g:Nat}:AObj.ren ρ (.row 1 (l.map cI) g)=.row 1 (l.map cI) g:=by simp only[AObj.ren];rw[zg0 (zj fun _=>rfl)]
theorem QL {p q:Prop}(k:q)(h:Im q p:=by(repeat first|simp(disch:=try exact dis1) only[evD,Nat.reduceBEq,Nat.reduceAdd,Nat.reduceLeDiff,dT,dF,fldP,za,St.cells,zbE] | ((with_reducible apply Im.i);intro _) | ((with_reducible apply Im.a);omega));exact Im.r):p:=h k
theorem zi5 (b:Bl) (hc:∀s∈b.stmts,s.cases.length≤100000000):zu Tryz.prog zdZ [.agg b.cells] (·=za (zI b.stmts)):=by
 refine fn_x zoy rfl ?_;unfold ziW;have hB:=hBig;obtain⟨ad,l⟩:=b;simp only at hc;simp only[Bl.cells]
 by_cases h0:l.length=0
 ·
  obtain rfl:l=[]:=Ww h0
  (repeat first|simp(disch:=try exact dis1) only[evD,Nat.reduceBEq,Nat.reduceAdd,Nat.reduceLeDiff,fldP,dT,Wd,zbE]|with_reducible first|intro _|refine aJ ?_)
  exact⟨_,zbQ (l:=[]) trivial rfl (by simp only[Wd];omega),rfl⟩
 have hlast:l.length - 1 < l.length:=by omega
 have hidx:(((l.length:Nat):Int) - 1).toNat=l.length - 1:=by omega
 have hcs:=hc _ (We hlast);have hg:=zq (f:=St.cells) (d:=[]) hlast;rw[zkj hlast];generalize l[l.length - 1]=s at hg hcs;obtain⟨op,var,width,next,els,tgt,e,cs⟩:=s;simp only[St.cells] at hg hcs;unfold zan;simp only
 (repeat first|simp(disch:=try exact dis1) only[evD,Nat.reduceBEq,Nat.reduceAdd,Nat.reduceLeDiff,fldP,dT,dF,hidx,hg]|with_reducible first|intro _|refine aJ ?_)
 by_cases h6:op=6
 ·
  rw[if_pos h6]
  (refine QL ?_;intros)
  exact⟨_,zbQ (l:=[next]) trivial rfl (by simp only[Wo];omega),rfl⟩
 rw[if_neg h6]
 by_cases h7:op=7
 ·
  rw[if_pos h7]
  (refine QL ?_;intros)
  exact⟨_,zbQ (l:=[next,els]) trivial rfl (by simp only[Wu,Wd];omega),rfl⟩
 rw[if_neg h7]
 by_cases h8:op=8
 ·
  rw[if_pos h8]
  (repeat first|simp(disch:=try exact dis1) only[evD,Nat.reduceBEq,Nat.reduceAdd,Nat.reduceLeDiff,dT,dF,fldP,St.cells]|with_reducible first|intro _|refine aJ ?_)
  refine z6 [] 0 _ (ztU cs hcs) rfl rfl Qax Qax ?_;rintro _ _ _ ⟨rfl,rfl,rfl⟩
  (repeat first|simp(disch:=try exact dis1) only[evD,Nat.reduceBEq,Nat.reduceAdd,Nat.reduceLeDiff,renI,zbE]|with_reducible first|intro _|refine aJ ?_)
  exact⟨_,zbQ (l:=cs) trivial rfl (by omega),rfl⟩
 rw[if_neg h8]
 (refine QL ?_;intros)
 exact⟨_,zbQ (l:=[]) trivial rfl (by simp only[Wd];omega),rfl⟩
theorem bd_l6 {Q:QT} (exit:List Int) (bl:List Bl) (ad:Int) (U:List Int) (R p0:BS) (hn:bl.length≤1000000)
  (hstep:∀(p:BS) k,k < bl.length→(∀i,SetU U (p.1 i))→(∀i,SetU U (p.2.1 i))→(∀i,SetU U ((stM exit bl p k).1 i))∧(∀i,SetU U ((stM exit bl p k).2.1 i)))
  (hcs:∀b∈bl,(∀s∈b.stmts,s.cases.length≤100000000)∧b.stmts.length≤1000000∧(zI b.stmts).length≤1000000)
  (hroom:∀(p:BS) k (hk:k < bl.length),(∀i,SetU U (p.1 i))→(∀i,SetU U (p.2.1 i)) →
   (∀i,i < (zI bl[k].stmts).length→(((zI bl[k].stmts).take i).foldl (addT bl.length p.1) (p.2.1 k)).ok∧∀j,j < bl.length→(((zI bl[k].stmts).take i).foldl (addT bl.length p.1) (p.2.1 k)).1+(p.1 j).2.length≤1000000∧(((zI bl[k].stmts).take i).foldl (addT bl.length p.1) (p.2.1 k)).2.length+(p.1 j).2.length≤1000000) ∧
   SetU U (outM bl.length bl[k].stmts p k k) ∧
   ∀t,SetU U t→(∀i (hi:i < bl[k].stmts.length),(zeu exit bl[k].stmts (i+1) (addL (0,[]) (zaT t))).ok∧zF bl[k].stmts[i].e≤100000∧(zeu exit bl[k].stmts (i+1) (addL (0,[]) (zaT t))).1+zF bl[k].stmts[i].e+exit.length≤1000000∧(zeu exit bl[k].stmts (i+1) (addL (0,[]) (zaT t))).2.length+zF bl[k].stmts[i].e+exit.length≤1000000) ∧
    (zie exit bl[k].stmts t).ok∧(p.1 k).1+(zie exit bl[k].stmts t).2.length≤1000000∧(p.1 k).2.length+(zie exit bl[k].stmts t).2.length≤1000000)
  (h0:zmn exit bl bl.length p0=R) (h1:∀i,SetU U (p0.1 i)) (h2:∀i,SetU U (p0.2.1 i))
  (hfin:∀K H nx,Ent 0 K H nx [(1,za exit),(2,encP 2 [.int .u32 ad,encL 2 Bl.cells bl]),(6,.own 0 0 0 0 bl.length),(7,.own 1 0 0 0 bl.length),(9,.bool R.2.2)] (bdH bl.length R.1 R.2.1) 4→Q .normal K H nx)
  {K:Kn} {H:AH} {nx:Nat} (hent:Ent 0 K H nx [(1,za exit),(2,encP 2 [.int .u32 ad,encL 2 Bl.cells bl]),(6,.own 0 0 0 0 bl.length),(7,.own 1 0 0 0 bl.length),(9,.bool p0.2.2),(10,.int .i64 ((bl.length:Int) - 1))] (bdH bl.length p0.1 p0.2.1) 4) :
  zjG Tryz.prog 0 zbL (zbv 4 Q) K H nx:=by
 have hB:=hBig
 refine zk (fun a:Nat × BS=>([(1,za exit),(2,encP 2 [.int .u32 ad,encL 2 Bl.cells bl]),(6,.own 0 0 0 0 bl.length),(7,.own 1 0 0 0 bl.length),(9,.bool a.2.2.2),(10,.int .i64 ((a.1:Int) - 1))],bdH bl.length a.2.1 a.2.2.1)) 4
  (fun a=>a.1≤bl.length∧zmn exit bl a.1 a.2=R∧(∀i,SetU U (a.2.1 i))∧∀i,SetU U (a.2.2.1 i)) (fun a=>a.1) (bl.length,p0) ⟨Wb _,h0,h1,h2⟩ hent ?_
 rintro⟨k,p⟩ ⟨hk,hR,hS,hT⟩ wf;simp only at hk hR hS hT;unfold zbL
 rcases WE k with rfl|hp
 ·
  have hR:p=R:=hR;subst hR
  (repeat first|simp(disch:=try exact dis1) only[evD,Nat.reduceBEq,Nat.reduceAdd,Nat.reduceLeDiff,dF,WT,bdH]|with_reducible first|intro _|refine aJ ?_)
  refine hfin _ _ _ ?_;exact(Ent.tab [(0,0,0),(1,1,0),(2,2,0),(3,3,0)] [] rfl Qay Qay)
 ·
  obtain⟨k,rfl⟩:∃j,k=j+1:=⟨k - 1,by omega⟩
  have hkl:k < bl.length:=by omega
  have hgl:=zq (f:=Bl.cells) (d:=[]) hkl
  have ei:((k+1:Nat):Int) - 1=k:=by omega
  have hbk:(bl.map (·.stmts)).getD k []=bl[k].stmts:=zq hkl;have hR':zmn exit bl k (stM exit bl p k)=R:=hR;obtain⟨s1,s2⟩:=hstep p k hkl hS hT;obtain⟨c1,c2,c3⟩:=hcs _ (We hkl);obtain⟨r1,r2,r3⟩:=hroom p k hkl hS hT;obtain⟨q1,q2,q3,q4⟩:=r3 _ r2;generalize bl[k]=B at hgl hbk c1 c2 c3 r1 r2 q1 q2 q3 q4;obtain⟨ad2,sts⟩:=B;simp only at hbk c1 c2 c3 r1 r2 q1 q2 q3 q4
  by_cases hz:sts.length=0
  ·
   have e1:stM exit bl p k=p:=by unfold stM;rw[hbk];exact if_pos hz
   rw[e1] at hR'
   (repeat first|simp(disch:=try exact dis1) only[evD,Nat.reduceBEq,Nat.reduceAdd,Nat.reduceLeDiff,ei,dT,hgl,fldP,bdH,Bl.cells]|with_reducible first|intro _|refine aJ ?_)
   unfold zah
   (refine Qa ?_;intros)
   exact⟨(k,p),⟨by simp only;omega,hR',hS,hT⟩,by simp only;omega,(Ent.tab [(0,0,0),(1,1,0),(2,2,0),(3,3,0)] [] rfl Qay Qay)⟩
  ·
   (repeat first|simp(disch:=try exact dis1) only[evD,Nat.reduceBEq,Nat.reduceAdd,Nat.reduceLeDiff,ei,dT,dF,hgl,fldP,bdH,Bl.cells]|with_reducible first|intro _|refine aJ ?_)
   refine ze (zd (zi5 ⟨ad2,sts⟩ c1) rfl) ?_
   (refine Qp ?_;intros)
   have e1:stM exit bl p k=(updF p.1 k (addL (p.1 k) (zaT (zie exit sts (outM bl.length sts p k k)))),outM bl.length sts p k,p.2.2||decide ((p.1 k).2.length < (addL (p.1 k) (zaT (zie exit sts (outM bl.length sts p k k)))).2.length)):=by unfold stM;rw[hbk];exact if_neg hz
   rw[e1] at hR' s1 s2;refine bd_l1 bl.length k hkl p.1 p.2.1 (zI sts) exit sts p.2.2 (fun i _=>(hS i).ok) (hT k).ok r1 c3 hn bl ad rfl (bd_k4 bl.length k hkl hn p.1 (outM bl.length sts p k) exit (zI sts) sts p.2.2 r2.ok q1 c2 q2 (hS k).ok q3 q4 bl ad ?_) ?_
   · intro K2 H2 nx2 he;exact⟨(k,_),⟨by simp only;omega,hR',s1,s2⟩,by simp only;omega,he⟩
   · exact(Ent.tab [(0,0,0),(1,1,0),(2,2,0),(3,3,0)] [] rfl Qay Qay)
theorem SetU.keysIn {U:List Int} {s:MS} (h:SetU U s):∀x∈zaT s,x∈U:=fun x hx=>h.sub x (zjR.1 hx)
theorem zwg {U:List Int} {n:Nat} {S:Nat→MS} (hS:∀i,SetU U (S i)) (hU:2 * U.length≤1000000):∀ {ts:List Int} {a:MS},SetU U a→SetU U (ts.foldl (addT n S) a)
 | [],_,h=>h
 |
  t::ts,a,h=>by
  rw[List.foldl_cons];refine zwg hS hU ?_;unfold addT;split
  · have hl:=(hS t.toNat).len;exact h.add (hS t.toNat).keysIn (by rw[zkc];omega)
  · exact h
theorem zFE {U:List Int} {n:Nat} {sts:List St} {p:BS} {b:Nat} (hS:∀i,SetU U (p.1 i)) (hT:∀i,SetU U (p.2.1 i)) (hU:2 * U.length≤1000000) (i:Nat):SetU U (outM n sts p b i):=by
 unfold outM updF;split
 · exact zwg hS hU (hT b)
 · exact hT i
theorem zxj {U exit:List Int} (he:∀x∈exit,x∈U) {a:MS} (ha:∀x∈a.keys,x∈U):∀ {l:List St},(∀s∈l,∀x∈zfj s,x∈U)→∀x∈(l.foldr (zek exit) a).keys,x∈U
 | [],_,x,hx=>ha x hx
 |
  s::l,hu,x,hx=>by
  have ih:=zxj he ha (l:=l) (fun s hs=>hu s (WM _ hs));have:=(zpV (exit:=exit) (s:=s) (a:=l.foldr (zek exit) a) (l:=(l.foldr (zek exit) a).keys) (fun _=>Iff.rfl) x).1 hx
  rcases zgD.1 this with ⟨h1,_⟩|h1 | ⟨_,h1⟩
  · exact ih x h1
  · exact hu s (by simp) x h1
  · exact he x h1
theorem zoU {k:Nat}:∀ {l:List St} {i:Nat},zbn k (l.drop i)≤zbn k l
 | [],i=>by simp
 | s::l,0=>Wb _
 |
  s::l,i+1=>by
  have:=zoU (k:=k) (l:=l) (i:=i);show zbn k (l.drop i)≤zF s.e+k+zbn k l;omega
theorem zsb {U exit:List Int} {sts:List St} {t:MS} (ht:SetU U t) (he:∀x∈exit,x∈U) (hu:∀s∈sts,∀x∈zfj s,x∈U) (hsz:∀s∈sts,zF s.e≤100000) (hU:2 * U.length+zbn exit.length sts≤1000000) :
  (∀i (hi:i < sts.length),(zeu exit sts (i+1) (addL (0,[]) (zaT t))).ok∧zF sts[i].e≤100000∧(zeu exit sts (i+1) (addL (0,[]) (zaT t))).1+zF sts[i].e+exit.length≤1000000∧(zeu exit sts (i+1) (addL (0,[]) (zaT t))).2.length+zF sts[i].e+exit.length≤1000000) ∧
  (zie exit sts t).ok∧(zie exit sts t).2.length≤U.length:=by
 have hl:=ht.len;have ha:SetU U (addL (0,[]) (zaT t)):=SetU.none.add ht.keysIn (by rw[zkc];omega);have hal:=ha.len;have hac:=ha.clock;refine⟨fun i hi=>?_,?_⟩
 · have c1:=zrI (k:=exit.length) hi;have c2:=zoU (k:=exit.length) (l:=sts) (i:=i);obtain⟨f1,f2,f3⟩:=zsR (exit:=exit) (l:=sts.drop (i+1)) ha.ok (by omega) (by omega);exact⟨f1,hsz _ (We hi),by show ((sts.drop (i+1)).foldr (zek exit) _).1+_+_≤_;omega,by show ((sts.drop (i+1)).foldr (zek exit) _).2.length+_+_≤_;omega⟩
 ·
  obtain⟨f1,f2,f3⟩:=zsR (exit:=exit) (l:=sts) ha.ok (by omega) (by omega);refine⟨f1,?_⟩;have:=List.Nodup.length_le_of_subset f1.keys (show ∀x∈(sts.foldr (zek exit) (addL (0,[]) (zaT t))).2.map (·.1),x∈U from zxj he ha.sub hu)
  rwa [Wl] at this
structure UnivB (U exit:List Int) (bl:List Bl):Prop where
 he:∀x∈exit,x∈U
 hu:∀b∈bl,∀s∈b.stmts,∀x∈zfj s,x∈U
 hsz:∀b∈bl,∀s∈b.stmts,zF s.e≤100000
 cost:∀b∈bl,2 * U.length+zbn exit.length b.stmts≤1000000
 cs:∀b∈bl,(∀s∈b.stmts,s.cases.length≤100000000)∧b.stmts.length≤1000000∧(zI b.stmts).length≤1000000
 len:bl.length≤1000000
theorem UnivB.step {U exit:List Int} {bl:List Bl} (h:UnivB U exit bl) (p:BS) (k:Nat) (hk:k < bl.length) (hS:∀i,SetU U (p.1 i)) (hT:∀i,SetU U (p.2.1 i)) :
  (∀i,SetU U ((stM exit bl p k).1 i))∧(∀i,SetU U ((stM exit bl p k).2.1 i)):=by
 have hm:=We hk;have hc:=h.cost _ hm;have hbk:(bl.map (·.stmts)).getD k []=bl[k].stmts:=zq hk;unfold stM;simp only[hbk];split
 · exact⟨hS,hT⟩
 ·
  have hT':=fun i=>zFE (n:=bl.length) (sts:=bl[k].stmts) (b:=k) hS hT (by omega) i
  obtain⟨_,r2,r3⟩:=zsb (hT' k) h.he (h.hu _ hm) (h.hsz _ hm) hc;refine⟨fun i=>?_,hT'⟩;simp only[updF];split
  · refine(hS k).add (fun x hx=>?_) (by rw[zkc];omega);have ha:SetU U (addL (0,[]) (zaT (outM bl.length bl[k].stmts p k k))):=SetU.none.add (hT' k).keysIn (by have:=(hT' k).len;rw[zkc];omega);exact zxj h.he ha.sub (h.hu _ hm) x (zjR.1 hx)
  · exact hS i
theorem UnivB.room {U exit:List Int} {bl:List Bl} (h:UnivB U exit bl) (p:BS) (k:Nat) (hk:k < bl.length) (hS:∀i,SetU U (p.1 i)) (hT:∀i,SetU U (p.2.1 i)) :
   (∀i,i < (zI bl[k].stmts).length→(((zI bl[k].stmts).take i).foldl (addT bl.length p.1) (p.2.1 k)).ok∧∀j,j < bl.length→(((zI bl[k].stmts).take i).foldl (addT bl.length p.1) (p.2.1 k)).1+(p.1 j).2.length≤1000000∧(((zI bl[k].stmts).take i).foldl (addT bl.length p.1) (p.2.1 k)).2.length+(p.1 j).2.length≤1000000) ∧
   SetU U (outM bl.length bl[k].stmts p k k) ∧
   ∀t,SetU U t→(∀i (hi:i < bl[k].stmts.length),(zeu exit bl[k].stmts (i+1) (addL (0,[]) (zaT t))).ok∧zF bl[k].stmts[i].e≤100000∧(zeu exit bl[k].stmts (i+1) (addL (0,[]) (zaT t))).1+zF bl[k].stmts[i].e+exit.length≤1000000∧(zeu exit bl[k].stmts (i+1) (addL (0,[]) (zaT t))).2.length+zF bl[k].stmts[i].e+exit.length≤1000000) ∧
    (zie exit bl[k].stmts t).ok∧(p.1 k).1+(zie exit bl[k].stmts t).2.length≤1000000∧(p.1 k).2.length+(zie exit bl[k].stmts t).2.length≤1000000:=by
 have hm:=We hk;have hc:=h.cost _ hm;refine⟨fun i _=>?_,zFE hS hT (by omega) k,fun t ht=>?_⟩
 · have hf:=zwg (n:=bl.length) hS (by omega) (ts:=(zI bl[k].stmts).take i) (hT k);have l1:=hf.len;have l2:=hf.clock;refine⟨hf.ok,fun j _=>?_⟩;have l3:=(hS j).len;exact⟨by omega,by omega⟩
 · obtain⟨r1,r2,r3⟩:=zsb ht h.he (h.hu _ hm) (h.hsz _ hm) hc;have l1:=(hS k).len;have l2:=(hS k).clock;exact⟨r1,r2,by omega,by omega⟩
structure LinkB (exit:List Int) (bl:List Bl) (p:BS) (ins:List (List Int)):Prop where
 inv:LInvU exit bl ins
 s:∀i,i < bl.length→∀x,x∈(p.1 i).keys↔x∈ins.getD i []
 t:∀i,i < bl.length→∀x∈(p.2.1 i).keys,x∈endB ins ((bl.map (·.stmts)).getD i [])
theorem zuK {n:Nat} {S:Nat→MS} {x:Int}:∀ {ts:List Int} {a:MS},x∈(ts.foldl (addT n S) a).keys↔x∈a.keys∨∃t∈ts,(0≤t∧t < n)∧x∈(S t.toNat).keys
 | [],a=>by simp
 |
  t::ts,a=>by
  rw[List.foldl_cons,zuK];unfold addT;split
  ·
   rename_i h;rw[zeM,zjR];constructor
   ·
    rintro((h1|h1) | ⟨t',h1,h2⟩)
    · exact .inl h1
    · exact .inr ⟨t,by simp,h,h1⟩
    · exact .inr ⟨t',WM _ h1,h2⟩
   ·
    rintro(h1 | ⟨t',h1,h2,h3⟩)
    · exact .inl (.inl h1)
    ·
     rcases WH.1 h1 with rfl|h1
     · exact .inl (.inr h3)
     · exact .inr ⟨t',h1,h2,h3⟩
  ·
   rename_i h;constructor
   ·
    rintro(h1 | ⟨t',h1,h2⟩)
    · exact .inl h1
    · exact .inr ⟨t',WM _ h1,h2⟩
   ·
    rintro(h1 | ⟨t',h1,h2,h3⟩)
    · exact .inl h1
    ·
     rcases WH.1 h1 with rfl|h1
     · exact absurd h2 h
     · exact .inr ⟨t',h1,h2,h3⟩
theorem LinkB.out {exit:List Int} {bl:List Bl} {p:BS} {ins:List (List Int)} (h:LinkB exit bl p ins) {b:Nat} (hb:b < bl.length) (x:Int) :
  x∈(outM bl.length ((bl.map (·.stmts)).getD b []) p b b).keys↔x∈endB ins ((bl.map (·.stmts)).getD b []):=by
 unfold outM;rw[zjp,zuK];constructor
 ·
  rintro(h1 | ⟨t,h1,h2,h3⟩)
  · exact h.t b hb x h1
  · exact zfP.2 ⟨t,h1,⟨h2.1,by rw[h.inv.len];exact h2.2⟩,(h.s _ (by omega) x).1 h3⟩
 · intro h1;obtain⟨t,h1,h2,h3⟩:=zfP.1 h1;rw[h.inv.len] at h2;exact .inr ⟨t,h1,h2,(h.s _ (by omega) x).2 h3⟩
theorem zCQ {a b:List (List Int)} (hl:a.length=b.length) (h:∀i,∀x∈a.getD i [],x∈b.getD i []) {l:List St}:∀x∈endB a l,x∈endB b l:=fun x hx=>by obtain⟨t,h1,h2,h3⟩:=zfP.1 hx;exact zfP.2 ⟨t,h1,⟨h2.1,by omega⟩,h _ x h3⟩
theorem zvc {U:List Int} {s:MS} (h:SetU U s) {l:List Int} (hl:Asc l) (he:∀x,x∈s.keys↔x∈l):s.2.length=l.length:=by
 have h1:zaT s=l:=zmN h.ok hl fun x=>(he x).symm
 rw[←h1,zkc]
theorem LinkB.step {U exit:List Int} {bl:List Bl} (hU:UnivB U exit bl) {p:BS} {ins:List (List Int)} (h:LinkB exit bl p ins) {b:Nat} (hb:b < bl.length) (hS:∀i,SetU U (p.1 i)) (hT:∀i,SetU U (p.2.1 i)) :
  LinkB exit bl (stM exit bl p b) (zfV exit bl ins b)∧((stM exit bl p b).2.2=true↔p.2.2=true∨zcT ins < zcT (zfV exit bl ins b)):=by
 obtain⟨i1,i2,i3⟩:=h.inv.toLInv.step hb;have iU:=h.inv.step hb;obtain⟨t1,t2⟩:=h.inv.total_step hb;obtain⟨uS,_⟩:=hU.step p b hb hS hT;have hout:=h.out hb
 have hlen:ins.length=(zfV exit bl ins b).length:=by rw[h.inv.len,iU.len]
 have hmono:=fun l=>zCQ (l:=l) hlen i2
 unfold stM at uS ⊢;generalize hg:(bl.map (·.stmts)).getD b []=sts at hout uS ⊢;simp only at uS ⊢
 by_cases hz:sts.length=0
 ·
  rw[if_pos hz]
  have hnew:newB exit bl ins b=[]:=by unfold newB zga;rw[hg,if_pos hz]
  have hnil:ins.getD b []=[]:=by rw[List.eq_nil_iff_forall_not_mem];intro x hx;have:=h.inv.sub b x hx;rw[hnew] at this;cases this
  have hst:zfV exit bl ins b=ins:=by unfold zfV;rw[hnew,hnil,if_pos rfl]
  rw[hst];exact⟨h,by simp⟩
 ·
  rw[if_neg hz] at uS ⊢;simp only at uS ⊢
  have hnew:newB exit bl ins b=zfn exit sts (endB ins sts):=by unfold newB zga;rw[hg,if_neg hz]
  have hlive:∀x,x∈(zie exit sts (outM bl.length sts p b b)).keys↔x∈newB exit bl ins b:=fun x=>by rw[hnew];refine zum (fun y=>?_) sts x;rw[zeM,zjR,hout];simp[MS.keys]
  have hSb:∀x,x∈(addL (p.1 b) (zaT (zie exit sts (outM bl.length sts p b b)))).keys↔x∈newB exit bl ins b:=fun x=>by rw[zeM,zjR,hlive,h.s b hb];exact⟨fun hh=>hh.elim (h.inv.sub b x) id,.inr⟩
  have uSb:=uS b;simp only[zjp] at uSb;have l1:=zvc uSb zmT hSb;have l0:=zvc (hS b) (h.inv.asc b) (h.s b hb);refine⟨⟨iU,fun i hi x=>?_,fun i hi x hx=>?_⟩,?_⟩
  ·
   simp only[updF]
   by_cases hib:i=b
   · subst hib;rw[if_pos rfl,hSb,i3]
   ·
    rw[if_neg hib,h.s i hi];unfold zfV;split
    · rfl
    · rw[zkv (by rw[h.inv.len];exact hb),if_neg hib]
  ·
   by_cases hib:i=b
   · subst hib;rw[hout] at hx;rw[hg];exact hmono _ x hx
   ·
    have:outM bl.length sts p b i=p.2.1 i:=by unfold outM updF;rw[if_neg hib]
    have hx:x∈(outM bl.length sts p b i).keys:=hx;rw[this] at hx;exact hmono _ x (h.t i hi x hx)
  ·
   rw[Bool.or_eq_true,decide_eq_true_eq,l0,l1];refine or_congr_right ?_;unfold zfV;have h2:=zpn (h.inv.asc b) zmT (h.inv.sub b);have h3:=zpv ins b (newB exit bl ins b) (by rw[h.inv.len];exact hb);split
   · exact⟨fun hh=>by omega,fun hh=>by omega⟩
   · exact⟨fun hh=>by omega,fun hh=>by omega⟩
theorem zr8 {exit:List Int} {bl:List Bl}:∀(n:Nat) {p:BS} {i:Nat},n≤i→(zmn exit bl n p).2.1 i=p.2.1 i
 | 0,p,i,_=>rfl
 |
  n+1,p,i,h=>by
  show (zmn exit bl n (stM exit bl p n)).2.1 i=_;rw[zr8 n (by omega)];unfold stM;simp only;split
  · rfl
  · simp only[outM,updF];rw[if_neg (by omega)]
structure PassB (U exit:List Int) (bl:List Bl) (n:Nat) (p:BS) (ins:List (List Int)):Prop where
 link:LinkB exit bl (zmn exit bl n p) (zj5 exit bl n ins)
 ch:(zmn exit bl n p).2.2=true↔p.2.2=true∨zcT ins < zcT (zj5 exit bl n ins)
 s:∀i,SetU U ((zmn exit bl n p).1 i)
 t:∀i,SetU U ((zmn exit bl n p).2.1 i)
 full:zj5 exit bl n ins=ins→zcT (zj5 exit bl n ins)=zcT ins→∀i,i < n→∀x∈endB ins ((bl.map (·.stmts)).getD i []),x∈((zmn exit bl n p).2.1 i).keys
theorem LinkB.pass {U exit:List Int} {bl:List Bl} (hU:UnivB U exit bl):∀(n:Nat) {p:BS} {ins:List (List Int)},LinkB exit bl p ins→n≤bl.length→(∀i,SetU U (p.1 i))→(∀i,SetU U (p.2.1 i))→PassB U exit bl n p ins
 | 0,p,ins,h,_,hS,hT=>⟨h,by show p.2.2=true↔_∨zcT ins < zcT ins;simp,hS,hT,fun _ _ i hi=>absurd hi (Nat.not_lt_zero _)⟩
 |
  n+1,p,ins,h,hn,hS,hT=>by
  obtain⟨l1,c1⟩:=h.step hU (b:=n) (by omega) hS hT;obtain⟨s1,t1⟩:=hU.step p n (by omega) hS hT;obtain⟨m1,m2⟩:=h.inv.total_step (i:=n) (by omega);obtain⟨_,m3,m4⟩:=l1.inv.pass (n:=n) (by omega);have ih:=LinkB.pass hU n l1 (by omega) s1 t1;have e1:zmn exit bl (n+1) p=zmn exit bl n (stM exit bl p n):=rfl;have e2:zj5 exit bl (n+1) ins=zj5 exit bl n (zfV exit bl ins n):=rfl;refine⟨by rw[e1,e2];exact ih.link,?_,by rw[e1];exact ih.s,by rw[e1];exact ih.t,fun _ htot i hi x hx=>?_⟩
  · rw[e1,e2,ih.ch,c1,or_assoc];refine or_congr_right ?_;omega
  ·
   rw[e2] at htot;have e3:=m2 (by omega);rw[e1]
   by_cases hin:i=n
   ·
    subst hin;rw[zr8 i (Wb _)]
    have hb:i < bl.length:=by omega
    have ho:=(h.out hb x).2 hx;unfold stM;generalize hg:(bl.map (·.stmts)).getD i []=sts at ho hx ⊢;simp only;split
    · rename_i hz;obtain rfl:sts=[]:=Ww hz;obtain⟨t,h1,_⟩:=zfP.1 hx;cases h1
    · exact ho
   · have e4:zj5 exit bl n (zfV exit bl ins n)=zfV exit bl ins n:=(m4 (by omega)).1;exact ih.full e4 (by rw[e4]) i (by omega) x (by rw[e3];exact hx)
structure RunB (U exit:List Int) (bl:List Bl) (p:BS) (ins:List (List Int)) (k:Nat):Prop where
 link:LinkB exit bl p ins
 s:∀i,SetU U (p.1 i)
 t:∀i,SetU U (p.2.1 i)
 fuel:zmo exit bl≤k+zcT ins
 go:fixL exit bl k ins=zbs exit bl
 done:p.2.2=false→ins=zbs exit bl∧∀i,i < bl.length→∀x∈endB ins ((bl.map (·.stmts)).getD i []),x∈(p.2.1 i).keys
def setB (p:BS) (c:Bool):BS:=(p.1,p.2.1,c)
def runM (exit:List Int) (bl:List Bl) (p:BS):BS:=zmn exit bl bl.length (setB p false)
def zCX (exit:List Int) (bl:List Bl) (p:BS) (ins:List (List Int)):Nat:=2 * (zmo exit bl - zcT ins)+bif p.2.2 then 1 else 0
theorem RunB.next {U exit:List Int} {bl:List Bl} (hU:UnivB U exit bl) {p:BS} {ins:List (List Int)} {k:Nat} (h:RunB U exit bl p ins k) (hc:p.2.2=true) :
  ∃ins' k',RunB U exit bl (runM exit bl p) ins' k'∧zCX exit bl (runM exit bl p) ins' < zCX exit bl p ins:=by
 have l0:LinkB exit bl (setB p false) ins:=⟨h.link.inv,h.link.s,h.link.t⟩;have hp:=l0.pass hU bl.length (Wb _) h.s h.t;obtain⟨i1,i2,i3⟩:=h.link.inv.pass (n:=bl.length) (Wb _);have hb:=h.link.inv.bound;have hb2:=i1.bound;have hbd:zmo exit bl=bl.length * (univ exit bl).length+1:=rfl;have hch:=hp.ch;simp only[setB,Bool.false_eq_true,false_or] at hch;have hfu:=h.fuel;have hgo:=h.go
 cases k with
 | zero=>omega
 | succ k =>
 rw[fixL] at hgo
 by_cases he:zcT (zj5 exit bl bl.length ins)=zcT ins
 ·
  rw[if_pos he] at hgo;obtain⟨e1,e2⟩:=i3 he.symm
  have hcf:(runM exit bl p).2.2=false:=by
   cases hx:(runM exit bl p).2.2 with
   | false=>rfl
   | true=>have:=hch.1 hx;omega
  refine⟨ins,k+1,⟨?_,hp.s,hp.t,hfu,?_,fun _=>⟨hgo,hp.full e1 he⟩⟩,?_⟩
  · have:=hp.link;rw[e1] at this;exact this
  · rw[fixL,if_pos he];exact hgo
  · unfold zCX;rw[hcf,hc];simp only[cond_true,cond_false];omega
 ·
  rw[if_neg he] at hgo;have hct:(runM exit bl p).2.2=true:=hch.2 (by omega);refine⟨_,k,⟨hp.link,hp.s,hp.t,by omega,hgo,fun hx=>?_⟩,?_⟩
  · rw[hct] at hx;cases hx
  · unfold zCX;rw[hct,hc];simp only[cond_true];omega
def zFO:BS:=(fun _=>(0,[]),fun _=>(0,[]),true)
theorem RunB.start {U exit:List Int} {bl:List Bl}:RunB U exit bl zFO (bl.map fun _=>[]) (zmo exit bl):=by
 have e:∀i,(bl.map fun _=>([]:List Int)).getD i []=[]:=fun i=>by
  rw[WI,WJ]
  cases bl[i]? <;> rfl
 exact⟨⟨zu7 exit bl,fun i _ x=>by rw[e];exact Iff.rfl,fun i _ x hx=>by cases hx⟩,fun _=>SetU.none,fun _=>SetU.none,by omega,rfl,fun h=>by cases h⟩
structure EndB (U exit:List Int) (bl:List Bl) (S T:Nat→MS):Prop where
 s:∀i,SetU U (S i)
 t:∀i,SetU U (T i)
 mS:∀i,i < bl.length→∀x,x∈(S i).keys↔x∈(zbs exit bl).getD i []
 mT:∀i,i < bl.length→∀x,x∈(T i).keys↔x∈zaD exit bl i
theorem RunB.end {U exit:List Int} {bl:List Bl} {p:BS} {ins:List (List Int)} {k:Nat} (h:RunB U exit bl p ins k) (hc:p.2.2=false):EndB U exit bl p.1 p.2.1:=by obtain⟨e,hd⟩:=h.done hc;subst e;exact⟨h.s,h.t,h.link.s,fun i hi x=>⟨h.link.t i hi x,hd i hi x⟩⟩
theorem EndB.keyS {U exit:List Int} {bl:List Bl} {S T:Nat→MS} (h:EndB U exit bl S T) {i:Nat} (hi:i < bl.length):zaT (S i)=(zbs exit bl).getD i [] :=
 zmN (h.s i).ok ((zkA exit bl).1.asc i) fun x=>(h.mS i hi x).symm
theorem EndB.keyT {U exit:List Int} {bl:List Bl} {S T:Nat→MS} (h:EndB U exit bl S T) {i:Nat} (hi:i < bl.length):zaT (T i)=zaD exit bl i :=
 zmN (h.t i).ok zx1 fun x=>(h.mT i hi x).symm
theorem Qbm {p:Prop}(h:p:=by(try simp only[evWB,Nat.reduceBEq,Nat.reduceAdd,Nat.reduceSub,Nat.reduceLeDiff,Nat.reduceLT,implies_true,bdH,za,famS,setB])<;>exact fin8):p:=h
theorem bd_l7 {Q:QT} (exit:List Int) (bl:List Bl) (ad:Int) (U:List Int) (hU:UnivB U exit bl)
  (hfin:∀S T,EndB U exit bl S T→wpX Tryz.prog 0 zax Q [(1,za exit),(2,encP 2 [.int .u32 ad,encL 2 Bl.cells bl]),(6,.own 0 0 0 0 bl.length),(7,.own 1 0 0 0 bl.length),(39,.bool false)] (bdH bl.length S T) 4)
  {K:Kn} {H:AH} {nx:Nat} (hent:Ent 0 K H nx [(1,za exit),(2,encP 2 [.int .u32 ad,encL 2 Bl.cells bl]),(6,.own 0 0 0 0 bl.length),(7,.own 1 0 0 0 bl.length),(9,.bool true)] (bdH bl.length (fun _=>(0,[])) (fun _=>(0,[]))) 4) :
  zjG Tryz.prog 0 zbK (zbv 2 (seqQ Tryz.prog 0 zax Q)) K H nx:=by
 have hB:=hBig
 refine zk (fun a:BS × List (List Int) × Nat=>([(1,za exit),(2,encP 2 [.int .u32 ad,encL 2 Bl.cells bl]),(6,.own 0 0 0 0 bl.length),(7,.own 1 0 0 0 bl.length),(9,.bool a.1.2.2)],bdH bl.length a.1.1 a.1.2.1)) 4
  (fun a=>RunB U exit bl a.1 a.2.1 a.2.2) (fun a=>zCX exit bl a.1 a.2.1) (zFO,bl.map fun _=>[],zmo exit bl) RunB.start hent ?_
 rintro⟨p,ins,k⟩ hrun wf;simp only at hrun;unfold zbK
 cases hc:p.2.2 with
 |
  false =>
  (repeat first|simp(disch:=try exact dis1) only[evD,Nat.reduceBEq,Nat.reduceAdd,Nat.reduceLeDiff,bdH]|with_reducible first|intro _|refine aJ ?_)
  exact hfin p.1 p.2.1 (hrun.end hc)
 |
  true =>
  obtain⟨ins',k',h1,h2⟩:=hrun.next hU hc;have hlen:=hU.len
  (repeat first|simp(disch:=try exact dis1) only[evD,Nat.reduceBEq,Nat.reduceAdd,Nat.reduceLeDiff,fldP,bdH]|with_reducible first|intro _|refine aJ ?_)
  refine bd_l6 exit bl ad U (runM exit bl p) (setB p false) hlen (fun q k hk hS hT=>hU.step q k hk hS hT) hU.cs (fun q k hk hS hT=>hU.room q k hk hS hT) rfl hrun.s hrun.t ?_ ?_
  · intro K2 H2 nx2 he;exact⟨(_,ins',k'),h1,h2,he⟩
  · exact(Ent.tab [(0,0,0),(1,1,0),(2,2,0),(3,3,0)] [] rfl Qbm Qbm)
def mpsI (F n i:Nat):List (List AV):=(Wg n).map fun j=>if j < i then [.mp F (j+1)] else [.nilmp]
def zmz (i:Nat):Nat→List MC:=fun j=>if j < i then setM 0 [] else []
def famI (n i:Nat):AObj:=.fam 3 (fi cm n (zmz i) (fun _=>0))
def bdI (n i:Nat):AH:=[(0,.row 1 (mpsI 2 n i) 0),(1,.row 1 (mpsI 3 n i) 0),(2,famI n i),(3,famI n i)]
theorem zFm {F n i:Nat}:(mpsI F n i).length=n:=by simp[mpsI]
theorem ztN {F n:Nat}:mpsI F n n=mps F n:=by
 unfold mpsI mps
 refine Wk fun j hj=>?_
 rw[if_pos (WN.1 hj)]
theorem zCj {F n:Nat}:Ws n [AV.nilmp]=mpsI F n 0:=by
 apply WO
 · simp[mpsI]
 · intro k h1 h2;simp[mpsI]
theorem zBp {n:Nat}:famI n n=famS n (fun _=>(0,[])):=by
 unfold famI famS fi
 congr 1
 refine Wk fun j hj=>?_
 unfold zmz;rw[if_pos (WN.1 hj)]
theorem zDY {n:Nat}:bdI n n=bdH n (fun _=>(0,[])) (fun _=>(0,[])):=by unfold bdI bdH;rw[ztN,ztN,zBp]
abbrev T4:Tab:=[(0,0,0),(1,1,0),(2,2,0),(3,3,0)]
abbrev F4 (i a b:Nat):Fds:=[(2,i+1,a),(3,i+1,b)]
theorem beqN {a b:Nat} (h:a≠b):Wt a b=false:=by
 cases hx:Wt a b with
 | false=>rfl
 | true=>exact absurd (Nat.eq_of_beq_eq_true hx) h
theorem f4_2 {i k a b:Nat}:fsig T4 (F4 i a b) 2 (k+1)=if k=i then some (a,0,0) else some (2,k+1,0):=by
 unfold fsig F4;simp only[fat]
 by_cases h:k=i
 · subst h;rw[if_pos rfl,show Wt 2 2=true from rfl,Nat.beq_refl];rfl
 · rw[if_neg h,beqN (show i+1≠k+1 by omega),Wz,Wz];rfl
theorem f4_3 {i k a b:Nat}:fsig T4 (F4 i a b) 3 (k+1)=if k=i then some (b,0,0) else some (3,k+1,0):=by
 unfold fsig F4;simp only[fat]
 by_cases h:k=i
 · subst h;rw[if_pos rfl,show Wt 3 3=true from rfl,show Wt 2 3=false from rfl,Nat.beq_refl];rfl
 · rw[if_neg h,beqN (show i+1≠k+1 by omega),Wz,Wz];rfl
theorem zvh {H HH:AH} {σ:Nat→Nat→Option (Nat × Nat × Nat)} {D:Nat→Nat→Prop} {F n i a:Nat} (h1:∀k,σ F (k+1)=if k=i then some (a,0,0) else some (F,k+1,0)) :
  RowV H HH σ D ((mpsI F n i).set i [.mp a 0]) (mpsI F n (i+1)):=by
 refine⟨by simp[mpsI],fun j c2 hj=>?_⟩;unfold mpsI at hj ⊢;simp only[WJ,WS] at hj;obtain⟨k,hk,rfl⟩:=hj;obtain⟨hkl,hkk⟩:=WW.1 hk;simp only[List.length_range] at hkl;rw[List.getElem_range] at hkk;subst hkk
 by_cases hji:j=i
 ·
  subst hji;rw[if_pos (WP j)];refine⟨[.mp a 0],by simp[hkl],rfl,fun z x y h3 h4=>?_⟩
  cases z with
  | succ z=>cases h3
  |
   zero =>
   cases h3;cases h4;exact .mp _ _ _ _ (by rw[h1,if_pos rfl])
 ·
  by_cases hlt:j < i
  ·
   rw[if_pos (by omega)];refine⟨[.mp F (j+1)],?_,rfl,fun z x y h3 h4=>?_⟩
   · rw[WX (fun e=>hji e.symm)];simp[hkl,hlt]
   ·
    cases z with
    | succ z=>cases h3
    |
     zero =>
     cases h3;cases h4;exact .mp _ _ _ _ (by rw[h1,if_neg hji])
  ·
   rw[if_neg (by omega)];refine⟨[.nilmp],?_,rfl,fun z x y h3 h4=>?_⟩
   · rw[WX (fun e=>hji e.symm)];simp[hkl,hlt]
   ·
    cases z with
    | succ z=>cases h3
    |
     zero =>
     cases h3;cases h4;exact .nilmp _
theorem zBu {H:AH} {F n i k:Nat} (h:H.look F=some (famI n i)) (hk:k < n):H.get F (k+1)=some (.row 3 ((zmz i k).map cm) 0):=by unfold AH.get;rw[h];simp only[Option.bind_some,famI,AObj.part,zp0 hk,Option.map_some]
theorem zyo {H HH:AH} {σ:Nat→Nat→Option (Nat × Nat × Nat)} {F n i a:Nat} (h1:∀k,σ F (k+1)=if k=i then some (a,0,0) else some (F,k+1,0))
  (hF:H.look F=some (famI n i)) (ha:H.get a 0=some (.row 3 [[.int .i64 0,.undef,.undef]] 0)) (k:Nat) (p:List (List AV) × Nat) (hp:(fi cm n (zmz (i+1)) (fun _=>0))[k]? = some p) :
  match σ F (k+1) with
   | some (r,q,d)=>∃els,H.get r q=some (.row 3 els (p.2+d))∧RowV H HH σ noQ els p.1
   | none=>p=([],0):=by
 rw[ztr] at hp;split at hp
 case isFalse=>cases hp
 rename_i hk;cases hp;rw[h1]
 by_cases hki:k=i
 · subst hki;rw[if_pos rfl];refine⟨_,ha,?_⟩;have:zmz (k+1) k=setM 0 []:=if_pos (WP k);rw[this];exact RowV.of_flat (by simp only[zfR,zgZ,and_true];rfl)
 ·
  rw[if_neg hki];refine⟨_,zBu hF hk,?_⟩
  have:zmz (i+1) k=zmz i k:=by
   unfold zmz
   by_cases hlt:k < i
   · rw[if_pos hlt,if_pos (by omega)]
   · rw[if_neg hlt,if_neg (by omega)]
  rw[this];exact RowV.of_flat (zj zW)
theorem zDh {K K2:Kn} {H:AH} {nx n i:Nat} (h0:H.get 0 0=some (.row 1 ((mpsI 2 n i).set i [.mp 4 0]) 0)) (h1:H.get 1 0=some (.row 1 ((mpsI 3 n i).set i [.mp 5 0]) 0))
  (h2:H.look 2=some (famI n i)) (h3:H.look 3=some (famI n i)) (h4:H.get 4 0=some (.row 3 [[.int .i64 0,.undef,.undef]] 0)) (h5:H.get 5 0=some (.row 3 [[.int .i64 0,.undef,.undef]] 0))
  (hK:zxS H (bdI n (i+1)) (fsig T4 (F4 i 4 5)) K2 K):Ent 0 K H nx K2 (bdI n (i+1)) 4 :=
 Ent.fold T4 (F4 i 4 5) rfl rfl ⟨rfl,⟨_,h0,zvh fun _=>f4_2⟩,rfl,⟨_,h1,zvh fun _=>f4_3⟩,rfl,fun k p hp=>zyo (fun _=>f4_2) h2 h4 k p hp,rfl,fun k p hp=>zyo (fun _=>f4_3) h3 h5 k p hp,trivial⟩ hK
theorem zt9 {H HH:AH} {σ:Nat→Nat→Option (Nat × Nat × Nat)} {D:Nat→Nat→Prop} {F n:Nat}:RowV H HH σ D (Ws n [.nilmp]) (mpsI F n 0):=by
 rw[←zCj];refine⟨rfl,fun i c2 hi=>⟨c2,hi,rfl,fun j x y h1 h2=>?_⟩⟩;obtain⟨_,rfl⟩:=WW.1 hi;rw[List.getElem_replicate] at h1 h2;rw[h1] at h2;cases h2
 cases j with
 | succ j=>cases h1
 | zero=>cases h1;exact .nilmp _
theorem zt8 {n:Nat} (i:Nat) (p:List (List AV) × Nat) (hp:(fi cm n (zmz 0) (fun _=>0))[i]? = some p):p=([],0):=by
 rw[ztr] at hp;split at hp
 · cases hp;rfl
 · cases hp
theorem zrM {K K2:Kn} {H:AH} {nx n a b:Nat} (h0:H.get a 0=some (.row 1 (Ws n [.nilmp]) 0)) (h1:H.get b 0=some (.row 1 (Ws n [.nilmp]) 0))
  (hok:Tab.ok 4 [] [(0,a,0),(1,b,0)]=true) (hK:zof H (bdI n 0) [(0,a,0),(1,b,0)] [] K2 K):Ent 0 K H nx K2 (bdI n 0) 4 :=
 Ent.tab [(0,a,0),(1,b,0)] [] hok ⟨rfl,⟨_,h0,zt9⟩,rfl,⟨_,h1,zt9⟩,rfl,zt8,rfl,zt8,trivial⟩ hK
theorem bd_l0 {Q:QT} (exit:List Int) (bl:List Bl) (ad:Int) (U:List Int) (hU:UnivB U exit bl)
  (hfin:∀S T,EndB U exit bl S T→wpX Tryz.prog 0 zax Q [(1,za exit),(2,encP 2 [.int .u32 ad,encL 2 Bl.cells bl]),(6,.own 0 0 0 0 bl.length),(7,.own 1 0 0 0 bl.length),(39,.bool false)] (bdH bl.length S T) 4)
  {K:Kn} {H:AH} {nx:Nat} (hent:Ent 0 K H nx [(1,za exit),(2,encP 2 [.int .u32 ad,encL 2 Bl.cells bl]),(6,.own 0 0 0 0 bl.length),(7,.own 1 0 0 0 bl.length),(26,.int .i64 bl.length),(27,.int .i64 0)] (bdI bl.length 0) 4) :
  zjG Tryz.prog 0 zbP (zbv 0 (seqQ Tryz.prog 0 zbO Q)) K H nx:=by
 have hB:=hBig;have hlen:=hU.len
 refine zk (fun i:Nat=>([(1,za exit),(2,encP 2 [.int .u32 ad,encL 2 Bl.cells bl]),(6,.own 0 0 0 0 bl.length),(7,.own 1 0 0 0 bl.length),(26,.int .i64 bl.length),(27,.int .i64 i)],bdI bl.length i)) 4
  (fun i=>i≤bl.length) (fun i=>bl.length - i) 0 (Wa _) hent ?_
 rintro i hi wf;unfold zbP
 by_cases hil:i < bl.length
 ·
  (repeat first|simp(disch:=try exact dis1) only[evD,Nat.reduceBEq,Nat.reduceAdd,Nat.reduceLeDiff,dT,bdI,zFm]|with_reducible first|intro _|refine aJ ?_)
  exact⟨i+1,by omega,by omega,zDh rfl rfl rfl rfl rfl rfl ⟨zaq rfl,zaq rfl,.own _ _ _ 0 _ _ _ _ _ rfl rfl,.own _ _ _ 0 _ _ _ _ _ rfl rfl,.int _ _ _,.int _ _ _,trivial⟩⟩
 ·
  obtain rfl:i=bl.length:=by omega
  rw[zDY]
  (refine Qg ?_;intros)
  unfold zbO
  (refine Qa ?_;intros)
  refine bd_l7 exit bl ad U hU hfin ?_;exact(Ent.tab [(0,0,0),(1,1,0),(2,2,0),(3,3,0)] [] rfl Qay Qay)
theorem Qaf {p q:Prop}(k:q)(h:Im q p:=by(repeat first|simp(disch:=try exact dis1) only[evD,Nat.reduceBEq,Nat.reduceAdd,Nat.reduceLeDiff,fldP,G.cells,za] | ((with_reducible apply Im.i);intro _) | ((with_reducible apply Im.a);omega));exact Im.r):p:=h k
theorem zl7 (g:G) (exit:List Int) (U:List Int) (hU:UnivB U exit g.blocks):zab Tryz.prog zbH [.agg g.cells,za exit] [] 0
  (fun v H nx=>∃S T,v=.tup [.own 0 0 0 0 g.blocks.length,.own 1 0 0 0 g.blocks.length]∧H=bdH g.blocks.length S T∧nx=4∧EndB U exit g.blocks S T):=by
 refine zbc (fn_x zjl rfl ?_);unfold zep;have hB:=hBig;have hlen:=hU.len;obtain⟨ad,bl⟩:=g;simp only at hU hlen ⊢
 (refine Qaf ?_;intros)
 (repeat' with_reducible apply Wh)
 all_goals try omega
 all_goals intro _ _
 all_goals refine bd_l0 exit bl ad U hU ?_ ?_
 all_goals first
  | (rintro S T hend;unfold zax;(repeat first|simp(disch:=try exact dis1) only[evD,Nat.reduceBEq,Nat.reduceAdd,Nat.reduceLeDiff,zeo,bdH]|with_reducible first|intro _|refine aJ ?_);exact⟨.tup [.own 0 0 0 0 bl.length,.own 1 0 0 0 bl.length],_,4,(Ent.tab [(0,0,0),(1,1,0),(2,2,0),(3,3,0)] [] rfl Qay Qay),S,T,rfl,rfl,rfl,hend⟩)
  | exact zrM (a:=2) (b:=3) rfl rfl rfl ⟨zaq rfl,zaq rfl,.own _ _ _ 0 _ _ _ _ _ rfl rfl,.own _ _ _ 0 _ _ _ _ _ rfl rfl,.int _ _ _,.int _ _ _,trivial⟩
  | exact zrM (a:=3) (b:=2) rfl rfl rfl ⟨zaq rfl,zaq rfl,.own _ _ _ 0 _ _ _ _ _ rfl rfl,.own _ _ _ 0 _ _ _ _ _ rfl rfl,.int _ _ _,.int _ _ _,trivial⟩
def cLL (l:List Int):List AV:=[za l]
def zmh (A:List (List Int)):AV:=encL 1 cLL A
theorem zEC:∀l,zM (cLL l)=true:=fun _=>rfl
theorem zxV {H H2:AH} {σ:Nat→Nat→Option (Nat × Nat × Nat)} {D:Nat→Nat→Prop} {t:Bool} {r q g:Nat} {l:List (List Int)} (hD:D r q) (hg:H.get r q=some (.row 1 (l.map cLL) g)) (hb:l.length≤big) :
  Vw H H2 σ D t (.own r q g 0 l.length) (zmh l) :=
 zhq hD hg hb fun a _ j hj=>by
  obtain rfl:j=0:=by omega
  exact zaq rfl
def rowI (L:Nat→List Int) (n i:Nat):List (List AV):=(Wg n).map fun j=>if j < i then cLL (L j) else [.nilsl]
theorem zDB {L:Nat→List Int} {n i:Nat}:(rowI L n i).length=n:=by simp[rowI]
theorem zEZ {L:Nat→List Int} {n i:Nat}:(rowI L n i).set i [za (L i)]=rowI L n (i+1):=by
 unfold rowI;rw[zfX]
 refine Wk fun j hj=>?_
 unfold updF
 by_cases h:j=i
 · subst h;rw[if_pos rfl,if_pos (WP j)];rfl
 ·
  rw[if_neg h];simp only
  by_cases h2:j < i
  · rw[if_pos h2,if_pos (by omega)]
  · rw[if_neg h2,if_neg (by omega)]
theorem ztG {L:Nat→List Int} {n i:Nat}:(rowI L n i).set i [encL 1 (fun n=>[.int .i64 n]) (L i)]=rowI L n (i+1):=zEZ
theorem zvv {L:Nat→List Int} {n:Nat}:rowI L n n=((Wg n).map L).map cLL:=by
 unfold rowI;rw[Wr]
 refine Wk fun j hj=>?_
 rw[if_pos (WN.1 hj)];rfl
theorem zmg {L:Nat→List Int} {n:Nat}:Ws n [AV.nilsl]=rowI L n 0:=by
 apply WO
 · simp[rowI]
 · intro k h1 h2;simp[rowI]
theorem zaz {L:Nat→List Int} {n i:Nat}:zy (rowI L n i):=by
 intro c hc;obtain⟨j,_,rfl⟩:=Wv.1 hc
 split<;>rfl
theorem renP {ρ:Nat→Nat} {F n g:Nat}:AObj.ren ρ (.row 1 (mps F n) g)=.row 1 (mps (ρ F) n) g:=by
 simp only[AObj.ren,mps,Wr]
 congr 1
 refine Wk fun i _=>?_
 simp[AV.ren]
def zGK (exit:List Int) (bl:List Bl):List (List Int):=(Wg bl.length).map (zaD exit bl)
theorem zz5 {α:Type} {l:List α} {d:α}:(Wg l.length).map (fun i=>l.getD i d)=l:=by
 apply WO
 · simp
 · intro k h1 h2;simp[WI,h2]
def zqX (n:Nat) (S T:Nat→MS) (LS LT:Nat→List Int) (i:Nat):AH:=[(0,.row 1 (mps 2 n) 0),(1,.row 1 (mps 3 n) 0),(2,famS n S),(3,famS n T),(4,.row 1 (rowI LS n i) 0),(5,.row 1 (rowI LT n i) 0)]
theorem Qbn {p:Prop}(h:p:=by(try simp only[evWB,Nat.reduceBEq,Nat.reduceAdd,Nat.reduceSub,Nat.reduceLeDiff,Nat.reduceLT,implies_true,zqX,famS,ztG])<;>exact fin8):p:=h
theorem lv_l0 (n:Nat) (S T:Nat→MS) (LS LT:Nat→List Int) (A B:List (List Int)) (hn:n≤1000000) (hS:∀i,i < n→(S i).ok∧zaT (S i)=LS i) (hT:∀i,i < n→(T i).ok∧zaT (T i)=LT i)
  (hA:(Wg n).map LS=A) (hC:(Wg n).map LT=B)
  {K:Kn} {H:AH} {nx:Nat} (hent:Ent 0 K H nx [(6,.own 0 0 0 0 n),(7,.own 1 0 0 0 n),(8,.own 4 0 0 0 n),(9,.own 5 0 0 0 n),(24,.int .i64 n),(25,.int .i64 0)] (zqX n S T LS LT 0) 6) :
  zjG Tryz.prog 0 zdz (zbv 0 (seqQ Tryz.prog 0 zdu (retK zff fun v H' _=>∃a,Frz H' v a∧a=.tup [zmh A,zmh B]))) K H nx:=by
 have hB:=hBig
 refine zk (fun i:Nat=>([(6,.own 0 0 0 0 n),(7,.own 1 0 0 0 n),(8,.own 4 0 0 0 n),(9,.own 5 0 0 0 n),(24,.int .i64 n),(25,.int .i64 i)],zqX n S T LS LT i)) 6
  (fun i=>i≤n) (fun i=>n - i) 0 (Wa _) hent ?_
 rintro i hi wf;unfold zdz
 by_cases hil:i < n
 ·
  obtain⟨s1,s2⟩:=hS i hil;obtain⟨t1,t2⟩:=hT i hil;have s3:zcI ((S i).2.map (·.1))=LS i:=s2;have t3:zcI ((T i).2.map (·.1))=LT i:=t2
  (repeat first|simp(disch:=try exact dis1) only[evD,Nat.reduceBEq,Nat.reduceAdd,Nat.reduceLeDiff,dT,zqX,zhn,zfe hil]|with_reducible first|intro _|refine aJ ?_)
  (repeat' with_reducible apply Wh)
  all_goals try omega
  all_goals first
   | (refine z6 [(0,2,0)] 1 _ (zcv n i hil S s1) rfl rfl Qaw Qaw ?_)
   | (refine z6 [(0,3,0)] 1 _ (zcv n i hil T t1) rfl rfl Qaw Qaw ?_)
  all_goals (rintro _ _ _ ⟨rfl,rfl,rfl⟩;(repeat first|simp(disch:=try exact dis1) only[evD,Nat.reduceBEq,Nat.reduceAdd,Nat.reduceLeDiff,renE,renF,s3,t3,zhn,zfe hil]|with_reducible first|intro _|refine aJ ?_))
  all_goals (repeat' with_reducible apply Wh)
  all_goals try omega
  all_goals first
   | (refine z6 [(0,3,0)] 1 _ (zcv n i hil T t1) rfl rfl Qaw Qaw ?_)
   | (refine z6 [(0,2,0)] 1 _ (zcv n i hil S s1) rfl rfl Qaw Qaw ?_)
  all_goals (rintro _ _ _ ⟨rfl,rfl,rfl⟩;(repeat first|simp(disch:=try exact dis1) only[evD,Nat.reduceBEq,Nat.reduceAdd,Nat.reduceLeDiff,renE,renF,s3,t3,zhn,zfe hil,zDB]|with_reducible first|intro _|refine aJ ?_))
  all_goals refine⟨⟨hil,rfl,rfl⟩,⟨by omega,by omega⟩,⟨hil,rfl,rfl⟩,i+1,by omega,by omega,?_⟩
  all_goals exact(Ent.tab [(0,0,0),(1,1,0),(2,2,0),(3,3,0),(4,4,0),(5,5,0)] [] rfl Qbn Qbn)
 ·
  obtain rfl:i=n:=by omega
  (refine Qg ?_;intros)
  unfold zdu
  (repeat first|simp(disch:=try exact dis1) only[evD,Nat.reduceBEq,Nat.reduceAdd,Nat.reduceLeDiff,zff,zqX]|with_reducible first|intro _|refine aJ ?_)
  rw[zvv,zvv,hA,hC]
  have la:A.length=i:=by rw[←hA];simp
  have lb:B.length=i:=by rw[←hC];simp
  refine⟨.tup [zmh A,zmh B],.tup _ _ _ rfl ?_,rfl⟩;intro k x y h1 h2
  rcases k with _|_|k
  · cases h1;cases h2;have:=@zxV [(0,.row 1 (mps 2 i) 0),(1,.row 1 (mps 3 i) 0),(2,famS i S),(3,famS i T),(4,.row 1 (A.map cLL) 0),(5,.row 1 (B.map cLL) 0)] [] nos allR false 4 0 0 A trivial rfl (by omega);rw[la] at this;exact this
  · cases h1;cases h2;have:=@zxV [(0,.row 1 (mps 2 i) 0),(1,.row 1 (mps 3 i) 0),(2,famS i S),(3,famS i T),(4,.row 1 (A.map cLL) 0),(5,.row 1 (B.map cLL) 0)] [] nos allR false 5 0 0 B trivial rfl (by omega);rw[lb] at this;exact this
  · cases h1
theorem Qag {p q:Prop}(k:q)(h:Im q p:=by(repeat first|simp(disch:=try exact dis1) only[evD,Nat.reduceBEq,Nat.reduceAdd,Nat.reduceLeDiff,bdH,renP,renF] | ((with_reducible apply Im.i);intro _) | ((with_reducible apply Im.a);omega));exact Im.r):p:=h k
theorem zi6 (g:G) (exit U:List Int) (hU:UnivB U exit g.blocks):zu Tryz.prog zd2 [.agg g.cells,za exit] (·=.tup [zmh (zbs exit g.blocks),zmh (zGK exit g.blocks)]):=by
 refine fn_x zoM rfl ?_;unfold zi7;have hB:=hBig;have hlen:=hU.len;have hbd:=zl7 g exit U hU;obtain⟨ad,bl⟩:=g;simp only at hU hlen hbd ⊢;simp only[G.cells] at hbd
 (refine Qaf ?_;intros)
 refine z6 [] 0 _ (hbd) rfl rfl fin8 fin8 ?_;rintro _ _ _ ⟨S,T,rfl,rfl,rfl,hend⟩
 (refine Qag ?_;intros)
 (repeat' with_reducible apply Wh)
 all_goals try omega
 all_goals try intro _
 all_goals refine lv_l0 bl.length S T (fun i=>(zbs exit bl).getD i []) (zaD exit bl) _ _ hlen (fun i hi=>⟨(hend.s i).ok,hend.keyS hi⟩) (fun i hi=>⟨(hend.t i).ok,hend.keyT hi⟩) (by have:=@zz5 _ (zbs exit bl) [];rw[(zkA exit bl).1.len] at this;exact this) rfl ?_
 · exact(Ent.tab [(0,2,0),(1,3,0),(2,4,0),(3,5,0),(4,6,0),(5,7,0)] [] rfl (by(try simp only[evWB,Nat.reduceBEq,Nat.reduceAdd,Nat.reduceSub,Nat.reduceLeDiff,Nat.reduceLT,implies_true,zqX,famS,←zmg])<;>exact fin8) (by(try simp only[evWB,Nat.reduceBEq,Nat.reduceAdd,Nat.reduceSub,Nat.reduceLeDiff,Nat.reduceLT,implies_true,zqX,famS,←zmg])<;>exact fin8))
 · exact(Ent.tab [(0,2,0),(1,3,0),(2,4,0),(3,5,0),(4,7,0),(5,6,0)] [] rfl (by(try simp only[evWB,Nat.reduceBEq,Nat.reduceAdd,Nat.reduceSub,Nat.reduceLeDiff,Nat.reduceLT,implies_true,zqX,famS,←zmg])<;>exact fin8) (by(try simp only[evWB,Nat.reduceBEq,Nat.reduceAdd,Nat.reduceSub,Nat.reduceLeDiff,Nat.reduceLT,implies_true,zqX,famS,←zmg])<;>exact fin8))
theorem Qah {p q:Prop}(k:q)(h:Im q p:=by(repeat first|simp(disch:=try exact dis1) only[evD,Nat.reduceBEq,Nat.reduceAdd,Nat.reduceLeDiff,dF,za] | ((with_reducible apply Im.i);intro _) | ((with_reducible apply Im.a);omega));exact Im.r):p:=h k
theorem Qaz {p:Prop}(h:p:=by(try simp only[evWB,Nat.reduceBEq,Nat.reduceAdd,Nat.reduceSub,Nat.reduceLeDiff,Nat.reduceLT,implies_true,za])<;>exact fin2):p:=h
theorem zrz (l:List Int) (n:Int):zu Tryz.prog zmd [za l,.int .i64 n] (·=.bool (decide (n∈l))):=by
 refine fn_x zzq rfl ?_;unfold zsz;have hB:=hBig
 (refine Qp ?_;intros)
 refine zk (fun i:Nat=>([(0,za l),(1,.int .i64 n),(5,.int .i64 i)],[])) 0 (fun i=>i≤l.length∧n∉l.take i) (fun i=>l.length - i) 0 ⟨Wa _,by simp⟩ (Ent.tab [] [] rfl Qaz Qaz) ?_;rintro i ⟨hi,hn⟩ wf;unfold zme
 by_cases hil:i < l.length
 ·
  have hgl:=zq (f:=cI) (d:=[]) hil
  by_cases he:l[i]=n
  ·
   have hm:n∈l:=by rw[←he];exact We hil
   rw[decide_eq_true hm]
   (repeat first|simp(disch:=try exact dis1) only[evD,Nat.reduceBEq,Nat.reduceAdd,Nat.reduceLeDiff,dT,za,hgl,znE]|with_reducible first|intro _|refine aJ ?_)
   exact⟨_,.bool _ _,rfl⟩
  ·
   (repeat first|simp(disch:=try exact dis1) only[evD,Nat.reduceBEq,Nat.reduceAdd,Nat.reduceLeDiff,dT,dF,za,hgl]|with_reducible first|intro _|refine aJ ?_)
   refine⟨i+1,⟨by omega,?_⟩,by omega,Ent.keep rfl fin5⟩;rw[Wp,Wq hil];simp only[Option.toList_some,WD,WB,not_or];exact⟨hn,fun e=>he e.symm⟩
 ·
  rw[Wi (by omega)] at hn;rw[decide_eq_false hn]
  (refine Qah ?_;intros)
  unfold zmH
  (repeat first|simp(disch:=try exact dis1) only[evD,Nat.reduceBEq,Nat.reduceAdd,Nat.reduceLeDiff,znE]|with_reducible first|intro _|refine aJ ?_)
  exact⟨_,.bool _ _,rfl⟩
end Go.Ab
