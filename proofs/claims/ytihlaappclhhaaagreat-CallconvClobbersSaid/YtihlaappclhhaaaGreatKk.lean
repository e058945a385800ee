/-
  Part 11 of the proof: how the calls of this program run, over values instead of memory, and what each function computes.
-/
import Derived.Test.YtihlaappclhhaaaGreatKj
set_option maxRecDepth 100000
set_option cbv.warning false
set_option cbv.maxSteps 100000000
set_option linter.unusedVariables false
set_option linter.unusedSimpArgs false
set_option linter.unnecessarySimpa false
set_option linter.unusedSectionVars false
open List renaming mem_append→Wa,mem_cons→Wc,getD_eq_getElem?_getD→Wd,range→We,getElem?_eq_getElem→Wf,replicate→Wh,map_map→Wi,getD→Wj,take_of_length_le→Wk,take_add_one→Wm,length_filter_le→Wn,append_nil→Wo,map_congr_left→Wp,mem_range→Wq,getElem?_map→Wr,filter→Wt,nodup_append→Wv,mem_reverse→Ww,map_replicate→Wx,ext_getElem?→Wy,rel_of_pairwise_cons→Wz,filter_append→WB,append_assoc→WC,findIdx?_eq_some_iff_getElem→WD,findIdx?_eq_none_iff→WE,mem_iff_getElem→WF,filter_eq_self→WG,length_take→WI,take_length→WJ,eq_nil_of_length_eq_zero→WK,getElem_mem→WL,length_range→WM,mem_cons_of_mem→WN,set_getElem_self→WO
open Nat renaming zero_le→Wg,le_refl→Wu
open Bool renaming and_eq_true→Wl,false_eq_true→WH
open Option renaming map_some→Ws,getD_some→WA
namespace Go.Ab.Dm
open Go.RowKit Go.Proofs
def zlu(n:Nat)(x:Int):Bool:=decide (0≤x)&&decide (x < n)
def _root_.Go.Ab.Gr.E(g:Gr):Adj:=g.blocks.map fun b=>(b.targets.filter (zlu g.blocks.length)).map Int.toNat
def _root_.Go.Ab.Gr.small(g:Gr):Prop:=g.blocks.length≤1000∧∀b∈g.blocks,b.targets.length≤1000
theorem _root_.Go.Ab.Gr.E_len(g:Gr):g.E.length=g.blocks.length:=by simp[Gr.E]
theorem _root_.Go.Ab.Gr.E_ok(g:Gr):g.E.ok:=by
 intro k n hn;unfold suc Gr.E at hn;rw[Wd,Wr] at hn
 cases hb:g.blocks[k]? with
 | none=>rw[hb] at hn;simp at hn
 |
  some b =>
  rw[hb] at hn;simp only[Ws,WA,List.mem_map,List.mem_filter,zlu,Wl,decide_eq_true_eq] at hn;obtain⟨x,⟨_,h1,h2⟩,rfl⟩:=hn;rw[g.E_len];omega
theorem zux(l:List Nat):za (l.map fun(n:Nat)=>(n:Int))=zj l:=by simp[za,zj,encL];rfl
theorem zfh{α:Type}{p:α→Bool}{l:List α}{i:Nat}(h:i < l.length):(l.take (i+1)).filter p=(l.take i).filter p++if p l[i] then [l[i]] else []:=by
 rw[Wm,Wf h,WB]
 cases hp:p l[i]<;>simp[Wt,hp]
def zn7(A:List (List Int)):AV:=encL 1 (fun r=>[za r]) A
theorem zmc{α:Type}{A B:List α}{i:Nat}(h:A.take i=B.take i)(ha:i < A.length)(hb:i < B.length)(he:A[i]=B[i]):A.take (i+1)=B.take (i+1):=by rw[Wm,Wm,h,Wf ha,Wf hb,he]
theorem R24_Lists_ok(A B:List (List Int)):zz Tryz.prog zkv [zn7 A,zn7 B] (·=.bool (decide (A=B))):=by
 refine fn_x zuQ rfl ?_
 unfold zpn;conv in dcC _ _=>cbv
 have hB:=hBig;(refine Gw1 @zn7.eq_1 ?_;intros)
 (refine zw (fun h=>?_) (fun h=>?_))<;>(try simp only[dcd] at h)
 ·
  (refine Gw1 @zg9.eq_1 ?_;intros);refine⟨_,.bool _ _,?_⟩
  have:A≠B:=fun e=>h (by rw[e])
  simp[this]
 (refine Gw0 ?_;intros)
 have hl:A.length=B.length:=by omega
 refine zd (fun i:Nat=>([(0,zn7 A),(1,zn7 B),(5,.int .i64 i)],[])) 0 (fun i=>i≤A.length∧A.take i=B.take i) (fun i=>A.length - i) 0 ⟨Wg _,by simp⟩ (Ent.keep rfl fin5) ?_;intro i ⟨hi,ht⟩ wf
 unfold zlE;conv in dcC _ _=>cbv
 (refine Gw1 @zn7.eq_1 ?_;intros)
 (refine zw (fun h2=>?_) (fun h2=>?_))<;>(try simp only[dcd] at h2)
 ·
  have ha:i < A.length:=by omega
  have hb:i < B.length:=by omega
  (repeat first|simp(disch:=try exact dis1) only[evD,Nat.reduceBEq,Nat.reduceAdd,Nat.reduceLeDiff,zn7,zn ha,zn hb,za]|with_reducible first|intro _|refine aJ ?_)
  (refine zw (fun h3=>?_) (fun h3=>?_))<;>(try simp only[dcd] at h3)
  ·
   (refine Gw1 @zg9.eq_1 ?_;intros);refine⟨_,.bool _ _,?_⟩
   have:A≠B:=fun e=>by subst e;exact h3 rfl
   simp[this]
  (refine Gw0 ?_;intros)
  have hl2:A[i].length=B[i].length:=by omega
  refine zd (fun k:Nat=>([(0,zn7 A),(1,zn7 B),(5,.int .i64 i),(6,.int .i64 k)],[])) 0 (fun k=>k≤A[i].length∧A[i].take k=B[i].take k) (fun k=>A[i].length - k) 0 ⟨Wg _,by simp⟩ (Ent.keep rfl fin5) ?_;intro k ⟨hk,htk⟩ wf
  unfold zlH;conv in dcC _ _=>cbv
  (repeat first|simp(disch:=try exact dis1) only[evD,Nat.reduceBEq,Nat.reduceAdd,Nat.reduceLeDiff,zn7,zn ha,za]|with_reducible first|intro _|refine aJ ?_)
  (refine zw (fun h4=>?_) (fun h4=>?_))<;>(try simp only[dcd] at h4)
  ·
   have hka:k < A[i].length:=by omega
   have hkb:k < B[i].length:=by omega
   (repeat first|simp(disch:=try exact dis1) only[evD,Nat.reduceBEq,Nat.reduceAdd,Nat.reduceLeDiff,zn7,zn ha,zn hb,za,zn hka,zn hkb]|with_reducible first|intro _|refine aJ ?_)
   (refine zw (fun h5=>?_) (fun h5=>?_))<;>(try simp only[dcd] at h5)
   ·
    (refine Gw1 @zg9.eq_1 ?_;intros);refine⟨_,.bool _ _,?_⟩
    have:A≠B:=fun e=>by subst e;exact h5 rfl
    simp[this]
   · (refine Gw0 ?_;intros);exact⟨k+1,⟨by omega,zmc htk hka hkb (by simpa using h5)⟩,by omega,Ent.keep rfl fin5⟩
  ·
   unfold zlK;conv in dcC _ _=>cbv
   (refine Gw0 ?_;intros);rw[Wk (show A[i].length≤k by omega),Wk (show B[i].length≤k by omega)] at htk;exact⟨i+1,⟨by omega,zmc ht ha hb htk⟩,by omega,Ent.keep rfl fin5⟩
 · unfold zl4;(refine Gw1 @zg9.eq_1 ?_;intros);refine⟨_,.bool _ _,?_⟩;rw[Wk (show A.length≤i by omega),Wk (show B.length≤i by omega)] at ht;simp[ht]
theorem vw_LL{H H2:AH}{σ:Nat→Nat→Option (Nat × Nat × Nat)}{D:Nat→Nat→Prop}{t:Bool}{r q g:Nat}{l:List (List Int)}(hD:D r q)(hg:H.get r q=some (.row 1 (l.map fun r=>[za r]) g))(hb:l.length≤big):
  Vw H H2 σ D t (.own r q g 0 l.length) (zn7 l):=by
 refine ziq hD hg hb (fun a _ j hj=>?_)
 obtain rfl:j=0:=by omega
 exact .sl _ _ _ _
theorem R24_Ints_ok(a b:List Int):zz Tryz.prog zmp [za a,za b] (·=.bool (decide (a=b))):=by
 refine fn_x zvj rfl ?_
 unfold zrc;conv in dcC _ _=>cbv
 (refine Gw1 @ua ?_;intros);refine zi (zaH (D:=allR) (R24_Lists_ok [a] [b]) (.cons (vw_LL (l:=[a]) trivial rfl (by simp[big])) (.cons (vw_LL (l:=[b]) trivial rfl (by simp[big])) .nil)) (.inl rfl)) ?_;(refine Gw1 @zqd.eq_1 ?_;intros);refine⟨_,.bool _ _,?_⟩;simp
structure NdL(n:Nat)(l:List Nat):Prop where
 nd:l.Nodup
 lt:∀b∈l,b < n
theorem NdL.len{n:Nat}{l:List Nat}(h:NdL n l):l.length≤n:=by
 obtain⟨h1,h2⟩:=h
 induction n generalizing l with
 |
  zero =>
  cases l with
  | nil=>exact Wu _
  | cons b l=>exact absurd (h2 b (by simp)) (by omega)
 |
  succ n ih =>
  by_cases hn:n∈l
  ·
   have:=ih (h1.erase n) (fun b hb=>by
    have h3:=h2 b (List.mem_of_mem_erase hb);have h4:=(h1.mem_erase_iff.1 hb).1
    omega)
   rw[List.length_erase_of_mem hn] at this;omega
  ·
   have:=ih h1 (fun b hb=>by
    have h3:=h2 b hb
    have h4:b≠n:=fun e=>hn (e▸hb)
    omega)
   omega
theorem zl1{α β:Type}{f:β→α→β}{b:β}{l:List α}{i:Nat}(h:i < l.length):(l.take (i+1)).foldl f b=f ((l.take i).foldl f b) l[i]:=by rw[Wm,Wf h,List.foldl_append];rfl
theorem zjZ(p:Nat→Bool)(n:Nat):(We (n+1)).filter p=(We n).filter p++if p n then [n] else []:=by
 rw[List.range_succ,WB]
 cases h:p n<;>simp[Wt,h]
theorem zpz(p:Nat→Bool)(n:Nat):((We n).filter p).length≤n:=by
 have:=Wn p (We n)
 simpa using this
def mapR{α:Type}(f:Nat→α)(n:Nat):List α:=(We n).map f
def filR(p:Nat→Bool)(n:Nat):List Nat:=(We n).filter p
theorem zDQ{α:Type}{f:Nat→α}{n:Nat}:(mapR f n).length=n:=by simp[mapR]
theorem zwN{p:Nat→Bool}{n:Nat}(h:p n=true):filR p (n+1)=filR p n++[n]:=by unfold filR;rw[zjZ,h];rfl
theorem zxK{p:Nat→Bool}{n:Nat}(h:p n=false):filR p (n+1)=filR p n:=by unfold filR;rw[zjZ,h];simp
theorem zz2{p:Nat→Bool}{n:Nat}:(filR p n).length≤n:=zpz p n
def zpF(A:List (List Nat)):AV:=encL 1 (fun r=>[zj r]) A
abbrev cNs(l:List Nat):List AV:=[zj l]
theorem vw_NN{H H2:AH}{σ:Nat→Nat→Option (Nat × Nat × Nat)}{D:Nat→Nat→Prop}{t:Bool}{r q g:Nat}{l:List (List Nat)}(hD:D r q)(hg:H.get r q=some (.row 1 (l.map cNs) g))(hb:l.length≤big):
  Vw H H2 σ D t (.own r q g 0 l.length) (zpF l):=by
 refine ziq hD hg hb (fun a _ j hj=>?_)
 obtain rfl:j=0:=by omega
 exact .sl _ _ _ _
def zdQ(E:Adj)(f:Nat)(s:List Nat × List Nat)(n:Nat):List Nat × List Nat:=if n∈s.1 then s else dfs E f n s
theorem zs6(E:Adj)(f k:Nat)(s:List Nat × List Nat):
  dfs E (f+1) k s=(((suc E k).foldl (zdQ E f) (s.1++[k],s.2)).1,((suc E k).foldl (zdQ E f) (s.1++[k],s.2)).2++[k]):=rfl
structure DfsI(n m d:Nat)(s:List Nat × List Nat):Prop where
 nd:NdL n s.1
 le:m≤s.1.length
 post:s.1.length=s.2.length+d
theorem NdL.snoc{n:Nat}{l:List Nat}(h:NdL n l){k:Nat}(hk:k < n)(hn:k∉l):NdL n (l++[k]):=by
 refine⟨?_,fun b hb=>?_⟩
 · rw[Wv];exact⟨h.nd,by simp,fun a ha b hb=>by simp at hb;subst hb;exact fun e=>hn (e▸ha)⟩
 ·
  rcases Wa.1 hb with hb|hb
  · exact h.lt b hb
  · simp at hb;subst hb;exact hk
theorem znd{E:Adj}{f m d:Nat}(h:∀(k:Nat)(s:List Nat × List Nat),DfsI E.length m d s→k < E.length→k∉s.1→DfsI E.length m d (dfs E f k s)):
  ∀(cs:List Nat)(t:List Nat × List Nat),(∀c∈cs,c < E.length)→DfsI E.length m d t→DfsI E.length m d (cs.foldl (zdQ E f) t)
 | [],t,_,ht=>ht
 |
  c::cs,t,hc,ht=>by
  refine znd h cs (zdQ E f t c) (fun d hd=>hc d (by simp[hd])) ?_;unfold zdQ;split
  · exact ht
  · exact h c t ht (hc c (by simp)) ‹_›
theorem zqD{E:Adj}(hE:E.ok):∀(f m d k:Nat)(s:List Nat × List Nat),DfsI E.length m d s→k < E.length→k∉s.1→DfsI E.length m d (dfs E f k s)
 | 0,_,_,_,_,h,_,_=>h
 |
  f+1,m,d,k,s,h,hk,hn=>by
  rw[zs6];have:=znd (zqD hE f m (d+1)) (suc E k) (s.1++[k],s.2) (hE k) ⟨h.nd.snoc hk hn,by have:=h.le;simp;omega,by have:=h.post;simp;omega⟩;exact⟨this.nd,this.le,by have:=this.post;simp;omega⟩
theorem zEF{A:List (List Nat)}{i:Nat}(h:i < A.length):suc A i=A[i]:=by simp[suc,Wd,h]
end Go.Ab.Dm
namespace Go.Ab.Dm
def zrK(P:List Nat)(m p:Nat):Prop:=∃A B,P=A++m::B∧p∈B
theorem zrK.left{P:List Nat}{m p:Nat}(h:zrK P m p)(L:List Nat):zrK (L++P) m p:=by obtain⟨A,B,rfl,hp⟩:=h;exact⟨L++A,B,by simp,hp⟩
theorem zrK.right{P:List Nat}{m p:Nat}(h:zrK P m p)(R:List Nat):zrK (P++R) m p:=by obtain⟨A,B,rfl,hp⟩:=h;exact⟨A,B++R,by simp,by simp[hp]⟩
theorem zrK.last{P:List Nat}{m k:Nat}(h:m∈P):zrK (P++[k]) m k:=by obtain⟨A,B,rfl⟩:=List.append_of_mem h;exact⟨A,B++[k],by simp,by simp⟩
structure Grew(E:Adj)(cs:List Nat)(s s':List Nat × List Nat)(P Q:List Nat):Prop where
 post:s'.2=s.2++P
 seen:s'.1=s.1++Q
 same:∀x,x∈P↔x∈Q
 nd:P.Nodup
 new:∀x∈P,x∉s.1
 closed:∀p∈P,∀c∈suc E p,c∈s'.1
 got:∀c∈cs,c∈s'.1
 reach:∀x∈P,∃c∈cs,RA E (fun _=>False) c x
 from':∀m∈P,m∈cs∨∃p,m∈suc E p∧zrK P m p
theorem RA.trans{E:Adj}{X:Nat→Prop}{a b c:Nat}(h1:RA E X a b)(h2:RA E X b c):RA E X a c:=by
 induction h2 with
 | refl=>exact h1
 | step _ h3 h4 ih=>exact ih.step h3 h4
theorem Grew.append{E:Adj}{cs ds:List Nat}{s s' s'':List Nat × List Nat}{P Q P2 Q2:List Nat}(h1:Grew E cs s s' P Q)(h2:Grew E ds s' s'' P2 Q2):Grew E (cs++ds) s s'' (P++P2) (Q++Q2):=by
 have sub:∀x,x∈s'.1→x∈s''.1:=fun x hx=>by rw[h2.seen];exact Wa.2 (.inl hx)
 refine⟨by rw[h2.post,h1.post,WC],by rw[h2.seen,h1.seen,WC],fun x=>by simp only[Wa,h1.same,h2.same],?_,fun x hx=>?_,fun p hp c hc=>?_,fun c hc=>?_,fun x hx=>?_,fun m hm=>?_⟩
 · rw[Wv];refine⟨h1.nd,h2.nd,fun a ha b hb e=>?_⟩;subst e;exact h2.new a hb (by rw[h1.seen];exact Wa.2 (.inr ((h1.same a).1 ha)))
 ·
  rcases Wa.1 hx with hx|hx
  · exact h1.new x hx
  · exact fun h=>h2.new x hx (by rw[h1.seen];exact Wa.2 (.inl h))
 ·
  rcases Wa.1 hp with hp|hp
  · exact sub c (h1.closed p hp c hc)
  · exact h2.closed p hp c hc
 ·
  rcases Wa.1 hc with hc|hc
  · exact sub c (h1.got c hc)
  · exact h2.got c hc
 ·
  rcases Wa.1 hx with hx|hx
  · obtain⟨c,hc,hr⟩:=h1.reach x hx;exact⟨c,by simp[hc],hr⟩
  · obtain⟨c,hc,hr⟩:=h2.reach x hx;exact⟨c,by simp[hc],hr⟩
 ·
  rcases Wa.1 hm with hm|hm
  ·
   rcases h1.from' m hm with h | ⟨p,hp,ha⟩
   · exact .inl (by simp[h])
   · exact .inr ⟨p,hp,ha.right _⟩
  ·
   rcases h2.from' m hm with h | ⟨p,hp,ha⟩
   · exact .inl (by simp[h])
   · exact .inr ⟨p,hp,ha.left _⟩
theorem ztJ{E:Adj}{f m d:Nat}(hok:E.ok)(ih:∀(k:Nat)(s:List Nat × List Nat),DfsI E.length m d s→k < E.length→k∉s.1→∃P Q,Grew E [k] s (dfs E f k s) P Q):
  ∀(cs:List Nat)(t:List Nat × List Nat),(∀c∈cs,c < E.length)→DfsI E.length m d t→∃P Q,Grew E cs t (cs.foldl (zdQ E f) t) P Q
 | [],t,_,_=>⟨[],[],by simp,by simp,by simp,by simp,by simp,by simp,by simp,by simp,by simp⟩
 |
  c::cs,t,hc,ht=>by
  have hstep:DfsI E.length m d (zdQ E f t c):=by
   unfold zdQ;split
   · exact ht
   · exact zqD hok f m d c t ht (hc c (by simp)) ‹_›
  obtain⟨P2,Q2,h2⟩:=ztJ hok ih cs (zdQ E f t c) (fun d hd=>hc d (by simp[hd])) hstep
  have h1:∃P Q,Grew E [c] t (zdQ E f t c) P Q:=by
   unfold zdQ;split
   · exact⟨[],[],by simp,by simp,by simp,by simp,by simp,by simp,by simpa,by simp,by simp⟩
   · exact ih c t ht (hc c (by simp)) ‹_›
  obtain⟨P,Q,h1⟩:=h1;exact⟨P++P2,Q++Q2,h1.append h2⟩
theorem zwY{E:Adj}(hok:E.ok):∀(f m d k:Nat)(s:List Nat × List Nat),DfsI E.length m d s→k < E.length→k∉s.1→E.length≤f+m→∃P Q,Grew E [k] s (dfs E f k s) (P++[k]) (k::Q)∧∀x,x∈P↔x∈Q
 |
  0,m,d,k,s,h,hk,hn,hf=>by
  have:=(h.nd.snoc hk hn).len;have:=h.le;simp at *;omega
 |
  f+1,m,d,k,s,h,hk,hn,hf=>by
  have hstart:DfsI E.length (m+1) (d+1) (s.1++[k],s.2):=⟨h.nd.snoc hk hn,by have:=h.le;simp;omega,by have:=h.post;simp;omega⟩
  obtain⟨P,Q,g⟩:=ztJ (f:=f) (m:=m+1) (d:=d+1) hok (fun c t ht hc hn=>by
   obtain⟨P,Q,h,_⟩:=zwY hok f (m+1) (d+1) c t ht hc hn (by omega)
   exact⟨_,_,h⟩) (suc E k) (s.1++[k],s.2) (hok k) hstart
  refine⟨P,Q,?_,g.same⟩;rw[zs6]
  have hkP:k∉P:=fun hh=>g.new k hh (by simp)
  refine⟨by simp[g.post],by simp[g.seen],fun x=>?_,?_,fun x hx=>?_,fun p hp c hc=>?_,fun c hc=>?_,fun x hx=>?_,fun x hx=>?_⟩
  · simp only[Wa,Wc,List.not_mem_nil,or_false,g.same];exact Or.comm
  · rw[Wv];exact⟨g.nd,by simp,fun a ha b hb e=>by simp at hb;subst hb;subst e;exact hkP ha⟩
  ·
   rcases Wa.1 hx with hx|hx
   · exact fun hh=>g.new x hx (by simp[hh])
   · simp at hx;subst hx;exact hn
  ·
   rcases Wa.1 hp with hp|hp
   · exact g.closed p hp c hc
   · simp at hp;subst hp;exact g.got c hc
  · simp at hc;subst hc;show c∈_;rw[g.seen];simp
  ·
   rcases Wa.1 hx with hx|hx
   · obtain⟨c,hc,hr⟩:=g.reach x hx;exact⟨k,by simp,((RA.refl id).step hc id).trans hr⟩
   · simp at hx;subst hx;exact⟨x,by simp,.refl id⟩
  ·
   rcases Wa.1 hx with hx|hx
   ·
    rcases g.from' x hx with hh | ⟨p,hp,ha⟩
    · exact .inr ⟨k,hh,zrK.last hx⟩
    · exact .inr ⟨p,hp,ha.right _⟩
   · exact .inl hx
theorem zzA{l:List Nat}(h:l.Nodup):l.reverse.Nodup:=by
 unfold List.Nodup at *;rw[List.pairwise_reverse]
 exact h.imp fun h e=>h e.symm
structure Rpo(E:Adj)(r:Nat)(l:List Nat):Prop where
 head:∃t,l=r::t
 nd:l.Nodup
 lt:∀x∈l,x < E.length
 mem:∀x,x∈l↔RA E (fun _=>False) r x
 pred:∀x∈l,x≠r→∃p A B,l=A++x::B∧p∈A∧x∈suc E p
theorem rpo{E:Adj}(hok:E.ok){r:Nat}(hr:r < E.length):Rpo E r (dfs E E.length r ([],[])).2.reverse:=by
 have h0:DfsI E.length 0 0 ([],[]):=⟨⟨by simp,by simp⟩,by simp,by simp⟩;obtain⟨P,Q,g,hs⟩:=zwY hok E.length 0 0 r ([],[]) h0 hr (by simp) (by omega);have hp:=g.post;have hq:=g.seen;simp only[List.nil_append] at hp hq;have hd:=zqD hok E.length 0 0 r _ h0 hr (by simp)
 have hmem:∀x,x∈P++[r]↔RA E (fun _=>False) r x:=by
  intro x;constructor
  · intro hx;obtain⟨c,hc,hh⟩:=g.reach x hx;simp at hc;subst hc;exact hh
  ·
   intro hx
   induction hx with
   | refl=>simp
   |
    step _ h3 _ ih =>
    have:=g.closed _ ih _ h3;rw[hq] at this;exact(g.same _).2 this
 rw[hp];refine⟨⟨P.reverse,by simp⟩,zzA g.nd,fun x hx=>?_,fun x=>by rw[Ww];exact hmem x,fun x hx hxr=>?_⟩
 · rw[Ww] at hx;exact hd.nd.lt x (by rw[hq];exact(g.same x).1 hx)
 ·
  rw[Ww] at hx
  rcases g.from' x hx with hh | ⟨p,hp,A,B,he,hpB⟩
  · simp at hh;exact absurd hh hxr
  · exact⟨p,B.reverse,A.reverse,by rw[he];simp,by simpa using hpB,hp⟩
inductive Ch(T:Nat→Option Nat):Nat→Nat→Prop
 | refl (k:Nat):Ch T k k
 | up {k j x:Nat}:T k=some j→Ch T j x→Ch T k x
structure Lay(A:Adj)(r:Nat)(l:List Nat)(f:Nat→Nat):Prop where
 nd:l.Nodup
 root:r∈l
 pl0:l.idxOf r=0
 mem:∀x,x∈l↔RA A (fun _=>False) r x
 fm:∀k∈l,k≠r→f k∈l∧k∈suc A (f k)∧l.idxOf (f k) < l.idxOf k
section
variable {A:Adj} {r:Nat} {l:List Nat} {f:Nat→Nat} {T U:Nat→Option Nat}
def Pr(A:Adj)(l:List Nat)(p k:Nat):Prop:=p∈l∧k∈suc A p
structure WT(r:Nat)(l:List Nat)(T:Nat→Option Nat):Prop where
 root:T r=none
 up:∀k j,T k=some j→k∈l∧j∈l∧l.idxOf j < l.idxOf k∧(j=r∨T j≠none)
def Hd(r:Nat)(T:Nat→Option Nat)(k:Nat):Prop:=k=r∨T k≠none
def Fst(l:List Nat)(T:Nat→Option Nat)(j p q:Nat):Prop:=Ch T p q∧l.idxOf q < j∧∀q2,Ch T p q2→l.idxOf q2 < j→Ch T q q2
structure PassTo(A:Adj)(r:Nat)(l:List Nat)(T:Nat→Option Nat)(j:Nat)(U:Nat→Option Nat):Prop where
 wt:WT r l U
 old:∀v,(v∉l∨j≤l.idxOf v)→U v=T v
 new:∀k∈l,k≠r→l.idxOf k < j→∃c,U k=some c ∧
  ∀x,Ch U c x↔(∀p,Pr A l p k→l.idxOf p < l.idxOf k→Ch U p x)∧(∀p,Pr A l p k→l.idxOf k≤l.idxOf p→Hd r T p→∃q,Fst l T (l.idxOf k) p q∧Ch U q x)
end
section
variable {A:Adj} {r:Nat} {l:List Nat} {f:Nat→Nat} {T U V:Nat→Option Nat}
abbrev Pass(A:Adj)(r:Nat)(l:List Nat)(T U:Nat→Option Nat):Prop:=PassTo A r l T l.length U
inductive SA(r:Nat)(l:List Nat)(f:Nat→Nat)(a:Nat):Nat→Prop
 | refl:SA r l f a a
 | step {b:Nat}:b∈l→b≠r→SA r l f a (f b)→SA r l f a b
structure Gd(A:Adj)(r:Nat)(l:List Nat)(f:Nat→Nat)(T U:Nat→Option Nat):Prop where
 wt:WT r l T
 pass:Pass A r l T U
 anc:∀v y,v∈l→Hd r T v→Ch T v y→SA r l f y v
 mono:∀v y,v∈l→Hd r T v→Ch U v y→Ch T v y
theorem sum_le{l:List Nat}{g h:Nat→Nat}(hh:∀k∈l,g k≤h k):(l.map g).sum≤(l.map h).sum:=by
 induction l with
 | nil=>simp
 |
  cons a l ih =>
  have h1:=hh a (by simp)
  have h2:=ih fun k hk=>hh k (by simp[hk])
  simp only[List.map_cons,List.sum_cons];omega
theorem zBx{l:List Nat}{g h:Nat→Nat}(hh:∀k∈l,g k≤h k){k:Nat}(hk:k∈l)(hlt:g k < h k):(l.map g).sum < (l.map h).sum:=by
 induction l with
 | nil=>cases hk
 |
  cons a l ih =>
  have h1:=hh a (by simp)
  have h3:=sum_le (l:=l) (g:=g) (h:=h) fun k hk=>hh k (by simp[hk])
  simp only[List.map_cons,List.sum_cons]
  rcases Wc.1 hk with rfl|hk'
  · omega
  · have:=ih (fun k hk=>hh k (by simp[hk])) hk';omega
def Dm(A:Adj)(r x k:Nat):Prop:=¬RA A (·=x) r k
def Sd(A:Adj)(r:Nat)(l:List Nat)(T:Nat→Option Nat):Prop:=∀k∈l,Hd r T k→∀x∈l,Dm A r x k→Ch T k x
structure DTree'(A:Adj)(r:Nat)(l:List Nat)(T:Nat→Option Nat):Prop where
 wt:WT r l T
 held:∀k∈l,k≠r→T k≠none
 ch:∀k∈l,∀x∈l,Ch T k x↔Dm A r x k
end
def IsN(x:Int):Nat→Prop:=fun y=>(y:Int)=x
structure FromI(E:Adj)(x:Int)(a i:Nat)(out:List Nat):Prop where
 nd:NdL E.length out
 root:a∈out
 sound:∀b∈out,RA E (IsN x) a b
 closed:∀j (h:j < out.length),j < i→∀c∈suc E out[j],(c:Int)≠x→c∈out
end Go.Ab.Dm
namespace Go.Ab.Dm
open Go.RowKit Go.Proofs
structure PredFn(fv:AV)(p:Int→Bool):Prop where
 ex:∃f caps,fv=.fn (.func f) caps∧zf7 Tryz.prog f=true∧zH caps=true∧∀x,zz Tryz.prog f ([.int .i64 x]++caps) (·=.bool (p x))
theorem zfw:∀{l:List AV},zH l=true→l.all AV.flat=true
 | [],_=>rfl
 |
  a::l,h=>by
  simp only[zH,Wl] at h;simp only[List.all_cons,Wl];refine⟨?_,zfw h.2⟩
  cases a<;>first|rfl|exact absurd h.1 (by simp[AV.flat0])
theorem zsB{fv:AV}{p:Int→Bool}(hp:PredFn fv p){x:Int}{H:AH}{nx:Nat}{k:AV→AH→Nat→Prop}(hk:k (.bool (p x)) H nx):zpt Tryz.prog fv [.int .i64 x] H nx k:=by obtain⟨f,caps,rfl,hg,hf,hx⟩:=hp.ex;rw[zlY];exact⟨hg,zi (zf (hx x) (by simp only[List.cons_append,List.nil_append,List.all_cons,AV.flat,AV.flat0,Bool.true_and];exact zfw hf)) hk⟩
theorem ztc{fv:AV}{p:Int→Bool}(hp:PredFn fv p){H H2:AH}{σ:Nat→Nat→Option (Nat × Nat × Nat)}{D:Nat→Nat→Prop}{t:Bool}:Vw H H2 σ D t fv fv:=by
 obtain⟨f,caps,rfl,hg,hf,hx⟩:=hp.ex
 refine .fn _ _ _ _ rfl fun i a b h1 h2=>?_
 rw[h1] at h2;cases h2;exact zdD (zcU hf h1)
theorem znv(l:List Int)(fv:AV)(p:Int→Bool)(hp:PredFn fv p):zz Tryz.prog zaC [za l,fv] (·=.int .i64 (match l.findIdx? p with|some i=>(i:Int)|none => -1)):=by
 refine fn_x zew rfl ?_
 unfold zcq;conv in dcC _ _=>cbv
 have hB:=hBig;(refine Gw1 @ua ?_;intros);refine zd (fun i:Nat=>([(0,za l),(1,fv),(7,.int .i64 l.length),(8,.int .i64 i)],[])) 0 (fun i=>i≤l.length∧∀j (h:j < l.length),j < i→p l[j]=false) (fun i=>l.length - i) 0 ⟨Wg _,fun j _ h=>by omega⟩ (Ent.keep rfl fin5) ?_;intro i ⟨hi,hno⟩ wf
 unfold zbK;conv in dcC _ _=>cbv
 (refine Gw1 @ua ?_;intros)
 (refine zw (fun h=>?_) (fun h=>?_))<;>(try simp only[dcd] at h)
 ·
  have hi':i < l.length:=by omega
  (repeat first|simp(disch:=try exact dis1) only[evD,Nat.reduceBEq,Nat.reduceAdd,Nat.reduceLeDiff,zn hi']|with_reducible first|intro _|refine aJ ?_)
  refine zsB hp ?_;(refine Gw0 ?_;intros)
  (refine zw (fun h2=>?_) (fun h2=>?_))<;>(try simp only[dcd] at h2)
  ·
   (refine Gw1 @zaw.eq_1 ?_;intros)
   have e:l.findIdx? p=some i:=by rw[WD];exact⟨hi',h2,fun j hj=>by rw[hno j (by omega) hj];simp⟩
   rw[e];exact⟨_,.int _ _ _,rfl⟩
  ·
   (refine Gw0 ?_;intros);refine⟨i+1,⟨by omega,fun j hj hji=>?_⟩,by omega,Ent.keep rfl fin5⟩
   by_cases hje:j=i
   · subst hje;simpa using h2
   · exact hno j hj (by omega)
 ·
  unfold zbI;(refine Gw1 @zaw.eq_1 ?_;intros)
  have e:l.findIdx? p=none:=by rw[WE];intro x hx;obtain⟨j,hj,rfl⟩:=WF.1 hx;exact hno j hj (by omega)
  rw[e];exact⟨_,.int _ _ _,rfl⟩
def cur(K l:List Int):List Int:=K++l.drop K.length
theorem zy5{K l:List Int}(h:K.length≤l.length):(cur K l).length=l.length:=by simp[cur];omega
theorem zEu{K l:List Int}{j:Nat}(h:K.length≤j)(hj:j < l.length):(cur K l)[j]? = some l[j]:=by unfold cur;rw[List.getElem?_append_right h,List.getElem?_drop,show K.length+(j - K.length)=j by omega,Wf hj]
theorem zCn{K l:List Int}{j:Nat}(h:K.length≤j)(hj:j < l.length):((cur K l).map cI).getD j []=[.int .i64 l[j]]:=by simp[Wd,zEu h hj]
theorem zEr{K l:List Int}{v:Int}(h:K.length < l.length):(cur K l).set K.length v=cur (K++[v]) l:=by unfold cur;rw[List.set_append_right _ _ (Wu _),Nat.sub_self,List.drop_eq_getElem_cons h,List.set_cons_zero];simp
theorem zDE{K l:List Int}{v:Int}(h:K.length < l.length):((cur K l).map cI).set K.length [.int .i64 v]=(cur (K++[v]) l).map cI:=by rw[←zEr h,List.map_set]
theorem zmt(l:List Int)(g:Nat)(fv:AV)(p:Int→Bool)(hp:PredFn fv p)(hl:l.length≤1000):
  zU Tryz.prog zcv [.own 0 0 g 0 l.length,fv] [(0,.row 1 (l.map cI) g)] 1
   (fun v H nx=>∃m,v=.own 0 0 g 0 (l.filter fun x => !p x).length∧H=[(0,.row 1 (((l.filter fun x => !p x)++m).map cI) g)]∧nx=1):=by
 refine zR (fn_x zh8 rfl ?_)
 unfold zd6;conv in dcC _ _=>cbv
 have hB:=hBig;(refine Gw0 ?_;intros);refine zi (zaH (D:=fun r _=>r=0) (znv l fv p hp) (.cons (zen rfl rfl (by omega)) (.cons (ztc hp) .nil)) (.inl rfl)) ?_
 cases hf:l.findIdx? p with
 |
  none =>
  have e:l.filter (fun x => !p x)=l:=by rw[WG];intro x hx;rw[WE] at hf;simp[hf x hx]
  (refine Gw1 @zb1.eq_1 ?_;intros);refine⟨.own 0 0 g 0 l.length,[(0,.row 1 (l.map cI) g)],1,?_,[],by rw[e],by rw[e,Wo],rfl⟩;exact(Ent.tabB [(0,0,0)] [] rfl rfl rfl Gin4_0 Gin4_0)
 |
  some i0 =>
  rw[WD] at hf;obtain⟨hi0,hpi,hno⟩:=hf;(refine Gw0 ?_;intros)
  (refine zw (fun h=>?_) (fun h=>?_))<;>(try simp only[dcd] at h)
  · omega
  (refine Gw0 ?_;intros)
  let K:=fun j=>(l.take j).filter fun x => !p x
  have hK0:K (i0+1)=l.take i0:=by
   simp only[K];rw[zfh hi0,hpi];simp only[Bool.not_true,WH,if_false,Wo];rw[WG];intro x hx;obtain⟨j,hj,rfl⟩:=WF.1 hx;simp only[WI] at hj;rw[List.getElem_take]
   simpa using hno j (by omega)
  have hKl:∀j,i0 < j→j≤l.length→(K j).length < j:=by
   intro j h1 h2
   induction j with
   | zero=>omega
   |
    succ j ih =>
    by_cases hj:j=i0
    · subst hj;rw[hK0];simp;omega
    ·
     have:=ih (by omega) (by omega);simp only[K] at this ⊢;rw[zfh (show j < l.length by omega)];rw[List.length_append]
     split<;>simp<;>omega
  have hstart:cur (K (i0+1)) l=l:=by rw[hK0];unfold cur;rw[WI,Nat.min_eq_left (by omega),List.take_append_drop]
  have hK0l:(K (i0+1)).length=i0:=by rw[hK0];simp;omega
  refine zd (fun j:Nat=>([(0,.own 0 0 g 0 l.length),(1,fv),(5,.int .i64 (K j).length),(6,.int .i64 j)],[(0,.row 1 ((cur (K j) l).map cI) g)])) 1 (fun j=>i0 < j∧j≤l.length) (fun j=>l.length - j) (i0+1) ⟨by omega,by omega⟩ (Ent.tabB [(0,0,0)] [] rfl rfl rfl ?_ ?_) ?_
  · simp only[evWB,Nat.reduceBEq,Nat.reduceAdd,Nat.reduceSub,Nat.reduceLeDiff,Nat.reduceLT,implies_true,hstart]
  · simp only[evWB,Nat.reduceBEq,Nat.reduceAdd,Nat.reduceSub,Nat.reduceLeDiff,Nat.reduceLT,implies_true,hK0l];exact ztc hp
  intro j ⟨hj1,hj2⟩ wf;have hkl:=hKl j hj1 hj2
  unfold zc5;conv in dcC _ _=>cbv
  (refine Gw0 ?_;intros)
  (refine zw (fun h2=>?_) (fun h2=>?_))<;>(try simp only[dcd] at h2)
  ·
   have hj':j < l.length:=by omega
   have hst:K (j+1)=K j++if (!p l[j])=true then [l[j]] else []:=zfh hj'
   have hkl2:=hKl (j+1) (by omega) (by omega);have hcl:=zy5 (K:=K j) (l:=l) (by omega)
   (repeat first|simp(disch:=try exact dis1) only[evD,Nat.reduceBEq,Nat.reduceAdd,Nat.reduceLeDiff,zCn (K:=K j) (l:=l) (by omega) hj']|with_reducible first|intro _|refine aJ ?_)
   refine zsB hp ?_;(refine Gw0 ?_;intros)
   (refine zw (fun h3=>?_) (fun h3=>?_))<;>(try simp only[dcd] at h3)
   · rw[h3] at hst;simp only[Bool.not_false,if_true] at hst;(refine Gw0 ?_;intros);rw[zDE (by omega),←hst];exact⟨j+1,⟨by omega,by omega⟩,by omega,Ent.tabB [(0,0,0)] [] rfl rfl rfl (by simp only[evWB,Nat.reduceBEq,Nat.reduceAdd,Nat.reduceSub,Nat.reduceLeDiff,Nat.reduceLT,implies_true]) (by simp only[evWB,Nat.reduceBEq,Nat.reduceAdd,Nat.reduceSub,Nat.reduceLeDiff,Nat.reduceLT,implies_true,hst];exact ztc hp)⟩
   ·
    have h3':p l[j]=true:=by simpa using h3
    rw[h3'] at hst;simp only[Bool.not_true,WH,if_false,Wo] at hst;(refine Gw0 ?_;intros);rw[←hst];exact⟨j+1,⟨by omega,by omega⟩,by omega,Ent.tabB [(0,0,0)] [] rfl rfl rfl (by simp only[evWB,Nat.reduceBEq,Nat.reduceAdd,Nat.reduceSub,Nat.reduceLeDiff,Nat.reduceLT,implies_true]) (by simp only[evWB,Nat.reduceBEq,Nat.reduceAdd,Nat.reduceSub,Nat.reduceLeDiff,Nat.reduceLT,implies_true];exact ztc hp)⟩
  ·
   obtain rfl:j=l.length:=by omega
   have hKe:K l.length=l.filter fun x => !p x:=by simp only[K];rw[WJ]
   have hcl:=zy5 (K:=K l.length) (l:=l) (by omega)
   unfold zc6;conv in dcC _ _=>cbv
   have hz:(((l.length:Int) - (K l.length).length).toNat)=l.length - (K l.length).length:=by omega
   have hclr:((cur (K l.length) l).map cI).take (K l.length).length++Wh (l.length - (K l.length).length) [AV.int .i64 0]++((cur (K l.length) l).map cI).drop ((K l.length).length+(l.length - (K l.length).length))=(K l.length++Wh (l.length - (K l.length).length) 0).map cI:=by
    rw[List.drop_of_length_le (by rw[List.length_map,hcl];omega),Wo,←List.map_take,List.map_append,Wx]
    congr 2
    unfold cur;rw[List.take_append_of_le_length (Wu _),WJ]
   (refine Gw3 @zb1.eq_1 hz hclr ?_;intros);refine⟨.own 0 0 g 0 (l.filter fun x => !p x).length,[(0,.row 1 (((l.filter fun x => !p x)++Wh (l.length - (K l.length).length) 0).map cI) g)],1,?_,_,rfl,rfl,rfl⟩;rw[←hKe];exact(Ent.tabB [(0,0,0)] [] rfl rfl rfl (by(try simp only[evWB,Nat.reduceBEq,Nat.reduceAdd,Nat.reduceSub,Nat.reduceLeDiff,Nat.reduceLT,implies_true,Wx])<;>exact fin4) (by(try simp only[evWB,Nat.reduceBEq,Nat.reduceAdd,Nat.reduceSub,Nat.reduceLeDiff,Nat.reduceLT,implies_true,Wx])<;>exact fin4))
theorem _root_.Go.Ab.ui:type_of% @Gr.cells.eq_1:=@Gr.cells.eq_1
theorem zy8(g:Gr)(x:Int):zz Tryz.prog zdA [.int .i64 x,.iptr 2 fun j=>g.cells.getD j .undef] (·=.bool (!zlu g.blocks.length x)):=by
 refine fn_x zmF rfl ?_
 unfold zhz;conv in dcC _ _=>cbv
 (refine Gw1 @ui ?_;intros)
 generalize h:decide (x < 0)=hb;cases hb<;>simp only[decide_eq_true_eq,decide_eq_false_iff_not,ne_eq,Classical.not_not] at h
 ·
  (refine Gw1 @ze4.eq_1 ?_;intros);refine⟨_,.bool _ _,?_⟩
  have h0:0≤x:=by omega
  by_cases h2:x < g.blocks.length
  ·
   have:¬(g.blocks.length:Int)≤x:=by omega
   simp[zlu,h0,h2,this]
  ·
   have:(g.blocks.length:Int)≤x:=by omega
   simp[zlu,h0,h2,this]
 · (refine Gw1 @ze4.eq_1 ?_;intros);refine⟨_,.bool _ _,?_⟩;simp[zlu,h]
theorem zyB(g:Gr):PredFn (.fn (.func zdA) [.iptr 2 fun j=>g.cells.getD j .undef]) (fun x => !zlu g.blocks.length x) :=
 ⟨_,_,rfl,by kernel_rfl,rfl,zy8 g⟩
theorem zq7(l:List Int)(hl:l.length≤1000):zU Tryz.prog zbl [za l] [] 0 (fun v H nx=>v=.own 0 0 0 0 l.length∧H=[(0,.row 1 (l.map cI) 0)]∧nx=1):=by
 refine zR (fn_x zf1 rfl ?_)
 unfold zdC;conv in dcC _ _=>cbv
 have hB:=hBig
 have hel:∀H,zgy 1 (encL 1 (fun n:Int=>[AV.int .i64 n]) l) H=some (l.map fun n=>[AV.int .i64 n]):=fun H=>zoO (fun _ _=>rfl)
 (refine Gw2 @ua @zuz ?_;intros)
 cases h0:(l.length == 0) with
 |
  true =>
  have e:l=[]:=WK (by simpa using h0);subst e;(refine Gw0 ?_;intros);rename_i b;cases b
  · (refine Gw2 hel @zak.eq_1 ?_;intros);refine⟨.own 0 0 0 0 0,[(0,.row 1 [] 0)],1,?_,rfl,rfl,rfl⟩;exact(Ent.tab [(0,1,1)] [] rfl Gin4_0 Gin4_0)
  · (refine Gw1 @zak.eq_1 ?_;intros);refine⟨.own 0 0 0 0 0,[(0,.row 1 [] 0)],1,?_,rfl,rfl,rfl⟩;exact(Ent.tab [(0,1,0)] [] rfl Gin4_0 Gin4_0)
 |
  false =>
  (refine Gw2 hel @zak.eq_1 ?_;intros);refine⟨.own 0 0 0 0 l.length,[(0,.row 1 (l.map cI) 0)],1,?_,rfl,rfl,rfl⟩;exact(Ent.tab [(0,1,1)] [] rfl Gin4_0 Gin4_0)
theorem zAv{g:Gr}{k:Nat}(hk:k < g.blocks.length):zj (suc g.E k)=za (g.blocks[k].targets.filter (zlu g.blocks.length)):=by
 rw[←zux]
 congr 1
 simp only[suc,Gr.E,zn hk,Wi]
 conv=>rhs;rw[←List.map_id (Wt _ _)]
 refine Wp fun x hx=>?_
 simp only[List.mem_filter,zlu,Wl,decide_eq_true_eq] at hx;simp only[Function.comp,id];omega
theorem zs8{H H2:AH}{σ:Nat→Nat→Option (Nat × Nat × Nat)}{D:Nat→Nat→Prop}{t:Bool}{r q g:Nat}{l m:List Int}(hD:D r q)(hg:H.get r q=some (.row 1 ((l++m).map cI) g))(hb:l.length≤big):
  Vw H H2 σ D t (.own r q g 0 l.length) (za l):=by
 refine .frz t r q g 0 l.length 1 ((l++m).map cI) _ hD hg hb (by simp) (fun i j hi hj=>?_)
 obtain rfl:j=0:=by omega
 rw[Nat.zero_add,zn (show i < (l++m).length by simp;omega),zn hi,List.getElem_append_left hi];exact .int _ _ _
theorem zoh(g:Gr)(hg:g.small)(k:Nat)(hk:k < g.blocks.length):zz Tryz.prog zgM [.agg g.cells,.int .i64 k] (·=zj (suc g.E k)):=by
 have htl:=hg.2 _ (WL hk);rw[zAv hk];refine fn_x zol rfl ?_
 unfold zjf;conv in dcC _ _=>cbv
 have hB:=hBig;have e:(g.blocks.map Blk.cells).getD k []=g.blocks[k].cells:=zjr (Wf hk);(refine Gw3 @ui e @Blk.cells.eq_1 ?_;intros);generalize hbk:g.blocks[k]=b at htl ⊢
 (refine zw (fun h=>?_) (fun h=>?_))<;>(try simp only[dcd] at h)
 ·
  (refine Gw1 @zfI.eq_1 ?_;intros);refine⟨_,?_,rfl⟩;have h0:b.stmts=[]:=WK (by omega)
  have e:b.targets=[]:=by simp[Blk.targets,h0]
  rw[e];exact zen (l:=[]) trivial rfl (Wg _)
 have h0:0 < b.stmts.length:=by omega
 obtain⟨s,hs⟩:∃s,b.stmts[b.stmts.length - 1]? = some s:=⟨_,Wf (by omega)⟩
 have ht:b.targets=if s.op=6 then [s.next] else if s.op=7 then [s.next,s.els] else if s.op=8 then s.cases else []:=by
  have:b.stmts.getLast? = some s:=by rw[List.getLast?_eq_getElem?,hs]
  simp[Blk.targets,this]
 have e2:(b.stmts.map Stm.cells).getD ((b.stmts.length:Int) - 1).toNat []=s.cells:=by rw[show ((b.stmts.length:Int) - 1).toNat=b.stmts.length - 1 by omega];exact zjr hs
 (refine Gw2 e2 @Stm.cells.eq_1 ?_;intros);refine zkI (fun _:Unit=>([(2,.iptr 2 fun j=>g.cells.getD j .undef),(7,.own 0 0 0 0 b.targets.length)],[(0,.row 1 (b.targets.map cI) 0)])) 1 (fun _=>True) ?_ ?_
 ·
  (refine Gw0 ?_;intros)
  (refine zw (fun h=>?_) (fun h=>?_))<;>(try simp only[dcd] at h)
  · rw[if_pos h] at ht;(refine Gw0 ?_;intros);refine⟨(),?_⟩;rw[ht];exact(Ent.tab [(0,3,0)] [] rfl (Gin4_1 @ui) (Gin4_1 @ui))
  ·
   rw[if_neg h] at ht;(refine Gw0 ?_;intros)
   (refine zw (fun h=>?_) (fun h=>?_))<;>(try simp only[dcd] at h)
   · rw[if_pos h] at ht;(refine Gw0 ?_;intros);refine⟨(),?_⟩;rw[ht];exact(Ent.tab [(0,3,0)] [] rfl (Gin4_1 @ui) (Gin4_1 @ui))
   ·
    rw[if_neg h] at ht;(refine Gw0 ?_;intros)
    (refine zw (fun h=>?_) (fun h=>?_))<;>(try simp only[dcd] at h)
    · rw[if_pos h] at ht;(refine Gw0 ?_;intros);refine zx [] 0 _ (zq7 s.cases (by rw[←ht];exact htl)) rfl rfl Gin4_0 Gin4_0 ?_;rintro v H' nx' ⟨rfl,rfl,rfl⟩;(refine Gw0 ?_;intros);refine⟨(),?_⟩;rw[ht];exact(Ent.tab [(0,3,0)] [] rfl (Gin4_1 @ui) (Gin4_1 @ui))
    · rw[if_neg h] at ht;(refine Gw0 ?_;intros);refine⟨(),?_⟩;rw[ht];exact(Ent.tab [(0,2,0)] [] rfl (Gin4_1 @ui) (Gin4_1 @ui))
 ·
  rintro _ _ _;unfold zg3;(refine Gw0 ?_;intros);refine zx [(0,0,0)] 1 _ (zmt b.targets 0 _ _ (zyB g) htl) rfl rfl (by simp only[evWB,Nat.reduceBEq,Nat.reduceAdd,Nat.reduceSub,Nat.reduceLeDiff,Nat.reduceLT,implies_true]) (by simp only[evWB,Nat.reduceBEq,Nat.reduceAdd,Nat.reduceSub,Nat.reduceLeDiff,Nat.reduceLT,implies_true]) ?_;rintro v H' nx' ⟨m,rfl,rfl,rfl⟩;(refine Gw1 @zfI.eq_1 ?_;intros);refine⟨_,?_,rfl⟩;have:=Wn (zlu g.blocks.length) b.targets
  try simp only[Bool.not_not]
  exact zs8 (l:=b.targets.filter (zlu g.blocks.length)) (m:=m) trivial rfl (by omega)
def aLL(E:Adj)(n k:Nat):List (List AV):=(We n).map fun i=>[if i < k then zj (suc E i) else .nilsl]
theorem zFk{E:Adj}{n k:Nat}:(aLL E n k).length=n:=by simp[aLL]
theorem zwS{E:Adj}{n:Nat}:aLL E n 0=Wh n [.nilsl]:=by unfold aLL;simp only[Nat.not_lt_zero,if_false];rw[List.map_const',WM]
theorem zFv{E:Adj}{n k:Nat}:(aLL E n k).set k [zj (suc E k)]=aLL E n (k+1):=by
 unfold aLL;rw[zia]
 refine Wp fun i hi=>?_
 unfold updF;split
 · rename_i h;subst h;rw[if_pos (by omega)]
 ·
  show [if i < k then zj (suc E i) else AV.nilsl]=_
  by_cases h:i < k
  · rw[if_pos h,if_pos (by omega)]
  · rw[if_neg h,if_neg (by omega)]
theorem zxt{E:Adj}{n k:Nat}:zr (aLL E n k):=by
 intro c hc;obtain⟨i,_,rfl⟩:=List.mem_map.1 hc
 split<;>rfl
theorem zEx{E:Adj}{n:Nat}(hn:E.length=n):aLL E n n=E.map cNs:=by
 subst hn;apply Wy;intro i;unfold aLL
 by_cases hi:i < E.length
 · simp[hi,suc,Wd]
 · simp[hi]
theorem zpM(g:Gr)(hg:g.small):zz Tryz.prog ziK [.agg g.cells] (·=zpF g.E):=by
 refine fn_x zpE rfl ?_
 unfold zls;conv in dcC _ _=>cbv
 have hB:=hBig;have hn:=hg.1;have hlen:=g.E_len;(refine Gw1 @ui ?_;intros);refine zd (fun k:Nat=>([(1,encP 2 g.cells),(3,.own 0 0 0 0 g.blocks.length),(11,.int .i64 g.blocks.length),(12,.int .i64 k)],[(0,.row 1 (aLL g.E g.blocks.length k) 0)])) 1 (fun k=>k≤g.blocks.length) (fun k=>g.blocks.length - k) 0 (Wg _) (Ent.tab [(0,1,0)] [] rfl (Gin4_2 @ui @zwS) (Gin4_2 @ui @zwS)) ?_;intro k hk wf
 unfold zio;conv in dcC _ _=>cbv
 (refine Gw2 @encP.eq_1 @ui ?_;intros)
 (refine zw (fun h=>?_) (fun h=>?_))<;>(try simp only[dcd] at h)
 · (refine Gw1 @Gr.two ?_;intros);refine zi (zf (zoh g hg k (by omega)) rfl) ?_;(refine Gw1 @zFk ?_;intros);have e:(aLL g.E g.blocks.length k).set k (zj (suc g.E k)).cells=aLL g.E g.blocks.length (k+1):=zFv;refine⟨⟨by omega,rfl,rfl⟩,?_⟩;rw[e];(refine Gw0 ?_;intros);exact⟨k+1,by omega,by omega,(Ent.tab [(0,0,0)] [] rfl (by(try simp only[evWB,Nat.reduceBEq,Nat.reduceAdd,Nat.reduceSub,Nat.reduceLeDiff,Nat.reduceLT,implies_true,Gr.cells,zk8 zxt])<;>exact fin4) (by(try simp only[evWB,Nat.reduceBEq,Nat.reduceAdd,Nat.reduceSub,Nat.reduceLeDiff,Nat.reduceLT,implies_true,Gr.cells,zk8 zxt])<;>exact fin4))⟩
 ·
  obtain rfl:k=g.blocks.length:=by omega
  unfold ziW;(refine Gw1 @zlg.eq_1 ?_;intros);refine⟨_,?_,rfl⟩;rw[zEx hlen];have:=vw_NN (H:=[(0,.row 1 (g.E.map cNs) 0)]) (H2:=[]) (σ:=nos) (D:=allR) (t:=false) (r:=0) (q:=0) (g:=0) (l:=g.E) trivial rfl (by omega)
  rwa [hlen] at this
structure Adj.small(A:Adj):Prop where
 len:A.length≤2000
 row:∀k,(suc A k).length≤2000000
def keepP(l:List Nat)(j:Nat):Bool:=j == 0||(l.getD j 0 != l.getD (j - 1) 0)
def keepL(l:List Nat)(n:Nat):List Nat:=(filR (keepP l) n).map (fun j=>l.getD j 0)
theorem _root_.Go.Ab.Gr.E_small{g:Gr}(hg:g.small):g.E.small:=by
 refine⟨by rw[g.E_len];have:=hg.1;omega,fun k=>?_⟩;unfold suc Gr.E;rw[Wd,Wr]
 cases hb:g.blocks[k]? with
 | none=>simp
 |
  some b =>
  simp only[Ws,WA,List.length_map];have h1:=Wn (zlu g.blocks.length) b.targets;have h2:=hg.2 b (List.mem_of_getElem? hb);omega
def inB(n:Nat)(l:List Nat):List Bool:=mapR (fun i=>decide (i∈l)) n
theorem zzb{n:Nat}{l:List Nat}:(inB n l).length=n:=zDQ
theorem zFw{n i:Nat}{l:List Nat}(h:i < n):((inB n l).map cB).getD i []=[.bool (decide (i∈l))]:=by simp[inB,mapR,Wd,h]
theorem zEH{n k:Nat}{l:List Nat}:((inB n l).map cB).set k [.bool true]=(inB n (l++[k])).map cB:=by
 unfold inB mapR;rw[Wi,Wi,zia]
 refine Wp fun i hi=>?_
 unfold updF;split
 · rename_i h;subst h;simp
 · rename_i h;simp[h]
theorem zAm{n:Nat}:(inB n []).map cB=Wh n [.bool false]:=by
 unfold inB mapR;rw[Wi]
 have:(cB ∘ fun i=>decide (i∈([]:List Nat)))=fun _=>[AV.bool false]:=by funext i;simp
 rw[this,List.map_const',WM]
def zdP(A:Adj):List AV:=[.ptr 1 0 0 0 0,.iptr 1 fun j=>[zpF A].getD j .undef,.ptr 3 0 0 0 0,.ptr 2 0 0 0 0]
def ordH(A:Adj)(s:List Nat × List Nat)(g:Nat):AH:=[(0,.row 1 ((inB A.length s.1).map cB) 0),(1,.row 1 [[.own 0 0 0 0 A.length]] 0),(2,.row 1 [[.own 4 0 g 0 s.2.length]] 0),
 (3,.row 1 [[.fn (.func zdu) (zdP A)]] 0),(4,.row 1 (s.2.map cN) g)]
theorem _root_.Go.Ab.uk:type_of% @ordH.eq_1:=@ordH.eq_1
theorem _root_.Go.Ab.uh:type_of% @zj.eq_1:=@zj.eq_1
theorem _root_.Go.Ab.ul:type_of% @zdP.eq_1:=@zdP.eq_1
theorem zhL(A:Adj)(hA:A.small)(hok:A.ok):∀(f:Nat)(k g:Nat)(s:List Nat × List Nat)(m d:Nat),DfsI A.length m d s→k < A.length→k∉s.1→A.length≤f+m →
  zU Tryz.prog zdu ([.int .i64 k]++zdP A) (ordH A s g) 5 (fun v H nx=>∃g',v=.tup []∧H=ordH A (dfs A f k s) g'∧nx=5)
 |
  0,k,g,s,m,d,hs,hk,hn,hf=>by
  have:=(hs.nd.snoc hk hn).len;have:=hs.le;simp at *;omega
 |
  f+1,k,g,s,m,d,hs,hk,hn,hf=>by
  have ih:=zhL A hA hok f;have hB:=hBig;have hsl:=hs.nd.len;have hsp:=hs.post;have hAl:=hA.len;refine zR (fn_x zmu rfl ?_)
  unfold zhN;conv in dcC _ _=>cbv
  have hE:∀c∈suc A k,c < A.length:=hok k;have hstart:DfsI A.length (m+1) (d+1) (s.1++[k],s.2):=⟨hs.nd.snoc hk hn,by have:=hs.le;simp;omega,by simp;omega⟩;have hdfs:=zs6 A f k s;have hrow:=hA.row k;rw[zEF hk] at hE hdfs hrow
  (repeat first|simp(disch:=try exact dis1) only[evD,Nat.reduceBEq,Nat.reduceAdd,Nat.reduceLeDiff,zdP,ordH,zzb,zpF,zj,zn hk,zEH]|with_reducible first|intro _|refine aJ ?_)
  generalize hcs:A[k]=cs at hE hdfs hrow ⊢
  let S:=fun i:Nat=>(cs.take i).foldl (zdQ A f) (s.1++[k],s.2)
  refine zd (fun a:Nat × Nat=>([(0,.int .i64 k),(1,.ptr 1 0 0 0 0),(3,.ptr 3 0 0 0 0),(4,.ptr 2 0 0 0 0),(14,zj cs),(15,.int .i64 cs.length),(16,.int .i64 a.1)],ordH A (S a.1) a.2)) 5
   (fun a=>a.1≤cs.length) (fun a=>cs.length - a.1) (0,g) (Wg _) (Ent.tabB [(0,0,0),(1,1,0),(2,2,0),(3,3,0),(4,4,0)] [] rfl rfl rfl (by(try simp only[evWB,Nat.reduceBEq,Nat.reduceAdd,Nat.reduceSub,Nat.reduceLeDiff,Nat.reduceLT,implies_true,S,List.foldl_nil,ordH,zdP,zpF])<;>exact fin4) (by(try simp only[evWB,Nat.reduceBEq,Nat.reduceAdd,Nat.reduceSub,Nat.reduceLeDiff,Nat.reduceLT,implies_true,S,List.foldl_nil,ordH,zdP,zpF])<;>exact fin4)) ?_
  rintro⟨i,a0⟩ hi wf;simp only at hi
  unfold zf5;conv in dcC _ _=>cbv
  (refine Gw2 @uk @uh ?_;intros);have hS:DfsI A.length (m+1) (d+1) (S i):=znd (zqD hok f (m+1) (d+1)) (cs.take i) _ (fun c hc=>hE c (List.mem_of_mem_take hc)) hstart;have hSl:=hS.nd.len
  (refine zw (fun h=>?_) (fun h=>?_))<;>(try simp only[dcd] at h)
  ·
   have hi':i < cs.length:=by omega
   have hst:S (i+1)=zdQ A f (S i) cs[i]:=zl1 hi';have hc:=hE cs[i] (WL hi');generalize S i=s1 at hS hSl hst ⊢
   (repeat first|simp(disch:=try exact dis1) only[evD,Nat.reduceBEq,Nat.reduceAdd,Nat.reduceLeDiff,zn hi']|with_reducible first|intro _|refine aJ ?_)
   generalize cs[i]=c at hst hc ⊢
   (repeat first|simp(disch:=try exact dis1) only[evD,Nat.reduceBEq,Nat.reduceAdd,Nat.reduceLeDiff,zzb,zFw hc]|with_reducible first|intro _|refine aJ ?_)
   (refine zw (fun h2=>?_) (fun h2=>?_))<;>(try simp only[dcd] at h2)
   ·
    have e:zdQ A f s1 c=dfs A f c s1:=by unfold zdQ;rw[if_neg h2]
    rw[e] at hst;(refine Gw1 @ul ?_;intros);refine⟨by kernel_rfl,?_⟩;refine zx [(0,0,0),(1,1,0),(2,2,0),(3,3,0),(4,4,0)] 5 _ (ih c a0 s1 (m+1) (d+1) hS hc h2 (by omega)) rfl rfl (Gin4_2 @uk @ul) (Gin4_2 @uk @ul) ?_;rintro v H' nx' ⟨g',rfl,rfl,rfl⟩;(refine Gw2 @uk @ul ?_;intros);exact⟨(i+1,g'),by simp only;omega,by simp only;omega,(Ent.tabB [(0,0,0),(1,1,0),(2,2,0),(3,3,0),(4,4,0)] [] rfl rfl rfl (Gin4_3 hst @uk @ul) (Gin4_3 hst @uk @ul))⟩
   ·
    have e:zdQ A f s1 c=s1:=by unfold zdQ;rw[if_pos h2]
    rw[e] at hst;(refine Gw0 ?_;intros);exact⟨(i+1,a0),by simp only;omega,by simp only;omega,(Ent.tabB [(0,0,0),(1,1,0),(2,2,0),(3,3,0),(4,4,0)] [] rfl rfl rfl (Gin4_3 hst @uk @ul) (Gin4_3 hst @uk @ul))⟩
  ·
   unfold zfO;conv in dcC _ _=>cbv
   have hi':cs.length≤i:=by omega
   have hSe:S i=cs.foldl (zdQ A f) (s.1++[k],s.2):=by simp only[S];rw[Wk hi']
   have:=hS.post;(refine Gw1 @zhy.eq_1 ?_;intros);refine⟨.tup [],ordH A (dfs A (f+1) k s) (a0+1),5,?_,a0+1,rfl,rfl,rfl⟩;rw[hSe,hdfs];exact(Ent.tabB [(0,0,0),(1,1,0),(2,2,0),(3,3,0),(4,4,0)] [] rfl rfl rfl (Gin4_2 @uk @ul) (Gin4_2 @uk @ul))
def revP(l:List Nat)(i x:Nat):Nat:=if x < i∨l.length - i≤x then l.getD (l.length - 1 - x) 0 else l.getD x 0
def revL(l:List Nat)(i:Nat):List Nat:=(We l.length).map (revP l i)
theorem zDt{l:List Nat}{i:Nat}:(revL l i).length=l.length:=by simp[revL]
theorem zu4{l:List Nat}:revL l 0=l:=by
 apply Wy;intro x;unfold revL revP
 by_cases hx:x < l.length
 ·
  have:¬l.length≤x:=by omega
  simp[hx,Wd,this]
 · simp[hx]
theorem zC4{l:List Nat}{i:Nat}(h:l.length≤2 * i+1):revL l i=l.reverse:=by
 apply Wy;intro x;unfold revL revP
 by_cases hx:x < l.length
 ·
  rw[List.getElem?_reverse hx];simp only[Wr,List.getElem?_range hx,Ws]
  by_cases hc:x < i∨l.length - i≤x
  · rw[if_pos hc];rw[Wd,Wf (show l.length - 1 - x < l.length by omega)];rfl
  · rw[if_neg hc,show l.length - 1 - x=x by omega,Wd,Wf hx];rfl
 · simp[hx]
theorem zw7{l:List Nat}{i x:Nat}(hx:x < l.length):((revL l i).map cN).getD x []=[.int .i64 (revP l i x:Int)]:=by simp[revL,Wd,hx]
theorem zzc{l:List Nat}{i:Nat}(h:2 * i+1 < l.length):
  (((revL l i).map cN).set i [.int .i64 (revP l i (l.length - 1 - i):Int)]).set (l.length - 1 - i) [.int .i64 (revP l i i:Int)]=(revL l (i+1)).map cN:=by
 unfold revL;rw[Wi,Wi,zia,zia]
 refine Wp fun x hx=>?_
 have hx':=Wq.1 hx;unfold updF;simp only[Function.comp]
 by_cases h1:x=l.length - 1 - i
 · rw[if_pos h1];unfold revP;rw[if_neg (by omega),if_pos (by omega),show l.length - 1 - x=i by omega]
 ·
  rw[if_neg h1]
  by_cases h2:x=i
  · rw[if_pos h2];unfold revP;rw[if_neg (by omega),if_pos (by omega),h2]
  ·
   rw[if_neg h2];unfold revP
   by_cases h3:x < i∨l.length - i≤x
   · rw[if_pos h3,if_pos (by omega)]
   · rw[if_neg h3,if_neg (by omega)]
theorem zoY(l:List Nat)(g:Nat)(hl:l.length≤1000000):zU Tryz.prog zc4 [.own 0 0 g 0 l.length] [(0,.row 1 (l.map cN) g)] 1
  (fun v H nx=>v=.tup []∧H=[(0,.row 1 (l.reverse.map cN) g)]∧nx=1):=by
 refine zR (fn_x zjE rfl ?_)
 unfold zfc;conv in dcC _ _=>cbv
 have hB:=hBig;(refine Gw0 ?_;intros);refine zd (fun i:Nat=>([(0,.own 0 0 g 0 l.length),(2,.int .i64 i),(3,.int .i64 ((l.length:Int) - 1 - i))],[(0,.row 1 ((revL l i).map cN) g)])) 1 (fun i=>2 * i≤l.length+1) (fun i=>l.length+1 - i) 0 (by omega) (Ent.tabB [(0,0,0)] [] rfl rfl rfl (Gin4_1 @zu4) (Gin4_1 @zu4)) ?_;intro i hi wf
 unfold zef;conv in dcC _ _=>cbv
 (refine Gw0 ?_;intros)
 (refine zw (fun h=>?_) (fun h=>?_))<;>(try simp only[dcd] at h)
 ·
  have e:((l.length:Int) - 1 - i).toNat=l.length - 1 - i:=by omega
  (repeat first|simp(disch:=try exact dis1) only[evD,Nat.reduceBEq,Nat.reduceAdd,Nat.reduceLeDiff,e,zDt,zw7 (l:=l) (i:=i) (show l.length - 1 - i < l.length by omega),zw7 (l:=l) (i:=i) (show i < l.length by omega),List.length_set]|with_reducible first|intro _|refine aJ ?_)
  rw[zzc (by omega)];exact⟨i+1,by omega,by omega,(Ent.tabB [(0,0,0)] [] rfl rfl rfl Gin4_0 Gin4_0)⟩
 · (refine Gw1 @ze9.eq_1 ?_;intros);refine⟨.tup [],[(0,.row 1 (l.reverse.map cN) g)],1,?_,rfl,rfl,rfl⟩;rw[zC4 (by omega)];exact(Ent.tabB [(0,0,0)] [] rfl rfl rfl Gin4_0 Gin4_0)
def ordL(A:Adj)(r:Nat):List Nat:=(dfs A A.length r ([],[])).2.reverse
theorem zE4{A:Adj}(hok:A.ok){r:Nat}(hr:r < A.length):DfsI A.length 0 0 (dfs A A.length r ([],[])) :=
 zqD hok A.length 0 0 r _ ⟨⟨by simp,by simp⟩,by simp,by simp⟩ hr (by simp)
theorem znP(A:Adj)(hA:A.small)(hok:A.ok)(r:Nat)(hr:r < A.length):zz Tryz.prog zeB [zpF A,.int .i64 r] (·=zj (ordL A r)):=by
 refine fn_x zjq rfl ?_;unfold zga;have hB:=hBig;have hn:=hA.len;have hd:=zE4 hok hr;have hdl:=hd.nd.len;have hdp:=hd.post;have h0:DfsI A.length 0 0 ([],[]):=⟨⟨by simp,by simp⟩,by simp,by simp⟩;(refine Gw1 @zpF.eq_1 ?_;intros)
 (refine zw (fun h=>?_) (fun h=>?_))<;>(try simp only[dcd] at h)
 · omega
 (refine Gw0 ?_;intros);refine⟨by kernel_rfl,?_⟩;refine zx [(0,1,0),(1,2,0),(2,3,0),(3,4,0)] 5 _ (zhL A hA hok A.length r 0 ([],[]) 0 0 h0 hr (by simp) (by omega)) rfl rfl (Gin4_4 @uk @ul @zAm @zpF.eq_1) (Gin4_4 @uk @ul @zAm @zpF.eq_1) ?_;rintro v H' nx' ⟨g',rfl,rfl,rfl⟩;unfold ordL;generalize dfs A A.length r ([],[])=s at hdl hdp ⊢;(refine Gw2 @uk @ul ?_;intros);refine zx [(0,9,0)] 1 _ (zoY s.2 g' (by omega)) rfl rfl Gin4_0 Gin4_0 ?_;rintro v H' nx' ⟨rfl,rfl,rfl⟩;(refine Gw1 @zf8.eq_1 ?_;intros);refine⟨_,?_,rfl⟩;rw[show s.2.length=s.2.reverse.length by simp];exact zou trivial rfl (by simp;omega)
theorem zmH(A:Adj)(r:Nat)(hr:A.length≤r):zz Tryz.prog zeB [zpF A,.int .i64 r] (·=zj []):=by
 refine fn_x zjq rfl ?_;unfold zga;(refine Gw1 @zpF.eq_1 ?_;intros)
 (refine zw (fun h=>?_) (fun h=>?_))<;>(try simp only[dcd] at h)
 · (refine Gw1 @zf8.eq_1 ?_;intros);refine⟨_,?_,rfl⟩;exact zou (l:=[]) trivial rfl (Wg _)
 · omega
theorem dominator_Order_ok(g:Gr)(hg:g.small):zz Tryz.prog zcm [.agg g.cells] (·=zj (orderL g.E)):=by
 refine fn_x zog rfl ?_
 unfold zjs;conv in dcC _ _=>cbv
 (refine Gw2 @ui @Gr.two ?_;intros);refine zi (zf (zpM g hg) rfl) ?_;(refine Gw0 ?_;intros)
 by_cases h0:0 < g.E.length
 ·
  refine zi (zf (znP g.E (Gr.E_small hg) g.E_ok 0 h0) rfl) ?_;(refine Gw1 @zgg.eq_1 ?_;intros);refine⟨_,.sl _ _ _ _,?_⟩
  have:orderL g.E=ordL g.E 0:=by unfold orderL ordL;rw[if_neg (by omega)]
  rw[this];rfl
 ·
  refine zi (zf (zmH g.E 0 (by omega)) rfl) ?_;(refine Gw1 @zgg.eq_1 ?_;intros);refine⟨_,.sl _ _ _ _,?_⟩
  have:orderL g.E=[]:=by unfold orderL;rw[if_pos (by omega)]
  rw[this];rfl
structure TI(A:Adj)(r:Nat)(l:List Nat)(f:Nat→Nat)(T:Nat→Option Nat):Prop where
 wt:WT r l T
 sd:Sd A r l T
 gd:T=(fun _=>none)∨∃T0,Gd A r l f T0 T
structure Bst(U:Nat→Option Nat)(r:Nat)(l qs:List Nat)(best:Option Nat):Prop where
 no:best=none→∀p∈qs,p∈l→¬Hd r U p
 yes:∀c,best=some c→c∈l∧Hd r U c∧∀x,Ch U c x↔∀p∈qs,p∈l→Hd r U p→Ch U p x
theorem dF{p:Prop}(h:¬p){inst:Decidable p}:@decide p inst=false:=decide_eq_false h
theorem dT{p:Prop}(h:p){inst:Decidable p}:@decide p inst=true:=decide_eq_true h
end Go.Ab.Dm
namespace Go.Ab.Dm
structure SL(A:Adj)(r:Nat)(l:List Nat)(inc:Bool)(S:Adj)(n:Nat):Prop where
 nd:∀b,b < n→(suc S b).Nodup
 mem:∀a b,b < n→(a∈suc S b↔(b∈l∧a∈l∧a≠b∧(a≠r∨inc=true)∧Dm A r a b))
end Go.Ab.Dm
namespace Go.Ab.Dm
open Go.RowKit Go.Proofs
theorem orderL_nd{E:Adj}(hE:E.ok):NdL E.length (orderL E):=by
 by_cases hn:0 < E.length
 ·
  have h1:orderL E=ordL E 0:=by unfold orderL ordL;rw[if_neg (by omega)]
  rw[h1];exact⟨(rpo hE hn).nd,(rpo hE hn).lt⟩
 ·
  have h1:orderL E=[]:=by unfold orderL;rw[if_pos (by omega)]
  rw[h1];exact⟨by simp,by simp⟩
end Go.Ab.Dm
namespace Go.Ab
def insU(n:Int):List Int→List Int
 | []=>[n]
 | x::l=>if x < n then x::insU n l else if x=n then x::l else n::x::l
def zhd(a b:List Int):List Int:=b.foldl (fun a x=>insU x a) a
def Asc(l:List Int):Prop:=l.Pairwise (· < ·)
theorem ztd{n y:Int}:∀{l:List Int},y∈insU n l↔y=n∨y∈l
 | []=>by simp[insU]
 |
  x::l=>by
  unfold insU;split
  ·
   rw[Wc,ztd,Wc];constructor
   ·
    rintro(h|h|h)
    · exact .inr (.inl h)
    · exact .inl h
    · exact .inr (.inr h)
   ·
    rintro(h|h|h)
    · exact .inr (.inl h)
    · exact .inl h
    · exact .inr (.inr h)
  ·
   split
   · rename_i h;subst h;simp
   · simp
theorem zw1{n:Int}:∀{l:List Int},Asc l→Asc (insU n l)
 | [],_=>by simp[insU,Asc]
 |
  x::l,h=>by
  have hx:=fun y (hy:y∈l)=>Wz h hy
  have hl:=List.Pairwise.of_cons h;unfold insU;split
  ·
   rename_i h1;refine List.Pairwise.cons (fun y hy=>?_) (zw1 hl)
   rcases ztd.1 hy with rfl|hy
   · exact h1
   · exact hx y hy
  ·
   split
   · exact h
   ·
    refine List.Pairwise.cons (fun y hy=>?_) h
    rcases Wc.1 hy with rfl|hy
    · omega
    · have:=hx y hy;omega
theorem zjT{y:Int}:∀{b a:List Int},y∈zhd a b↔y∈a∨y∈b
 | [],a=>by simp[zhd]
 |
  x::b,a=>by
  have:=zjT (y:=y) (b:=b) (a:=insU x a);unfold zhd at this ⊢;rw[List.foldl_cons,this,ztd,Wc];constructor
  ·
   rintro((h|h)|h)
   · exact .inr (.inl h)
   · exact .inl h
   · exact .inr (.inr h)
  ·
   rintro(h|h|h)
   · exact .inl (.inr h)
   · exact .inl (.inl h)
   · exact .inr h
theorem zkl:∀{b a:List Int},Asc a→Asc (zhd a b)
 | [],a,h=>h
 |
  x::b,a,h=>by
  have:=zkl (b:=b) (zw1 (n:=x) h);unfold zhd at this ⊢;rw[List.foldl_cons];exact this
theorem zvr:∀{a b:List Int},Asc a→Asc b→(∀x,x∈a↔x∈b)→a=b
 | [],[],_,_,_=>rfl
 | [],y::b,_,_,h=>by have:=(h y).2 (by simp);cases this
 | x::a,[],_,_,h=>by have:=(h x).1 (by simp);cases this
 |
  x::a,y::b,ha,hb,h=>by
  have hx:=fun z (hz:z∈a)=>Wz ha hz
  have hy:=fun z (hz:z∈b)=>Wz hb hz
  have e:x=y:=by
   rcases Wc.1 ((h x).1 (by simp)) with h1|h1
   · exact h1
   ·
    rcases Wc.1 ((h y).2 (by simp)) with h2|h2
    · exact h2.symm
    · have:=hx y h2;have:=hy x h1;omega
  subst e
  congr 1
  refine zvr (List.Pairwise.of_cons ha) (List.Pairwise.of_cons hb) fun z=>?_
  constructor
  ·
   intro hz
   rcases Wc.1 ((h z).1 (WN _ hz)) with rfl|h1
   · have:=hx z hz;omega
   · exact h1
  ·
   intro hz
   rcases Wc.1 ((h z).2 (WN _ hz)) with rfl|h1
   · have:=hy z hz;omega
   · exact h1
def zD0(a b:List Int):List Int:=a.filter fun x => !decide (x∈b)
mutual
def zhi:Ex→List Int
 | .mk op _ v _ l=>zl3 (if op=2 then [v] else []) l
def zl3:List Int→List Ex→List Int
 | a,[]=>a
 | a,x::l=>zl3 (zhd a (zhi x)) l
end
mutual
def occX:Ex→List Int
 | .mk op _ v _ l=>(if op=2 then [v] else [])++zds l
def zds:List Ex→List Int
 | []=>[]
 | x::l=>occX x++zds l
end
mutual
theorem zki{y:Int}:∀e:Ex,y∈zhi e↔y∈occX e
 | .mk op _ v _ l=>by rw[zhi,occX,zrW,Wa]
theorem zrW{y:Int}:∀(a:List Int)(l:List Ex),y∈zl3 a l↔y∈a∨y∈zds l
 | a,[]=>by rw[zl3,zds];simp
 | a,x::l=>by rw[zl3,zrW,zjT,zki x,zds,Wa,or_assoc]
end
theorem zsk:∀(a:List Int)(l:List Ex),Asc a→Asc (zl3 a l)
 | a,[],h=>by rw[zl3];exact h
 | a,x::l,h=>by rw[zl3];exact zsk _ l (zkl h)
theorem zAa(e:Ex):Asc (zhi e):=by
 obtain⟨op,n,v,w,l⟩:=e;rw[zhi];refine zsk _ _ ?_
 split<;>simp[Asc]
def zri:List Int→List Ex→List Int
 | a,[]=>a
 | a,x::l=>zri (zhd a (zhi x)) l
def ziV(s:St):List Int:=zri [] s.e
theorem zuy:∀(a:List Int)(l:List Ex),Asc a→Asc (zri a l)
 | a,[],h=>h
 | a,x::l,h=>zuy _ l (zkl h)
theorem znV{y:Int}:∀(a:List Int)(l:List Ex),y∈zri a l↔y∈a∨y∈zds l
 | a,[]=>by rw[zri,zds];simp
 | a,x::l=>by rw[zri,znV,zjT,zki x,zds,Wa,or_assoc]
theorem zy7(s:St):Asc (ziV s):=zuy _ _ (by simp[Asc])
def zkw(s:St):List Int:=if s.op=1∨s.op=3 then [s.var] else []
def zFc(s:St):Bool:=decide (s.op=9∨s.op=10∨s.op=5)
def zEn(exit:List Int)(s:St)(after:List Int):List Int :=
 if zFc s=true then zhd (zhd (zD0 after (zkw s)) (ziV s)) exit else zhd (zD0 after (zkw s)) (ziV s)
def beginB(exit:List Int)(l:List St)(e:List Int):List Int:=l.foldr (zEn exit) e
def zEz(exit:List Int)(l:List St)(e:List Int):List Int:=if l.length=0 then [] else beginB exit l e
def endT(ins:List (List Int))(a:List Int)(t:Int):List Int:=if 0≤t∧t < ins.length then zhd a (ins.getD t.toNat []) else a
def endB(ins:List (List Int))(l:List St):List Int:=(zav l).foldl (endT ins) []
def newB(exit:List Int)(g:List Bl)(ins:List (List Int))(i:Nat):List Int:=zEz exit ((g.map (·.stmts)).getD i []) (endB ins ((g.map (·.stmts)).getD i []))
structure LInv(exit:List Int)(g:List Bl)(ins:List (List Int)):Prop where
 len:ins.length=g.length
 asc:∀i,Asc (ins.getD i [])
 sub:∀i,∀x∈ins.getD i [],x∈newB exit g ins i
end Go.Ab
namespace Go.Ab
open Go.RowKit Go.Proofs
def leB(a b:List Bool):Prop:=∀i,a.getD i false=true→b.getD i false=true
theorem leB.refl(a:List Bool):leB a a:=fun _ h=>h
theorem leB.trans{a b c:List Bool}(h:leB a b)(k:leB b c):leB a c:=fun i x=>k i (h i x)
theorem zqx{o:List Bool}{b i:Nat}{x:Bool}(hb:b < o.length):(o.set b x).getD i false=if i=b then x else o.getD i false:=by
 simp only[Wj]
 by_cases h:i=b
 · subst h;rw[if_pos rfl,List.getElem?_set_self hb];rfl
 · rw[if_neg h,List.getElem?_set_ne (Ne.symm h)]
theorem zCM{a b:List Bool}(hl:a.length=b.length)(h:leB a b)(k:leB b a):a=b:=by
 refine List.ext_getElem hl fun i h1 h2=>?_
 have e1:a.getD i false=a[i]:=by simp[Wj,h1]
 have e2:b.getD i false=b[i]:=by simp[Wj,h2]
 have h3:=h i;have h4:=k i;rw[e1,e2] at h3 h4
 cases ha:a[i] with
 | true=>exact(h3 ha).symm
 |
  false =>
  cases hb:b[i] with
  | true=>rw[h4 hb] at ha;cases ha
  | false=>rfl
def cntT(l:List Bool):Nat:=(l.filter id).length
theorem zFs(l:List Bool):cntT l≤l.length:=Wn _ _
theorem zxp:∀{l:List Bool}{b:Nat},b < l.length→l.getD b false=false→cntT (l.set b true)=cntT l+1
 | [],b,h,_=>by cases h
 |
  x::l,0,_,hx=>by
  have:x=false:=by simpa using hx
  subst this;simp[cntT]
 |
  x::l,b+1,h,hx=>by
  have ih:=zxp (l:=l) (b:=b) (by simpa using h) (by simpa using hx);unfold cntT at ih ⊢
  cases x<;>simp at ih ⊢<;>omega
structure MonoF(n:Nat)(F:List Bool→Nat→Bool):Prop where
 mono:∀o o' b,b < n→leB o o'→F o b=true→F o' b=true
section
variable {n:Nat} {F:List Bool→Nat→Bool}
def zmB(F:List Bool→Nat→Bool)(o:List Bool)(b:Nat):List Bool:=o.set b (F o b)
def upB(n:Nat)(F:List Bool→Nat→Bool)(o:List Bool):Prop:=o.length=n∧∀b,b < n→o.getD b false=true→F o b=true
theorem zzB{o:List Bool}{b:Nat}:(zmB F o b).length=o.length:=by simp[zmB]
theorem zxy{o:List Bool}{b:Nat}(ho:upB n F o)(hb:b < n):leB o (zmB F o b):=fun i h=>by
 unfold zmB;rw[zqx (by rw[ho.1];exact hb)];split
 · rename_i e;subst e;exact ho.2 _ hb h
 · exact h
theorem zs1(hF:MonoF n F){o:List Bool}{b:Nat}(ho:upB n F o)(hb:b < n):upB n F (zmB F o b):=by
 refine⟨by rw[zzB,ho.1],fun i hi h=>?_⟩;have hge:=zxy ho hb;unfold zmB at h;rw[zqx (by rw[ho.1];exact hb)] at h;split at h
 · rename_i e;subst e;exact hF.mono _ _ _ hb hge h
 · exact hF.mono _ _ _ hi hge (ho.2 i hi h)
theorem zBm{o:List Bool}{b:Nat}(ho:upB n F o)(hb:b < n):zmB F o b=o∧F o b=o.getD b false∨cntT (zmB F o b)=cntT o+1:=by
 have hl:b < o.length:=by rw[ho.1];exact hb
 have e:o.getD b false=o[b]:=by simp[Wj,hl]
 unfold zmB
 cases h:F o b with
 |
  false =>
  have h1:o.getD b false=false:=by
   cases h2:o.getD b false with
   | false=>rfl
   | true=>rw[ho.2 b hb h2] at h;cases h
  refine .inl ⟨?_,h1.symm⟩;rw[e] at h1;rw[←h1];exact WO hl
 |
  true =>
  cases h2:o.getD b false with
  |
   true =>
   refine .inl ⟨?_,rfl⟩;rw[e] at h2;rw[←h2];exact WO hl
  | false=>exact .inr (zxp hl h2)
theorem zva{o Y:List Bool}{b:Nat}(hF:MonoF n F)(ho:upB n F o)(hb:b < n)(hY:∀b,b < n→F Y b=true→Y.getD b false=true)(h:leB o Y):leB (zmB F o b) Y:=fun i hi=>by
 unfold zmB at hi;rw[zqx (by rw[ho.1];exact hb)] at hi;split at hi
 · rename_i e;subst e;exact hY _ hb (hF.mono _ _ _ hb h hi)
 · exact h i hi
def zoc(F:List Bool→Nat→Bool)(bs:List Nat)(o:List Bool):List Bool:=bs.foldl (zmB F) o
theorem zrf(hF:MonoF n F):∀{bs:List Nat}{o:List Bool},(∀b∈bs,b < n)→upB n F o→upB n F (zoc F bs o)∧leB o (zoc F bs o)∧(zoc F bs o=o∧(∀b∈bs,F o b=o.getD b false)∨cntT o < cntT (zoc F bs o))
 | [],o,_,ho=>⟨ho,leB.refl _,.inl ⟨rfl,fun b hb=>by cases hb⟩⟩
 |
  b::bs,o,hb,ho=>by
  have hb0:=hb b (by simp);obtain⟨h1,h2,h3⟩:=zrf hF (bs:=bs) (o:=zmB F o b) (fun x hx=>hb x (by simp[hx])) (zs1 hF ho hb0);refine⟨h1,(zxy ho hb0).trans h2,?_⟩;show (zoc F bs (zmB F o b)=o∧_)∨cntT o < cntT (zoc F bs (zmB F o b))
  rcases zBm ho hb0 with ⟨h4,h5⟩|h4
  ·
   rw[h4] at h3 ⊢
   rcases h3 with ⟨h6,h7⟩|h6
   · exact .inl ⟨h6,fun x hx=>by
     rcases Wc.1 hx with rfl|hx
     · exact h5
     · exact h7 x hx⟩
   · exact .inr h6
  ·
   right
   rcases h3 with ⟨h6,_⟩|h6
   · rw[h6];omega
   · omega
theorem zrX(hF:MonoF n F){Y:List Bool}(hY:∀b,b < n→F Y b=true→Y.getD b false=true):∀{bs:List Nat}{o:List Bool},(∀b∈bs,b < n)→upB n F o→leB o Y→leB (zoc F bs o) Y
 | [],o,_,_,h=>h
 | b::bs,o,hb,ho,h=>zrX hF hY (bs:=bs) (fun x hx=>hb x (by simp[hx])) (zs1 hF ho (hb b (by simp))) (zva hF ho (hb b (by simp)) hY h)
def zsY(F:List Bool→Nat→Bool)(bs:List Nat):Nat→List Bool→List Bool
 | 0,o=>o
 | k+1,o=>zsY F bs k (zoc F bs o)
theorem zuE{bs:List Nat}{o:List Bool}(h:zoc F bs o=o):∀k,zsY F bs k o=o
 | 0=>rfl
 | k+1=>by rw[zsY,h,zuE h k]
theorem zxo(hF:MonoF n F){bs:List Nat}(hb:∀b∈bs,b < n):∀(k:Nat)(o:List Bool),upB n F o→n < cntT o+k→upB n F (zsY F bs k o)∧∀b∈bs,F (zsY F bs k o) b=(zsY F bs k o).getD b false
 |
  0,o,ho,h=>by
  have:=zFs o;rw[ho.1] at this;omega
 |
  k+1,o,ho,h=>by
  obtain⟨h1,h2,h3⟩:=zrf hF hb ho
  rcases h3 with ⟨h4,h5⟩|h4
  · rw[zuE h4];exact⟨ho,h5⟩
  · rw[zsY];exact zxo hF hb k _ h1 (by omega)
theorem ztX(hF:MonoF n F){Y:List Bool}(hY:∀b,b < n→F Y b=true→Y.getD b false=true){bs:List Nat}(hb:∀b∈bs,b < n):∀(k:Nat)(o:List Bool),upB n F o→leB o Y→leB (zsY F bs k o) Y
 | 0,o,_,h=>h
 | k+1,o,ho,h=>ztX hF hY hb k _ (zrf hF hb ho).1 (zrX hF hY hb ho h)
def zmQ(n:Nat)(F:List Bool→Nat→Bool):List Bool:=zsY F (We n) (n+1) (Wh n false)
theorem zzg:upB n F (Wh n false):=⟨by simp,fun b hb h=>by simp[Wj,hb] at h⟩
theorem zuU(hF:MonoF n F):(zmQ n F).length=n∧∀b,b < n→F (zmQ n F) b=(zmQ n F).getD b false:=by obtain⟨h1,h2⟩:=zxo hF (bs:=We n) (fun b hb=>Wq.1 hb) (n+1) _ zzg (by omega);exact⟨h1.1,fun b hb=>h2 b (Wq.2 hb)⟩
theorem zy1(hF:MonoF n F){Y:List Bool}(hY:∀b,b < n→F Y b=true→Y.getD b false=true):leB (zmQ n F) Y :=
 ztX hF hY (fun b hb=>Wq.1 hb) _ _ zzg fun i h=>by
  simp only[Wj,List.getElem?_replicate] at h
  split at h<;>cases h
theorem zze(hF:MonoF n F){X:List Bool}(hl:X.length=n)(hX:∀b,b < n→F X b=X.getD b false)(hlow:leB X (zmQ n F)):X=zmQ n F:=by refine zCM (by rw[hl,(zuU hF).1]) hlow (zy1 hF fun b hb h=>?_);rw[←hX b hb];exact h
end
end Go.Ab
namespace Go.Ab
open Go.RowKit Go.Proofs Go.Maps Go.Sort Go.Shelf
end Go.Ab
